/- Boxes that a function holds become shared data before the function goes into a box. -/
import Derived.Test.YtdphdliikpdiiaaEv10n10
import Derived.Test.YtdphdliikpdiiaaAb11n17
set_option linter.unusedVariables false
set_option linter.unusedSimpArgs false
set_option linter.unusedSectionVars false
namespace Go.Ab
noncomputable section
open Enc (enc)
mutual
def EV.frz (id : Nat) (t : Ty) (x : t.den) : EV → EV
  | .ptr i o => bif Nat.beq i id && Nat.beq o 0 then .addr t x else .ptr i o
  | .agg l => .agg (EV.frzL id t x l)
  | .tup l => .tup (EV.frzL id t x l)
  | .fn f l => .fn f (EV.frzL id t x l)
  | .any => .any
  | .undef => .undef
  | .d u y => .d u y
  | .nil => .nil
  | .own i => .own i
  | .eptr i s j k => .eptr i s j k
  | .addr u y => .addr u y
  | .lit v => .lit v
def EV.frzL (id : Nat) (t : Ty) (x : t.den) : List EV → List EV
  | [] => []
  | y :: r => EV.frz id t x y :: EV.frzL id t x r
end
mutual
theorem EV.frz_av (id : Nat) (t : Ty) (x : t.den) : ∀ y : EV, (EV.frz id t x y).av = AV.frz id (encD t x) y.av
  | .ptr i o => by
    rw [EV.frz, EV.av, AV.frz]
    cases Nat.beq i id && Nat.beq o 0 <;> rfl
  | .agg l => by rw [EV.frz, EV.av, EV.av, AV.frz, EV.frzL_av id t x l]
  | .tup l => by rw [EV.frz, EV.av, EV.av, AV.frz, EV.frzL_av id t x l]
  | .fn f l => by rw [EV.frz, EV.av, EV.av, AV.frz, EV.frzL_av id t x l]
  | .any => rfl
  | .undef => rfl
  | .d u y => rfl
  | .nil => rfl
  | .own i => rfl
  | .eptr i s j k => rfl
  | .addr u y => rfl
  | .lit v => rfl
theorem EV.frzL_av (id : Nat) (t : Ty) (x : t.den) : ∀ l : List EV, EV.avL (EV.frzL id t x l) = AV.frzL id (encD t x) (EV.avL l)
  | [] => rfl
  | y :: r => by rw [EV.frzL, EV.avL, EV.avL, AV.frzL, EV.frz_av id t x y, EV.frzL_av id t x r]
end
def EEnt.frz (id : Nat) (t : Ty) (x : t.den) : EEnt → EEnt
  | .box T c => .box T (EV.frzL id t x c)
  | .arr E u l => .arr E u l
theorem EEnt.frz_ent (id : Nat) (t : Ty) (x : t.den) (e : EEnt) : (EEnt.frz id t x e).ent = Ent.frz id (encD t x) e.ent := by
  cases e with
  | arr E u l => rfl
  | box T c => rw [EEnt.frz, EEnt.ent, EEnt.ent, Ent.frz, EV.frzL_av]
def ESt.freezeAll (s : ESt) (id : Nat) (t : Ty) (x : t.den) : ESt :=
  ⟨s.n, s.slots.map (fun p => (p.1, p.2.frz id t x)) ++ s.slots, ((id, none) :: s.heap.map fun p => (p.1, p.2.map (EEnt.frz id t x))) ++ s.heap, s.nxt⟩
theorem look_app {β : Type} : ∀ (l m : List (Nat × β)) (k : Nat), look (l ++ m) k = match look l k with | some v => some v | none => look m k
  | [], m, k => rfl
  | (j, v) :: l, m, k => by
    rw [List.cons_append, look_cons, look_cons, look_app l m k]
    by_cases h : j = k
    · rw [if_pos h, if_pos h]
    · rw [if_neg h, if_neg h]
theorem freezeAll_get (s : ESt) (id : Nat) (t : Ty) (x : t.den) (k : Nat) : (s.freezeAll id t x).get k = (s.get k).map (EV.frz id t x) := by
  unfold ESt.get ESt.freezeAll
  rw [look_app, look_map]
  cases look s.slots k <;> rfl
theorem freezeAll_ent (s : ESt) (id : Nat) (t : Ty) (x : t.den) (j : Nat) : (s.freezeAll id t x).ent j = if id = j then none else (s.ent j).map (EEnt.frz id t x) := by
  unfold ESt.ent ESt.freezeAll
  rw [List.cons_append, look_cons]
  by_cases h : id = j
  · rw [if_pos h, if_pos h]
  · rw [if_neg h, if_neg h, look_app, look_map]
    cases h2 : look s.heap j with
    | none => rfl
    | some e => cases e <;> rfl
theorem Sfx.freezeAll (s : ESt) (id : Nat) (t : Ty) (x : t.den) : Sfx s (s.freezeAll id t x) := ⟨⟨_, rfl⟩, ⟨_, rfl⟩, Nat.le_refl _, rfl⟩
/-- A box of data is shared from here on. -/
def ESt.freeze1 (TT : List TE) (s : ESt) (id : Nat) : ESt := match s.ent id with
  | some (.box T cs) => match tyT TT T with
    | some t => match packL t cs with
      | some (x, []) => s.freezeAll id t x
      | _ => s
    | none => s
  | _ => s
theorem freeze1_wk (TT : List TE) (s : ESt) (id : Nat) : Wk s (s.freeze1 TT id) ∧ Sfx s (s.freeze1 TT id) := by
  unfold ESt.freeze1
  split
  · rename_i T cs he
    split
    · rename_i t _
      split
      · rename_i x hx
        refine ⟨⟨fun F a w ⟨H, r⟩ => ⟨H, ?_⟩, fun k u y h => by rw [freezeAll_get, h]; rfl⟩, Sfx.freezeAll s id t x⟩
        obtain ⟨l1, h1, h2⟩ := packL_spec hx
        rw [List.append_nil] at h1
        subst h1
        have r2 := r.boxpack (ent_st he) h2
        refine r2.freezeAll (id := id) (T := T) (x := encD t x) ?_ rfl rfl (fun j e hj => ?_) (fun k y hk => ?_)
        · rw [St.ent_put, if_pos rfl]; rfl
        · rw [st_ent, freezeAll_ent] at hj
          by_cases h : id = j
          · rw [if_pos h] at hj; cases hj
          · rw [if_neg h] at hj
            refine ⟨fun e => h e.symm, ?_⟩
            cases he2 : s.ent j with
            | none => rw [he2] at hj; cases hj
            | some e0 =>
              rw [he2] at hj
              cases hj
              exact ⟨e0.ent, by rw [St.ent_put, if_neg h]; exact ent_st he2, EEnt.frz_ent id t x e0⟩
        · rw [st_get, freezeAll_get] at hk
          cases hg : s.get k with
          | none => rw [hg] at hk; cases hk
          | some z =>
            rw [hg] at hk
            cases hk
            exact ⟨z.av, get_st hg, EV.frz_av id t x z⟩
      · exact ⟨Wk.refl _, Sfx.refl _⟩
    · exact ⟨Wk.refl _, Sfx.refl _⟩
  · exact ⟨Wk.refl _, Sfx.refl _⟩
def frzCaps (TT : List TE) : ESt → List EV → ESt
  | s, [] => s
  | s, .ptr id _ :: r => frzCaps TT (s.freeze1 TT id) r
  | s, _ :: r => frzCaps TT s r
theorem frzCaps_wk (TT : List TE) : ∀ (l : List EV) (s : ESt), Wk s (frzCaps TT s l) ∧ Sfx s (frzCaps TT s l)
  | [], s => ⟨Wk.refl s, Sfx.refl s⟩
  | y :: r, s => by
    cases y with
    | ptr id o =>
      simp only [frzCaps]
      obtain ⟨h1, h2⟩ := freeze1_wk TT s id
      obtain ⟨h3, h4⟩ := frzCaps_wk TT r (s.freeze1 TT id)
      exact ⟨h1.trans h3, h2.trans h4⟩
    | _ =>
      simp only [frzCaps]
      exact frzCaps_wk TT r s
/-- Before a function goes into a box: the boxes that it holds are shared. -/
def frzV (TT : List TE) (s : ESt) : Option EV → ESt
  | some (.fn _ c) => frzCaps TT s c
  | _ => s
theorem frzV_wk (TT : List TE) (s : ESt) (v : Option EV) : Wk s (frzV TT s v) ∧ Sfx s (frzV TT s v) := by
  unfold frzV
  split
  · exact frzCaps_wk TT _ s
  · exact ⟨Wk.refl _, Sfx.refl _⟩
theorem freeze1_nxt (TT : List TE) (s : ESt) (id : Nat) : (s.freeze1 TT id).nxt = s.nxt := by
  unfold ESt.freeze1
  split
  · split
    · split <;> rfl
    · rfl
  · rfl
theorem frzCaps_nxt (TT : List TE) : ∀ (l : List EV) (s : ESt), (frzCaps TT s l).nxt = s.nxt
  | [], s => rfl
  | y :: r, s => by
    cases y with
    | ptr id o => simp only [frzCaps]; rw [frzCaps_nxt TT r, freeze1_nxt]
    | _ => simp only [frzCaps]; exact frzCaps_nxt TT r s
theorem frzV_nxt (TT : List TE) (s : ESt) (v : Option EV) : (frzV TT s v).nxt = s.nxt := by
  unfold frzV
  split
  · exact frzCaps_nxt TT _ s
  · rfl
end
end Go.Ab
