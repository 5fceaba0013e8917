/- Where ways meet: a state laid against a shape. -/
import Derived.Test.YtlbiilfoecehdaaEv19n23
set_option linter.unusedVariables false
set_option linter.unusedSimpArgs false
set_option linter.unusedSectionVars false
namespace Go.Ab
noncomputable section
open Enc (enc)

structure SubF (mp : List (Nat × Option Nat)) (σ σ' : St) : Prop where
  n : σ'.n = σ.n
  ok : mpOK mp σ'.nxt = true
  slots : ∀ k x', σ'.get k = some x' → x' = .any ∨ ∃ x, σ.get k = some x ∧ Cv mp x x'
  heap : ∀ i e', σ'.ent i = some e' → entOK mp σ i e'

section
variable {F : Fr} {σ σ' : St} {H : Hd} {a : Act} {w : World} {mp : List (Nat × Option Nat)}

theorem SubF.ent' (h : SubF mp σ σ') (r : RelH F σ H a w) {i : Nat} {e' : Ent} (hi : σ'.ent i = some e') :
    (∃ o e v, σ.ent o = some e ∧ H o = some v ∧ renH mp H i = some v ∧ renE true mp e' = some e ∧ (look mp i = some (some o) ∨ (LIM ≤ i ∧ o = i ∧ look mp i = none))) ∨
    (renH mp H i = some (.slice none 0 0) ∧ ∃ E sz bts, e' = .arr E sz bts [] ∧ 0 < sz) := by
  have hh := h.heap i e' hi
  unfold entOK at hh
  split at hh
  · rename_i o ho
    obtain ⟨e, h1, h2⟩ := hh
    obtain ⟨v, hv, _⟩ := r.ent o e h1
    exact .inl ⟨o, e, v, h1, hv, (fits_renH h.ok).1 i o v ho hv, h2, .inl ho⟩
  · rename_i ho
    exact .inr ⟨(fits_renH h.ok).2.1 i ho, hh⟩
  · rename_i ho
    obtain ⟨hl, e, h1, h2⟩ := hh
    have hl : LIM ≤ i := by simpa using hl
    obtain ⟨v, hv, _⟩ := r.ent i e h1
    exact .inl ⟨i, e, v, h1, hv, by rw [(fits_renH h.ok).2.2 rfl i hl ho]; exact hv, h2, .inr ⟨hl, rfl, ho⟩⟩

theorem SubF.sh (h : SubF mp σ σ') (r : RelH F σ H a w) (b : Nat) (hb : Sh F.X σ.ent H w b) : Sh F.X σ'.ent (renH mp H) w b := by
  refine ⟨hb.1, hb.2.1, fun i e' v hi hv hbv => ?_⟩
  rcases h.ent' r hi with ⟨o, e, u, h1, h2, h3, _, _⟩ | ⟨h3, _⟩
  · rw [h3] at hv; cases hv; exact hb.2.2 o e v h1 h2 hbv
  · rw [h3] at hv; cases hv; simp [blk] at hbv

theorem SubF.relH (h : SubF mp σ σ') (r : RelH F σ H a w) : RelH F σ' (renH mp H) a w where
  size := r.size.trans h.n.symm
  defs := r.defs
  os := r.os
  tape := r.tape
  output := r.output
  grow := r.grow
  keep := r.keep
  xlt := r.xlt
  fresh id h1 h2 := by
    unfold renH
    rw [if_neg (by omega)]
    cases hl : look mp id with
    | none => rfl
    | some q => have := (mp_key h.ok hl).1; omega
  pin id h1 := by unfold renH; rw [if_pos h1]; exact r.pin id h1
  ent i e' hi := by
    have hS := h.sh r
    rcases h.ent' r hi with ⟨o, e, v, h1, h2, h3, h4, _⟩ | ⟨h3, E, sz, bts, rfl, hsz⟩
    · obtain ⟨u, hu, hr⟩ := r.ent o e h1
      rw [h2] at hu; cases hu
      exact ⟨v, h3, hr.ren (fits_renH h.ok) hS h4⟩
    · exact ⟨_, h3, .arr E sz bts [] _ [] hsz (ownsO.of_row (World.ownsRow_nil w 0 E sz)) (by simp [most]) (by simp) (by simp)⟩
  own i e' v b hi hv hb := by
    rcases h.ent' r hi with ⟨o, e, u, h1, h2, h3, _, _⟩ | ⟨h3, _⟩
    · rw [h3] at hv; cases hv; exact r.own o e v b h1 h2 hb
    · rw [h3] at hv; cases hv; simp [blk] at hb
  inj i j e1 e2 u v b h1 h2 h3 h4 h5 h6 := by
    rcases h.ent' r h1 with ⟨o, e, x, g1, g2, g3, _, g4⟩ | ⟨g3, _⟩
    · rcases h.ent' r h2 with ⟨o', e', x', k1, k2, k3, _, k4⟩ | ⟨k3, _⟩
      · rw [g3] at h3; cases h3
        rw [k3] at h4; cases h4
        have := r.inj o o' e e' u v b g1 k1 g2 k2 h5 h6
        subst this
        exact sub_same h.ok g4 k4
      · rw [k3] at h4; cases h4; simp [blk] at h6
    · rw [g3] at h3; cases h3; simp [blk] at h5
  slot k x' hx := by
    rcases h.slots k x' hx with rfl | ⟨x, h1, h2⟩
    · exact .any _
    · exact h2.rel (fits_renH h.ok) (h.sh r) (r.slot k x h1)
end

/-! ### what stays as it is -/
def fixB (mp : List (Nat × Option Nat)) (i : Nat) : Bool := match look mp i with
  | some (some o) => Nat.beq o i
  | some none => false
  | none => Nat.ble LIM i

mutual
def EV.fix (mp : List (Nat × Option Nat)) : EV → Bool
  | .own i => fixB mp i
  | .ptr i _ => fixB mp i
  | .eptr i _ _ _ => fixB mp i
  | .vptr i _ _ _ _ => fixB mp i
  | .view i _ _ _ => fixB mp i
  | .raw _ => false
  | .agg l => EV.fixL mp l
  | .tup l => EV.fixL mp l
  | .fn _ l => EV.fixL mp l
  | _ => true
def EV.fixL (mp : List (Nat × Option Nat)) : List EV → Bool
  | [] => true
  | x :: r => x.fix mp && EV.fixL mp r
end
def EEnt.fix (mp : List (Nat × Option Nat)) : EEnt → Bool
  | .arr _ _ _ => true
  | .box _ c => EV.fixL mp c

theorem fixB_own {mp : List (Nat × Option Nat)} {i : Nat} (h : fixB mp i = true) : ren true mp (.own i) = some (.own i) ∧ (∀ k, ren true mp (.ptr i k) = some (.ptr i k)) ∧ (∀ s j k, ren true mp (.eptr i s j k) = some (.eptr i s j k)) ∧ ∀ s j k, ren true mp (.view i s j k) = some (.view i s j k) := by
  unfold fixB at h
  split at h
  · rename_i o ho
    have := Nat.eq_of_beq_eq_true h
    subst this
    exact ⟨by simp only [ren, ho], fun k => by simp only [ren, ho], fun s j k => by simp only [ren, ho], fun s j k => by simp only [ren, ho]⟩
  · cases h
  · rename_i ho
    refine ⟨?_, fun k => ?_, fun s j k => ?_, fun s j k => ?_⟩ <;> simp only [ren, ho, h, Bool.and_self, cond_true]

mutual
theorem fix_ren {mp : List (Nat × Option Nat)} : ∀ {x : EV}, x.fix mp = true → ren true mp x.av = some x.av
  | .any, _ => rfl
  | .undef, _ => rfl
  | .d _ _, _ => rfl
  | .nil, _ => rfl
  | .own i, h => (fixB_own h).1
  | .ptr i k, h => (fixB_own h).2.1 k
  | .eptr i t j k, h => (fixB_own h).2.2.1 t.sz j k
  | .vptr i o n t j, h => (fixB_own h).2.1 (o + j)
  | .view i t j n, h => (fixB_own h).2.2.2 t.sz j n
  | .raw _, h => by cases h
  | .addr _ _, _ => rfl
  | .agg l, h => by
    have := fixL_ren (l := l) h
    simp only [EV.av, ren, this]
  | .tup l, h => by
    have := fixL_ren (l := l) h
    simp only [EV.av, ren, this]
  | .fn f l, h => by
    have := fixL_ren (l := l) h
    simp only [EV.av, ren, this]
  | .lit _, _ => rfl
theorem fixL_ren {mp : List (Nat × Option Nat)} : ∀ {l : List EV}, EV.fixL mp l = true → renL true mp (EV.avL l) = some (EV.avL l)
  | [], _ => rfl
  | x :: l, h => by
    simp only [EV.fixL, Bool.and_eq_true] at h
    rw [EV.avL, renL, fix_ren h.1, fixL_ren h.2]
end
theorem eeFix_ren {mp : List (Nat × Option Nat)} {e : EEnt} (h : e.fix mp = true) : renE true mp e.ent = some e.ent := by
  cases e with
  | arr E t l => rfl
  | box T c => simp only [EEnt.fix] at h; simp only [EEnt.ent, renE, fixL_ren h]

def EV.noIds : EV → Bool
  | .d _ _ => true
  | .any => true
  | .undef => true
  | .nil => true
  | .addr _ _ => true
  | .lit _ => true
  | _ => false
theorem noIds_fix {mp : List (Nat × Option Nat)} {x : EV} (h : x.noIds = true) : x.fix mp = true := by
  cases x <;> first | rfl | (simp [EV.noIds] at h)

def chkSlots (mp : List (Nat × Option Nat)) : List Nat → List (Nat × EV) → Bool
  | _, [] => true
  | seen, (k, x) :: r => (x.noIds || seen.contains k || x.fix mp) && chkSlots mp (k :: seen) r
theorem chkSlots_spec {mp : List (Nat × Option Nat)} : ∀ {l : List (Nat × EV)} {seen : List Nat} {k : Nat} {x : EV}, chkSlots mp seen l = true → look l k = some x → k ∉ seen → x.fix mp = true
  | (k', y) :: r, seen, k, x, h, hl, hs => by
    simp only [chkSlots, Bool.and_eq_true, Bool.or_eq_true] at h
    rw [look_cons] at hl
    by_cases hk : k' = k
    · rw [if_pos hk] at hl; cases hl
      rcases h.1 with (h1 | h1) | h1
      · exact noIds_fix h1
      · exact absurd (by rw [← hk]; simpa using h1) hs
      · exact h1
    · rw [if_neg hk] at hl
      exact chkSlots_spec h.2 hl (fun hm => by
        rcases List.mem_cons.1 hm with e | hm
        · exact hk e.symm
        · exact hs hm)

def chkHeap (mp : List (Nat × Option Nat)) (nxt : Nat) : List Nat → List (Nat × Option EEnt) → Bool
  | _, [] => true
  | seen, (i, none) :: r => chkHeap mp nxt (i :: seen) r
  | seen, (i, some e) :: r => (seen.contains i || ((Nat.blt i nxt || Nat.ble LIM i) && fixB mp i && e.fix mp)) && chkHeap mp nxt (i :: seen) r
theorem chkHeap_spec {mp : List (Nat × Option Nat)} {nxt : Nat} : ∀ {l : List (Nat × Option EEnt)} {seen : List Nat} {i : Nat} {e : EEnt}, chkHeap mp nxt seen l = true → look l i = some (some e) → i ∉ seen →
    (i < nxt ∨ LIM ≤ i) ∧ fixB mp i = true ∧ e.fix mp = true
  | (i', o) :: r, seen, i, e, h, hl, hs => by
    rw [look_cons] at hl
    by_cases hi : i' = i
    · rw [if_pos hi] at hl; cases hl
      subst hi
      simp only [chkHeap, Bool.and_eq_true, Bool.or_eq_true] at h
      rcases h.1 with h1 | h1
      · exact absurd (by simpa using h1) hs
      · exact ⟨by simpa using h1.1.1, h1.1.2, h1.2⟩
    · rw [if_neg hi] at hl
      have hr : chkHeap mp nxt (i' :: seen) r = true := by
        cases o with
        | none => exact h
        | some e' => simp only [chkHeap, Bool.and_eq_true] at h; exact h.2
      exact chkHeap_spec hr hl (fun hm => by
        rcases List.mem_cons.1 hm with e | hm
        · exact hi e.symm
        · exact hs hm)

/-! ### the capture -/
structure Join where
  sh : Shape
  drop : List Nat
  dropE : List Nat
  keep : List Nat
  nxt : Nat
  prep : List (Nat × Nat × Option Nat × Ty)

def tgt (s : ESt) (j : Join) (X : Tup j.sh.tys) : ESt :=
  ⟨s.n, (j.sh.slots.map fun p => (p.1, p.2.ev (Tup.get j.sh.tys X) id)) ++ ((j.drop.map fun k => (k, .any)) ++ s.slots),
    heapOf (Tup.get j.sh.tys X) id j.sh.ents ++ ((j.dropE.map fun i => (i, none)) ++ s.heap), j.nxt⟩

/-- Slots that are to be data become data. -/
def datSlots (tys : List Ty) : ESt → List (Nat × SV) → ESt
  | s, [] => s
  | s, (k, .v j) :: r => match tys[j]? with
    | some t => datSlots tys (s.dat (.tmp k) t) r
    | none => datSlots tys s r
  | s, _ :: r => datSlots tys s r
theorem datSlots_wk (tys : List Ty) : ∀ (l : List (Nat × SV)) (s : ESt), Wk s (datSlots tys s l) ∧ Sfx s (datSlots tys s l)
  | [], s => ⟨Wk.refl s, Sfx.refl s⟩
  | (k, sv) :: r, s => by
    cases sv with
    | v j =>
      simp only [datSlots]
      split
      · rename_i t _
        obtain ⟨h1, h2⟩ := datSlots_wk tys r (s.dat (.tmp k) t)
        exact ⟨(dat_wk s _ t).trans h1, (Sfx.dat s _ t).trans h2⟩
      · exact datSlots_wk tys r s
    | _ => exact datSlots_wk tys r s

/-- The slots, laid against the shape; and the names that stand for empty arrays. -/
def mchS (s : ESt) : List (Nat × SV) → Vs × Ids → List Nat → Option ((Vs × Ids) × List Nat)
  | [], acc, nl => some (acc, nl)
  | (k, sv) :: r, acc, nl => match s.get k with
    | none => none
    | some x => match sv, x with
      | .own i, .nil => mchS s r acc (i :: nl)
      | sv, x => match mch sv x acc with
        | some acc => mchS s r acc nl
        | none => none

/-- Empty arrays. -/
def mchN (tys : List Ty) (nl : List Nat) : List (Nat × SE) → Vs → Option (List (Nat × SE) × Vs)
  | [], vs => some ([], vs)
  | (i, .arr E j) :: r, vs => bif nl.contains i then (match tys[j]? with
      | some (.list t) => bif Nat.blt 0 t.sz then mchN tys nl r ((j, .d (.list t) ([] : List t.den)) :: vs) else none
      | _ => none) else (match mchN tys nl r vs with
      | some (l, vs) => some ((i, .arr E j) :: l, vs)
      | none => none)
  | (i, .box T c) :: r, vs => match mchN tys nl r vs with
    | some (l, vs) => some ((i, .box T c) :: l, vs)
    | none => none

def mpOf (ids : Ids) (nl keep : List Nat) : List (Nat × Option Nat) := (ids.filter fun p => Nat.blt p.1 LIM).map (fun p => (p.1, some p.2)) ++ (nl.map (fun i => (i, none)) ++ keep.map fun i => (i, some i))

def capt (s0 : ESt) (j : Join) (s : ESt) : Option (Tup j.sh.tys) :=
  match mchS (datSlots j.sh.tys (s.prep j.prep) j.sh.slots) j.sh.slots ([], []) [] with
  | none => none
  | some (acc, nl) => match mchN j.sh.tys nl j.sh.ents acc.1 with
    | none => none
    | some (ents, vs) => match mchE (datSlots j.sh.tys (s.prep j.prep) j.sh.slots) ents (vs, acc.2) with
      | none => none
      | some (vs, ids) => match finV j.sh.tys vs with
        | none => none
        | some X =>
          bif (let s1 := datSlots j.sh.tys (s.prep j.prep) j.sh.slots
            let mp := mpOf ids nl j.keep
            let ks := j.sh.slots.map (·.1)
            let es := j.sh.ents.map (·.1)
            let ds := s1.slots.take (s1.slots.length - s0.slots.length)
            let dh := s1.heap.take (s1.heap.length - s0.heap.length)
            mpOK mp j.nxt && Nat.ble s0.nxt j.nxt && nodupB es &&
            ids.all (fun p => Nat.blt p.1 LIM || Nat.beq p.1 p.2) && nl.all (fun i => (match look ids i with | none => Nat.blt i LIM | some _ => false)) &&
            ds.all (fun p => ks.contains p.1 || j.drop.contains p.1) && dh.all (fun p => es.contains p.1 || j.dropE.contains p.1 || (Nat.ble s0.nxt p.1 && Nat.blt p.1 LIM)) &&
            chkSlots mp (ks ++ j.drop) s0.slots && chkHeap mp s0.nxt (es ++ j.dropE) s0.heap) then some X else none
end
end Go.Ab
