/- Functions by contract: entry, return, call. -/
import Derived.Test.YtlbiilfoecehdaaAb15n8
set_option linter.unusedVariables false
set_option linter.unusedSimpArgs false
set_option linter.unusedSectionVars false
namespace Go.Ab
open Enc (enc)
open Go.RowKit (Below)

abbrev Hp := List (Nat × Option Ent)

/-- The blocks that what is handed over owns. -/
def Owned (h : Hp) (H : Hd) (b : Nat) : Prop := ∃ id e v, entOf h id = some e ∧ H id = some v ∧ blk v = some b

structure HOK (X : Nat → Prop) (h : Hp) (H : Hd) (w : World) : Prop where
  ent : ∀ id e, entOf h id = some e → ∃ v, H id = some v ∧ EntRel w (Sh X (entOf h) H w) H e v
  own : ∀ id e v b, entOf h id = some e → H id = some v → blk v = some b → ¬ X b
  inj : ∀ id id' e e' v v' b, entOf h id = some e → entOf h id' = some e' → H id = some v → H id' = some v' → blk v = some b → blk v' = some b → id = id'

/-- A function's contract: called with what reads as 'args', handed the owned things 'h' (under names from LIM on), it returns what R says. -/
def Fc (P : Program) (f : FuncId) (args : List AV) (h : Hp) (R : AV → Hp → Prop) : Prop :=
  ∀ (w : World) (X : Nat → Prop) (H : Hd) (vs : Array Value), (∀ b, X b → b < w.heap.size) → (∀ id, id < LIM → H id = none) → HOK X h H w → vs.size = args.length →
    (∀ i, i < args.length → VRel w (Sh X (entOf h) H w) H (args.getD i default) (vs.getD i undef)) →
    Calls P f vs w (fun e w' => ∃ v r h' H', e = .returned v ∧ R r h' ∧
      (w'.os = w.os ∧ w'.tape = w.tape ∧ w'.output = w.output ∧ w.heap.size ≤ w'.heap.size) ∧ (∀ b, b < w.heap.size → ¬ Owned h H b → w'.heap[b]? = w.heap[b]?) ∧
      HOK X h' H' w' ∧ (∀ b, Owned h' H' b → w.heap.size ≤ b ∨ Owned h H b) ∧ (∀ id, LIM ≤ id → H' id = H id) ∧ VRel w' (Sh X (entOf h') H' w') H' r v)

theorem Fc.mono {P : Program} {f : FuncId} {args : List AV} {h : Hp} {R R' : AV → Hp → Prop} (hf : Fc P f args h R) (hr : ∀ r h', R r h' → R' r h') : Fc P f args h R' :=
  fun w X H vs h1 h2 h3 h4 h5 => (hf w X H vs h1 h2 h3 h4 h5).mono fun _ _ ⟨v, r, h', H', a, b, c⟩ => ⟨v, r, h', H', a, hr _ _ b, c⟩

/-- The results, as the frame at the end holds them. -/
def retSlots (P : Program) (mp : List (Nat × Option Nat)) (σ : St) : List ResultVar → List AV → Prop
  | [], xs => xs = []
  | .tmp t :: r, x' :: xs => (∃ x, σ.get t = some x ∧ Cv mp x x') ∧ retSlots P mp σ r xs
  | .cell t ty :: r, x' :: xs => ((∃ id T x dsc, σ.get t = some (.ptr id 0) ∧ σ.ent id = some (.box T [x]) ∧ P.underlying ty = some dsc ∧ dAgg dsc = false ∧ Cv mp x x') ∨
      (∃ id T l size bytes z, σ.get t = some (.ptr id 0) ∧ σ.ent id = some (.box T (avs (.agg l))) ∧ TI P ty true size bytes z ∧ l.length = size ∧ x' = .d (.agg l))) ∧ retSlots P mp σ r xs
  | _ :: _, [] => False

def retVal : List AV → AV
  | [x] => x
  | xs => .tup xs

/-- The end of a body. -/
def RetOK (P : Program) (fn : Func) (R : AV → Hp → Prop) (σ : St) : Prop :=
  ∃ mp xs h', (mpW mp LIM = true ∧ ∀ i o, look mp i = some (some o) → LIM ≤ o → ∀ e, look h' o ≠ some (some e)) ∧ retSlots P mp σ fn.results.toList xs ∧ subHeap mp σ h' ∧ R (retVal xs) h'

def Ret (P : Program) (fn : Func) (R : AV → Hp → Prop) : Exit → St → Prop
  | .normal, σ => RetOK P fn R σ
  | .ret, σ => RetOK P fn R σ
  | _, _ => False

def argSlots : Nat → List AV → List (Nat × AV)
  | _, [] => []
  | k, x :: r => (k, x) :: argSlots (k + 1) r

theorem argSlots_get : ∀ (l : List AV) (k j : Nat) (x : AV), look (argSlots k l) j = some x → k ≤ j ∧ l[j - k]? = some x
  | [], k, j, x, h => by cases h
  | y :: r, k, j, x, h => by
    simp only [argSlots, look_cons] at h
    by_cases hk : k = j
    · rw [if_pos hk] at h; cases h; subst hk; simp
    · rw [if_neg hk] at h
      obtain ⟨h1, h2⟩ := argSlots_get r (k + 1) j x h
      refine ⟨by omega, ?_⟩
      have : j - k = (j - (k + 1)) + 1 := by omega
      rw [this]; simpa using h2

def St.start (n : Nat) (args : List AV) (h : Hp) : St := ⟨n, 0, argSlots 0 args, h⟩

section
variable {P : Program} {F : Fr} {σ : St} {H : Hd} {a : Act} {w : World} {mp : List (Nat × Option Nat)}

def resF (tmps : Array Value) : ResultVar → Sem Value
  | .tmp t => pure (tmps.getD t undef)
  | .cell c t => do loadVar t (← asAddr (tmps.getD c undef))

theorem results_eq (fn : Func) (tmps : Array Value) : results fn tmps = (do let vs ← fn.results.mapM (resF tmps); pure (if h : vs.size = 1 then vs[0] else .tuple vs)) := rfl

theorem mapM_tmps {fn : Func} (r : RelH F σ H a w) (hok : mpW mp LIM = true) {S' : Nat → Prop} (hS : ∀ b, Sh F.X σ.ent H w b → S' b) : ∀ (l : List ResultVar) (xs : List AV), retSlots P mp σ l xs →
    ∃ vs : List Value, (l.mapM (resF a.tmps)).run P w = .ok vs w ∧ vs.length = xs.length ∧ ∀ i, i < xs.length → VRel w S' (renH mp H) (xs.getD i default) (vs.getD i undef)
  | [], xs, h => by
    have : xs = [] := h
    subst this
    exact ⟨[], rfl, rfl, by simp⟩
  | .tmp t :: r', x' :: xs, h => by
    obtain ⟨⟨x, hx, hc⟩, h2⟩ := h
    obtain ⟨vs, h3, h4, h5⟩ := mapM_tmps (fn := fn) r hok hS r' xs h2
    refine ⟨a.tmps.getD t undef :: vs, ?_, by simp [h4], fun i hi => ?_⟩
    · rw [List.mapM_cons]
      simp only [resF, Sem.run_bind, Sem.run_pure, Result.andThen_ok, h3]
    · cases i with
      | zero => exact hc.rel (fits_renHW hok) hS (r.slot t x hx)
      | succ i => simpa using h5 i (by simpa using hi)
  | .cell t ty :: r', x' :: xs, h => by
    obtain ⟨⟨id, T, x, dsc, hx, he, ht, hn, hc⟩ | ⟨id, T, dl, size, bytes, z, hx, he, ht, hn, rfl⟩, h2⟩ := h
    · obtain ⟨vs, h3, h4, h5⟩ := mapM_tmps (fn := fn) r hok hS r' xs h2
      have hv := r.slot t _ hx
      obtain ⟨u, hH, hr⟩ := r.ent id _ he
      generalize hu : a.tmps.getD t undef = q at hv
      cases hv with
      | ptr _ _ b hb =>
        rw [hH] at hb; cases hb
        cases hr with
        | box _ _ _ cur hb hs hrel =>
          have h0 : w.cell? ⟨b, 0, none⟩ = some (cur.getD 0 undef) := by
            rw [cell_of_row w b 0 cur T (0, 0) hb]
            have : 0 < cur.size := by rw [hs]; simp
            simp [this]
          refine ⟨cur.getD 0 undef :: vs, ?_, by simp [h4], fun i hi => ?_⟩
          · rw [List.mapM_cons]
            have ha : (asAddr (.pointer (some ⟨b, 0, none⟩))).run P w = .ok ⟨b, 0, none⟩ w := rfl
            simp only [resF, Sem.run_bind, Sem.run_pure, Result.andThen_ok, hu, ha, run_load1 ht hn h0, h3]
          · cases i with
            | zero =>
              have := hrel 0 (by simp)
              exact hc.rel (fits_renHW hok) hS (by simpa using this)
            | succ i => simpa using h5 i (by simpa using hi)
    · obtain ⟨vs, h3, h4, h5⟩ := mapM_tmps (fn := fn) r hok hS r' xs h2
      have hv := r.slot t _ hx
      obtain ⟨u, hH, hr⟩ := r.ent id _ he
      generalize hu : a.tmps.getD t undef = q at hv
      cases hv with
      | ptr _ _ b hb =>
        rw [hH] at hb; cases hb
        obtain ⟨cur, hb, hs, hrel⟩ := hr.box_inv
        · have hlen : (avs (.agg dl)).length = size := by simpa [avs, D.cells] using hn
          have hc : ∀ j, j < size → w.cell? ⟨b, 0 + j, none⟩ = some (cur.getD j undef) := fun j hj => by
            rw [Nat.zero_add, cell_of_row w b j cur T (0, 0) hb]
            have : j < cur.size := by omega
            simp [this]
          have hload := run_loadN ht rfl hc
          refine ⟨.agg ((Array.range size).map fun j => cur.getD j undef) :: vs, ?_, by simp [h4], fun i hi => ?_⟩
          · rw [List.mapM_cons]
            have ha : (asAddr (.pointer (some ⟨b, 0, none⟩))).run P w = .ok ⟨b, 0, none⟩ w := rfl
            simp only [resF, Sem.run_bind, Sem.run_pure, Result.andThen_ok, hu, ha, hload, h3]
          · cases i with
            | zero =>
              refine .d _ _ (.agg dl _ (by simp [hn]) fun i hi => ?_)
              have h1 := hrel i (by rw [hlen]; omega)
              have h2 : (avs (.agg dl)).getD i default = .d (dl.getD i default) := by simp [avs, D.cells, List.getD_eq_getElem?_getD, hi]
              rw [h2] at h1
              cases h1 with
              | d _ _ h1 =>
                have h3 := h1.mono (S' := S') (w' := w) (fun b hb => ⟨hS b hb, rfl⟩)
                have hi2 : i < size := by omega
                simpa [hi2] using h3
            | succ i => simpa using h5 i (by simpa using hi)
  | .tmp t :: r', [], h => h.elim
  | .cell t ty :: r', [], h => h.elim

/-- A function by its body. -/
theorem Fc.of_body {f : FuncId} {args : List AV} {h : Hp} {R : AV → Hp → Prop} {fn : Func} {c : Code} {n : Nat} (hf : P.funcs[f]? = some fn) (hb : fn.body = some c) (hn : fn.ntmps = n) (hlen : args.length ≤ n)
    (hbody : ∀ F : Fr, AW P F c (St.start n args h) (Ret P fn R)) : Fc P f args h R := by
  intro w X H vs hX hlow hH hvs hargs
  let F : Fr := { w := w, O := Owned h H, X := X, H0 := H }
  refine calls_of_wp hf hb ?_
  have hsz : (vs ++ Array.replicate (fn.ntmps - vs.size) undef).size = n := by simp; omega
  have r0 : RelH F (St.start n args h) H { tmps := vs ++ Array.replicate (fn.ntmps - vs.size) undef, defers := [] } w := {
    size := hsz, defs := rfl, os := rfl, tape := rfl, output := rfl, grow := Nat.le_refl _, keep := fun _ _ _ => rfl, xlt := hX
    fresh := fun id _ h2 => hlow id h2
    pin := fun _ _ => rfl
    ent := hH.ent
    own := fun id e v b h1 h2 h3 => ⟨.inr ⟨id, e, v, h1, h2, h3⟩, hH.own id e v b h1 h2 h3⟩
    inj := hH.inj
    slot := fun k x hx => by
      obtain ⟨_, h2⟩ := argSlots_get args 0 k x hx
      have hk : k < args.length := (List.getElem?_eq_some_iff.1 (by simpa using h2)).1
      have := hargs k hk
      have h3 : args.getD k default = x := by
        rw [List.getD_eq_getElem?_getD]
        have : args[k]? = some x := by simpa using h2
        rw [this]; rfl
      rw [h3] at this
      have h4 : (vs ++ Array.replicate (fn.ntmps - vs.size) undef).getD k undef = vs.getD k undef := by
        have : k < vs.size := by omega
        simp [Array.getElem?_append_left this]
      show VRel w _ H x ((vs ++ Array.replicate (fn.ntmps - vs.size) undef).getD k undef)
      rw [h4]; exact this }
  have key : ∀ (a' : Act) (w' : World) (σ' : St), RetOK P fn R σ' → Rel F σ' a' w' → a'.defers = [] ∧ ∃ v, (results fn a'.tmps).run P w' = .ok v w' ∧ ∃ v' r h' H', Ending.returned v = .returned v' ∧ R r h' ∧
      (w'.os = w.os ∧ w'.tape = w.tape ∧ w'.output = w.output ∧ w.heap.size ≤ w'.heap.size) ∧ (∀ b, b < w.heap.size → ¬ Owned h H b → w'.heap[b]? = w.heap[b]?) ∧
      HOK X h' H' w' ∧ (∀ b, Owned h' H' b → w.heap.size ≤ b ∨ Owned h H b) ∧ (∀ id, LIM ≤ id → H' id = H id) ∧ VRel w' (Sh X (entOf h') H' w') H' r v' := by
    intro a' w' σ' ⟨mp, xs, h', ⟨hok, hoff⟩, hret, hsub, hR⟩ ⟨H', r⟩
    have hs : Sub mp σ' ⟨σ'.n, LIM, [], h'⟩ := ⟨rfl, hok, trivial, hsub, hoff⟩
    have r2 := hs.relH r
    obtain ⟨vl, hm, hl, hv⟩ := mapM_tmps (fn := fn) r hok (fun b hb => sub_sh r hok hsub b hb) fn.results.toList xs hret
    have hm' : (fn.results.mapM (resF a'.tmps)).run P w' = .ok vl.toArray w' := by
      rw [Array.mapM_eq_mapM_toList]
      have : (List.toArray <$> fn.results.toList.mapM (resF a'.tmps)).run P w' = ((fn.results.toList.mapM (resF a'.tmps)).run P w').andThen fun l w'' => .ok l.toArray w'' := by
        rw [map_eq_pure_bind]; simp only [Sem.run_bind, Sem.run_pure]
      rw [this, hm]; rfl
    refine ⟨r.defs, _, by rw [results_eq]; simp only [Sem.run_bind, hm', Result.andThen_ok, Sem.run_pure]; rfl, _, retVal xs, h', renH mp H', rfl, hR, ⟨r.os, r.tape, r.output, r.grow⟩, r.keep, ⟨r2.ent, fun id e v b h1 h2 h3 => (r2.own id e v b h1 h2 h3).2, r2.inj⟩,
      fun b ⟨id, e, v, h1, h2, h3⟩ => (r2.own id e v b h1 h2 h3).1, r2.pin, ?_⟩
    have hr3 : ∀ i, i < xs.length → VRel w' (Sh X (entOf h') (renH mp H') w') (renH mp H') (xs.getD i default) (vl.getD i undef) := hv
    match xs, vl, hl, hr3 with
    | [], [], _, hr3 => exact .tup [] #[] rfl (by simp)
    | [x], [u], _, hr3 => exact (by simpa using hr3 0 (by simp) : VRel w' (Sh X (entOf h') (renH mp H') w') (renH mp H') x u)
    | x :: y :: r', u :: v :: r'', hl, hr3 =>
      have hne : ¬ ((u :: v :: r'').toArray.size = 1) := by simp
      rw [dif_neg hne]
      refine .tup _ _ (by simpa using hl) fun i hi => ?_
      have := hr3 i hi
      simpa [List.getD_eq_getElem?_getD] using this
  refine wp_mono (hbody F _ w ⟨H, r0⟩) ?_
  rintro e a' w' ⟨σ', hq, hr⟩
  cases e with
  | normal => exact key a' w' σ' hq hr
  | ret => exact key a' w' σ' hq hr
  | _ => exact hq.elim

/-! ### The call -/

/-- The callee's names of what is handed over: name (from LIM on), the caller's name. -/
def cmOK (cm : List (Nat × Nat)) : Bool := (cm.all fun p => Nat.ble LIM p.1) && nodupB (cm.map (·.1)) && nodupB (cm.map (·.2))

def toMp (cm : List (Nat × Nat)) : List (Nat × Option Nat) := cm.map fun p => (p.1, some p.2)

/-- What is handed over, as the caller holds it. -/
def handHeap (cm : List (Nat × Nat)) (σ : St) : Hp → Prop
  | [] => True
  | (i, some e') :: r => (∃ o e, look cm i = some o ∧ σ.ent o = some e ∧ renE false (toMp cm) e' = some e) ∧ handHeap cm σ r
  | (_, none) :: _ => False

/-- The arguments, as the caller holds them. -/
def handArgs (cm : List (Nat × Nat)) (σ : St) : List Operand → List AV → Prop
  | [], xs => xs = []
  | o :: r, x' :: xs => (∃ x, σ.ev o = some x ∧ ren false (toMp cm) x' = some x) ∧ handArgs cm σ r xs
  | _ :: _, [] => False

/-- The names that the caller gives to what comes back: a new one (from nxt to nxt'), or the one that it was handed over under. -/
def backOK (cm : List (Nat × Nat)) (nxt nxt' : Nat) (mp : List (Nat × Option Nat)) : Bool :=
  nodupB (mp.filterMap (·.2)) && Nat.ble nxt nxt' && Nat.ble nxt' LIM && mp.all fun p => match p.2 with
    | none => false
    | some j => (Nat.ble nxt p.1 && Nat.blt p.1 nxt' && Nat.blt j LIM) || (Nat.ble LIM j && (match look cm j with | some o => Nat.beq o p.1 | none => false))

def backHeap (mp : List (Nat × Option Nat)) (h' : Hp) : Hp → Prop
  | [] => True
  | (i, some e'') :: r => (∃ j e, look mp i = some (some j) ∧ entOf h' j = some e ∧ renE false mp e'' = some e) ∧ backHeap mp h' r
  | (_, none) :: _ => False

/-- The caller's state behind the call. -/
def St.back (σ : St) (cm : List (Nat × Nat)) (nxt' : Nat) (h'' : Hp) : St :=
  { σ with nxt := nxt', heap := h'' ++ (cm.map fun p => (p.2, none)) ++ σ.heap }

theorem look_append {β : Type} : ∀ (l r : List (Nat × β)) (k : Nat), look (l ++ r) k = (look l k).or (look r k)
  | [], r, k => rfl
  | (k', v) :: l, r, k => by
    rw [List.cons_append, look_cons, look_cons, look_append l r k]
    by_cases h : k' = k
    · rw [if_pos h, if_pos h]; rfl
    · rw [if_neg h, if_neg h]

theorem look_toMp : ∀ {cm : List (Nat × Nat)} {i : Nat}, look (toMp cm) i = (look cm i).map some
  | [], i => rfl
  | (k, o) :: r, i => by
    show look ((k, some o) :: toMp r) i = _
    rw [look_cons, look_cons, look_toMp]
    by_cases h : k = i
    · rw [if_pos h, if_pos h]; rfl
    · rw [if_neg h, if_neg h]

theorem look_cm_inj {cm : List (Nat × Nat)} (h : nodupB (cm.map (·.2)) = true) {i j o : Nat} (hi : look cm i = some o) (hj : look cm j = some o) : i = j := by
  refine mp_inj (mp := toMp cm) (o := o) ?_ (by rw [look_toMp, hi]; rfl) (by rw [look_toMp, hj]; rfl)
  have : (toMp cm).filterMap (·.2) = cm.map (·.2) := by
    unfold toMp
    rw [List.filterMap_map]
    clear h hi hj
    induction cm with
    | nil => rfl
    | cons p r ih => simp at ih ⊢; exact ih
  rw [this]; exact h

theorem handHeap_ent {cm : List (Nat × Nat)} {σ : St} : ∀ {l : Hp} {i : Nat} {e' : Ent}, handHeap cm σ l → entOf l i = some e' → ∃ o e, look cm i = some o ∧ σ.ent o = some e ∧ renE false (toMp cm) e' = some e
  | [], i, e', _, h => by cases h
  | (k, none) :: r, i, e', h, _ => h.elim
  | (k, some e) :: r, i, e', h, hl => by
    unfold entOf at hl
    rw [look_cons] at hl
    by_cases hk : k = i
    · subst hk; simp only [if_true] at hl; cases hl; exact h.1
    · simp only [if_neg hk] at hl; exact handHeap_ent h.2 hl

theorem backHeap_ent {mp : List (Nat × Option Nat)} {h' : Hp} : ∀ {l : Hp} {i : Nat} {e'' : Ent}, backHeap mp h' l → entOf l i = some e'' → ∃ j e, look mp i = some (some j) ∧ entOf h' j = some e ∧ renE false mp e'' = some e
  | [], i, e', _, h => by cases h
  | (k, none) :: r, i, e', h, _ => h.elim
  | (k, some e) :: r, i, e', h, hl => by
    unfold entOf at hl
    rw [look_cons] at hl
    by_cases hk : k = i
    · subst hk; simp only [if_true] at hl; cases hl; exact h.1
    · simp only [if_neg hk] at hl; exact backHeap_ent h.2 hl

/-- The headers that the callee is handed. -/
def cmH (cm : List (Nat × Nat)) (H : Hd) : Hd := fun i => match look cm i with
  | some o => H o
  | none => none

theorem back_ent {cm : List (Nat × Nat)} {h'' : Hp} {nxt' id : Nat} {e : Ent} (h : (σ.back cm nxt' h'').ent id = some e) : entOf h'' id = some e ∨ (look h'' id = none ∧ (∀ i, look cm i ≠ some id) ∧ σ.ent id = some e) := by
  unfold St.ent St.back at h
  simp only [look_append] at h
  cases h1 : look h'' id with
  | some q =>
    rw [h1] at h
    left
    unfold entOf
    rw [h1]
    cases q with
    | none => cases h
    | some e' => exact h
  | none =>
    rw [h1] at h
    right
    refine ⟨rfl, ?_⟩
    cases h2 : look (cm.map fun p => (p.2, (none : Option Ent))) id with
    | some q =>
      rw [h2] at h
      have := look_mem h2
      obtain ⟨p, _, hp⟩ := List.mem_map.1 this
      cases hp
      simp at h
    | none =>
      rw [h2] at h
      refine ⟨fun i hi => ?_, by unfold St.ent; simpa using h⟩
      have hm := look_mem hi
      have : look (cm.map fun p => (p.2, (none : Option Ent))) id ≠ none := by
        clear h h1 h2
        induction cm with
        | nil => cases hm
        | cons p r ih =>
          rw [List.map_cons, look_cons]
          by_cases hp : p.2 = id
          · rw [if_pos hp]; simp
          · rw [if_neg hp]
            rcases List.mem_cons.1 hm with rfl | hm
            · exact absurd rfl hp
            · refine ih ?_ hm
              have hne : p.1 ≠ i ∨ p.1 = i := by omega
              rcases hne with hne | hne
              · rw [look_cons, if_neg hne] at hi; exact hi
              · rw [look_cons, if_pos hne] at hi; cases hi; exact absurd rfl hp
      exact this h2

/-- **Behind a call.** -/
theorem RelH.call (r : RelH F σ H a w) {cm : List (Nat × Nat)} {h : Hp} (hcm : cmOK cm = true) (hh : handHeap cm σ h) (hown : ∀ p ∈ cm, ∃ e, σ.ent p.2 = some e ∧ (∃ e', entOf h p.1 = some e'))
    {w' : World} {h' : Hp} {H' : Hd} (hos : w'.os = w.os ∧ w'.tape = w.tape ∧ w'.output = w.output ∧ w.heap.size ≤ w'.heap.size) (hkeep : ∀ b, b < w.heap.size → ¬ Owned h (cmH cm H) b → w'.heap[b]? = w.heap[b]?)
    (hok : HOK (fun b => F.X b ∨ ∃ id e v, σ.ent id = some e ∧ H id = some v ∧ blk v = some b ∧ ∀ i, look cm i ≠ some id) h' H' w') (hnew : ∀ b, Owned h' H' b → w.heap.size ≤ b ∨ Owned h (cmH cm H) b) (hpin : ∀ id, LIM ≤ id → H' id = cmH cm H id)
    {mp : List (Nat × Option Nat)} {h'' : Hp} {nxt' : Nat} (hmp : backOK cm σ.nxt nxt' mp = true) (hb : backHeap mp h' h'') :
    ∃ H'', RelH F (σ.back cm nxt' h'') H'' a w' ∧ ∀ x x' v, VRel w' (Sh (fun b => F.X b ∨ ∃ id e v, σ.ent id = some e ∧ H id = some v ∧ blk v = some b ∧ ∀ i, look cm i ≠ some id) (entOf h') H' w') H' x v → ren false mp x' = some x → VRel w' (Sh F.X (σ.back cm nxt' h'').ent H'' w') H'' x' v := by
  generalize hXc : (fun b => F.X b ∨ ∃ id e v, σ.ent id = some e ∧ H id = some v ∧ blk v = some b ∧ ∀ i, look cm i ≠ some id) = Xc at hok
  simp only [backOK, Bool.and_eq_true] at hmp
  obtain ⟨⟨⟨hnd, hle⟩, hlim⟩, hall⟩ := hmp
  have hle : σ.nxt ≤ nxt' := by simpa using hle
  have hlim : nxt' ≤ LIM := by simpa using hlim
  simp only [cmOK, Bool.and_eq_true] at hcm
  obtain ⟨⟨hcl, hck⟩, hcv⟩ := hcm
  have hcmlim : ∀ i o, look cm i = some o → LIM ≤ i := fun i o hi => by
    have := List.all_eq_true.1 hcl (i, o) (look_mem hi); simpa using this
  have hmpc : ∀ i j, look mp i = some (some j) → (σ.nxt ≤ i ∧ i < nxt' ∧ j < LIM) ∨ (LIM ≤ j ∧ look cm j = some i) := by
    intro i j hi
    have := List.all_eq_true.1 hall (i, some j) (look_mem hi)
    simp only [Bool.or_eq_true, Bool.and_eq_true] at this
    rcases this with ⟨⟨h1, h2⟩, h3⟩ | ⟨h1, h2⟩
    · exact .inl ⟨by simpa using h1, by simpa using h2, by simpa using h3⟩
    · refine .inr ⟨by simpa using h1, ?_⟩
      cases hl : look cm j with
      | none => rw [hl] at h2; cases h2
      | some o => rw [hl] at h2; rw [Nat.eq_of_beq_eq_true h2]
  -- an id that was handed over has an entity, so a header: it is older than nxt, or pinned
  have hold : ∀ i o, look cm i = some o → ∃ e v, σ.ent o = some e ∧ H o = some v := by
    intro i o hi
    obtain ⟨e, he, _⟩ := hown (i, o) (look_mem hi)
    obtain ⟨v, hv, _⟩ := r.ent o e he
    exact ⟨e, v, he, hv⟩
  have holdlt : ∀ id v, H id = some v → ¬ (σ.nxt ≤ id ∧ id < LIM) := by
    intro id v hv ⟨h1, h2⟩
    rw [r.fresh id h1 h2] at hv; cases hv
  let H'' : Hd := fun id => if σ.nxt ≤ id ∧ id < LIM then (match look mp id with | some (some j) => if j < LIM then H' j else none | _ => none) else H id
  have hH''old : ∀ id v, H id = some v → H'' id = some v := by
    intro id v hv
    show (if _ then _ else _) = _
    rw [if_neg (holdlt id v hv)]; exact hv
  have hfits : Fits false mp H' H'' := by
    refine ⟨fun i j v hi hv => ?_, fun i hi => ?_, fun h => by cases h⟩
    · rcases hmpc i j hi with ⟨h1, h2, h3⟩ | ⟨h1, h2⟩
      · show (if _ then _ else _) = _
        rw [if_pos ⟨h1, by omega⟩, hi]
        simp only [if_pos h3]; exact hv
      · obtain ⟨e, u, he, hu⟩ := hold j i h2
        rw [hpin j h1] at hv
        unfold cmH at hv
        rw [h2] at hv
        exact hH''old i v hv
    · have := List.all_eq_true.1 hall (i, none) (look_mem hi)
      cases this
  -- blocks owned by what was handed over are owned in σ, by something handed over
  have hOw : ∀ b, Owned h (cmH cm H) b → ∃ id e v, σ.ent id = some e ∧ H id = some v ∧ blk v = some b ∧ ∃ i, look cm i = some id := by
    rintro b ⟨i, e', v, h1, h2, h3⟩
    obtain ⟨o, e, ho, he, _⟩ := handHeap_ent hh h1
    unfold cmH at h2
    rw [ho] at h2
    exact ⟨o, e, v, he, h2, h3, i, ho⟩
  have hlt : ∀ id e v b, σ.ent id = some e → H id = some v → blk v = some b → b < w.heap.size := by
    intro id e v b h1 h2 h3
    obtain ⟨v', h4, h5⟩ := r.ent id e h1
    rw [h2] at h4; cases h4; exact h5.lt h3
  -- the entities behind the call
  have hent : ∀ id e, (σ.back cm nxt' h'').ent id = some e → (∃ j e0 v, look mp id = some (some j) ∧ entOf h' j = some e0 ∧ H' j = some v ∧ H'' id = some v ∧ renE false mp e = some e0) ∨
      (σ.ent id = some e ∧ (∀ i, look cm i ≠ some id) ∧ ∃ v, H id = some v ∧ H'' id = some v) := by
    intro id e he
    rcases back_ent he with h1 | ⟨_, h2, h3⟩
    · obtain ⟨j, e0, g1, g2, g3⟩ := backHeap_ent hb h1
      obtain ⟨v, hv, _⟩ := hok.ent j e0 g2
      exact .inl ⟨j, e0, v, g1, g2, hv, hfits.1 id j v g1 hv, g3⟩
    · obtain ⟨v, hv, _⟩ := r.ent id e h3
      exact .inr ⟨h3, h2, v, hv, hH''old id v hv⟩
  have hlt' : ∀ j e v b, entOf h' j = some e → H' j = some v → blk v = some b → b < w'.heap.size := by
    intro j e v b h1 h2 h3
    obtain ⟨v', h4, h5⟩ := hok.ent j e h1
    rw [h2] at h4; cases h4; exact h5.lt h3
  -- what is shared at the end of the call is shared here
  have hS : ∀ b, Sh Xc (entOf h') H' w' b → Sh F.X (σ.back cm nxt' h'').ent H'' w' b := by
    intro b ⟨h1, h2, h3⟩
    rw [← hXc] at h2
    refine ⟨h1, fun h => h2 (.inl h), fun id e v he hv hbv => ?_⟩
    rcases hent id e he with ⟨j, e0, u, g1, g2, g3, g4, _⟩ | ⟨g1, g2, u, g3, g4⟩
    · rw [g4] at hv; cases hv; exact h3 j e0 v g2 g3 hbv
    · rw [g4] at hv; cases hv; exact h2 (.inr ⟨id, e, v, g1, g3, hbv, g2⟩)
  -- what was shared ahead of it is shared, and as it was
  have hS0 : ∀ b, Sh F.X σ.ent H w b → Sh F.X (σ.back cm nxt' h'').ent H'' w' b ∧ w'.heap[b]? = w.heap[b]? := by
    intro b ⟨h1, h2, h3⟩
    have hno : ¬ Owned h (cmH cm H) b := fun ho => by
      obtain ⟨id, e, v, g1, g2, g3, _⟩ := hOw b ho
      exact h3 id e v g1 g2 g3
    refine ⟨⟨Nat.lt_of_lt_of_le h1 hos.2.2.2, h2, fun id e v he hv hbv => ?_⟩, hkeep b h1 hno⟩
    rcases hent id e he with ⟨j, e0, u, g1, g2, g3, g4, _⟩ | ⟨g1, g2, u, g3, g4⟩
    · rw [g4] at hv; cases hv
      rcases hnew b ⟨j, e0, v, g2, g3, hbv⟩ with h | h
      · omega
      · exact hno h
    · rw [g4] at hv; cases hv; exact h3 id e v g1 g3 hbv
  -- what was not handed over is as it was
  have hkeep' : ∀ id e v b, σ.ent id = some e → (∀ i, look cm i ≠ some id) → H id = some v → blk v = some b → w'.heap[b]? = w.heap[b]? := by
    intro id e v b h1 h2 h3 h4
    refine hkeep b (hlt id e v b h1 h3 h4) fun ho => ?_
    obtain ⟨id', e', v', g1, g2, g3, i, g4⟩ := hOw b ho
    have := r.inj id id' e e' v v' b h1 g1 h3 g2 h4 g3
    subst this
    exact h2 i g4
  refine ⟨H'', ⟨r.size, r.defs, hos.1.trans r.os, hos.2.1.trans r.tape, hos.2.2.1.trans r.output, Nat.le_trans r.grow hos.2.2.2, ?_, r.xlt, ?_, ?_, ?_, ?_, ?_, ?_⟩, fun x x' v hv hx => hv.ren hfits hS hx⟩
  · intro b hb1 hb2
    rw [hkeep b (Nat.lt_of_lt_of_le hb1 r.grow) fun ho => ?_]
    · exact r.keep b hb1 hb2
    · obtain ⟨id, e, v, g1, g2, g3, _⟩ := hOw b ho
      rcases (r.own id e v b g1 g2 g3).1 with h | h
      · omega
      · exact hb2 h
  · intro id h1 h2
    have h1 : nxt' ≤ id := h1
    show (if _ then _ else _) = _
    rw [if_pos ⟨by omega, h2⟩]
    cases hl : look mp id with
    | none => rfl
    | some q =>
      cases q with
      | none => rfl
      | some j =>
        rcases hmpc id j hl with ⟨g1, g2, _⟩ | ⟨g1, g2⟩
        · omega
        · obtain ⟨e, u, he, hu⟩ := hold j id g2
          exact absurd ⟨by omega, h2⟩ (holdlt id u hu)
  · intro id h1
    show (if _ then _ else _) = _
    rw [if_neg (by omega)]; exact r.pin id h1
  · intro id e he
    rcases hent id e he with ⟨j, e0, v, g1, g2, g3, g4, g5⟩ | ⟨g1, g2, v, g3, g4⟩
    · obtain ⟨u, hu, hr⟩ := hok.ent j e0 g2
      rw [g3] at hu; cases hu
      exact ⟨v, g4, hr.ren hfits hS g5⟩
    · obtain ⟨u, hu, hr⟩ := r.ent id e g1
      rw [g3] at hu; cases hu
      exact ⟨v, g4, hr.mono hS0 hH''old fun b hb => hkeep' id e v b g1 g2 g3 hb⟩
  · intro id e v b he hv hbv
    rcases hent id e he with ⟨j, e0, u, g1, g2, g3, g4, _⟩ | ⟨g1, g2, u, g3, g4⟩
    · rw [g4] at hv; cases hv
      refine ⟨?_, fun hx => ?_⟩
      · rcases hnew b ⟨j, e0, v, g2, g3, hbv⟩ with h | h
        · exact .inl (Nat.le_trans r.grow h)
        · obtain ⟨id, e, v, k1, k2, k3, _⟩ := hOw b h
          exact (r.own id e v b k1 k2 k3).1
      · have := hok.own j e0 v b g2 g3 hbv
        rw [← hXc] at this
        exact this (.inl hx)
    · rw [g4] at hv; cases hv; exact r.own id e v b g1 g3 hbv
  · intro id id' e e' v v' b h1 h2 h3 h4 h5 h6
    rcases hent id e h1 with ⟨j, e0, u, g1, g2, g3, g4, _⟩ | ⟨g1, g2, u, g3, g4⟩ <;> rcases hent id' e' h2 with ⟨j', e0', u', k1, k2, k3, k4, _⟩ | ⟨k1, k2, u', k3, k4⟩
    · rw [g4] at h3; cases h3
      rw [k4] at h4; cases h4
      have := hok.inj j j' e0 e0' v v' b g2 k2 g3 k3 h5 h6
      subst this
      exact mp_inj hnd g1 k1
    · exfalso
      rw [g4] at h3; cases h3
      rw [k4] at h4; cases h4
      have := hok.own j e0 v b g2 g3 h5
      rw [← hXc] at this
      exact this (.inr ⟨id', e', v', k1, k3, h6, k2⟩)
    · exfalso
      rw [g4] at h3; cases h3
      rw [k4] at h4; cases h4
      have := hok.own j' e0' v' b k2 k3 h6
      rw [← hXc] at this
      exact this (.inr ⟨id, e, v, g1, g3, h5, g2⟩)
    · rw [g4] at h3; cases h3
      rw [k4] at h4; cases h4
      exact r.inj id id' e e' v v' b g1 k1 g3 k3 h5 h6
  · intro k x hx
    exact (r.slot k x hx).mono hS0 hH''old

/-- The arguments as the callee's contract has them. -/
theorem handArgs_rel {cm : List (Nat × Nat)} (r : RelH F σ H a w) {S' : Nat → Prop} (hS : ∀ b, Sh F.X σ.ent H w b → S' b) : ∀ (l : List Operand) (xs : List AV), handArgs cm σ l xs →
    l.length = xs.length ∧ ∀ i, i < xs.length → VRel w S' (cmH cm H) (xs.getD i default) ((l.map a.eval).getD i undef)
  | [], xs, h => by
    have : xs = [] := h
    subst this
    exact ⟨rfl, by simp⟩
  | o :: l, x' :: xs, h => by
    obtain ⟨⟨x, hx, hr⟩, h2⟩ := h
    obtain ⟨h3, h4⟩ := handArgs_rel r hS l xs h2
    have hf : Fits false (toMp cm) H (cmH cm H) := by
      refine ⟨fun i o v hi hv => ?_, fun i hi => ?_, fun h => by cases h⟩
      · rw [look_toMp] at hi
        cases hc : look cm i with
        | none => rw [hc] at hi; cases hi
        | some q => rw [hc] at hi; cases hi; unfold cmH; rw [hc]; exact hv
      · rw [look_toMp] at hi
        cases hc : look cm i with
        | none => rw [hc] at hi; cases hi
        | some q => rw [hc] at hi; cases hi
    refine ⟨by simp [h3], fun i hi => ?_⟩
    cases i with
    | zero => exact (r.ev hx).ren hf hS hr
    | succ i => simpa using h4 i (by simpa using hi)
  | _ :: _, [], h => h.elim

theorem hand_ok {cm : List (Nat × Nat)} (r : RelH F σ H a w) (hcm : cmOK cm = true) {h : Hp} (hh : handHeap cm σ h) :
    HOK (fun b => F.X b ∨ ∃ id e v, σ.ent id = some e ∧ H id = some v ∧ blk v = some b ∧ ∀ i, look cm i ≠ some id) h (cmH cm H) w ∧
    (∀ b, Sh F.X σ.ent H w b → Sh (fun b => F.X b ∨ ∃ id e v, σ.ent id = some e ∧ H id = some v ∧ blk v = some b ∧ ∀ i, look cm i ≠ some id) (entOf h) (cmH cm H) w b) := by
  have hf : Fits false (toMp cm) H (cmH cm H) := by
    refine ⟨fun i o v hi hv => ?_, fun i hi => ?_, fun h => by cases h⟩
    · rw [look_toMp] at hi
      cases hc : look cm i with
      | none => rw [hc] at hi; cases hi
      | some q => rw [hc] at hi; cases hi; unfold cmH; rw [hc]; exact hv
    · rw [look_toMp] at hi
      cases hc : look cm i with
      | none => rw [hc] at hi; cases hi
      | some q => rw [hc] at hi; cases hi
  have hent : ∀ i e' v, entOf h i = some e' → cmH cm H i = some v → ∃ o e, look cm i = some o ∧ σ.ent o = some e ∧ H o = some v ∧ renE false (toMp cm) e' = some e := by
    intro i e' v h1 h2
    obtain ⟨o, e, h3, h4, h5⟩ := handHeap_ent hh h1
    unfold cmH at h2
    rw [h3] at h2
    exact ⟨o, e, h3, h4, h2, h5⟩
  have hS : ∀ b, Sh F.X σ.ent H w b → Sh (fun b => F.X b ∨ ∃ id e v, σ.ent id = some e ∧ H id = some v ∧ blk v = some b ∧ ∀ i, look cm i ≠ some id) (entOf h) (cmH cm H) w b := by
    intro b ⟨h1, h2, h3⟩
    refine ⟨h1, ?_, fun i e' v he hv hb => ?_⟩
    · rintro (h | ⟨id, e, v, g1, g2, g3, _⟩)
      · exact h2 h
      · exact h3 id e v g1 g2 g3
    · obtain ⟨o, e, g1, g2, g3, _⟩ := hent i e' v he hv
      exact h3 o e v g2 g3 hb
  refine ⟨⟨fun i e' he => ?_, fun i e' v b he hv hb => ?_, fun i j e1 e2 u v b h1 h2 h3 h4 h5 h6 => ?_⟩, hS⟩
  · obtain ⟨o, e, g1, g2, g3⟩ := handHeap_ent hh he
    obtain ⟨v, hv, hr⟩ := r.ent o e g2
    exact ⟨v, by unfold cmH; rw [g1]; exact hv, hr.ren hf hS g3⟩
  · obtain ⟨o, e, g1, g2, g3, _⟩ := hent i e' v he hv
    rintro (h | ⟨id, e2, v2, k1, k2, k3, k4⟩)
    · exact (r.own o e v b g2 g3 hb).2 h
    · have := r.inj o id e e2 v v2 b g2 k1 g3 k2 hb k3
      subst this
      exact k4 i g1
  · obtain ⟨o, e, g1, g2, g3, _⟩ := hent i e1 u h1 h3
    obtain ⟨o', e', k1, k2, k3, _⟩ := hent j e2 v h2 h4
    have := r.inj o o' e e' u v b g2 k2 g3 k3 h5 h6
    subst this
    simp only [cmOK, Bool.and_eq_true] at hcm
    exact look_cm_inj hcm.2 g1 k1

/-- **A call.** 'cm': what is handed over; then, of what comes back: the caller's names for it. -/
theorem call_x {o : Oper} {f : Operand} {g : FuncId} {caps : List AV} {args : Array Operand} {ts : Array TypeId} {d : Nat} (cm : List (Nat × Nat)) {as cs : List AV} {h : Hp} {R : AV → Hp → Prop} {post : St → Prop} (hd : o.dst = some d) (hlt : Nat.blt d σ.n = true)
    (ho : o.op = .call { callee := .value f, args := args, argTypes := ts }) (hf : σ.ev f = some (.fn g caps)) (hcall : ∀ (as : Array Value) (w : World), (callFunc g as).run P w = .ok (.enter g as) w)
    (hcm : cmOK cm = true) (hargs : handArgs cm σ args.toList as) (hcaps : renL false (toMp cm) cs = some caps) (hh : handHeap cm σ h) (hown : ∀ p ∈ cm, ∃ e, σ.ent p.2 = some e ∧ (∃ e', entOf h p.1 = some e'))
    (hfn : Fc P g (as ++ cs) h R)
    (hk : ∀ r h', R r h' → ∃ mp nxt' r'' h'', backOK cm σ.nxt nxt' mp = true ∧ backHeap mp h' h'' ∧ ren false mp r'' = some r ∧ post ((σ.back cm nxt' h'').set d r'')) :
    ∀ (a : Act) (w : World), Rel F σ a w → o.wp P a w (fun a' w' => ((∃ u, a' = a.put o.dst u) ∧ (h = [] → Ext w w')) ∧ ∃ σ', post σ' ∧ Rel F σ' a' w') (fun _ _ _ => False) := by
  intro a w ⟨H, r⟩
  obtain ⟨hok, hS⟩ := hand_ok r hcm hh
  obtain ⟨hl, hav⟩ := handArgs_rel r hS args.toList as hargs
  obtain ⟨hcl, hcr⟩ := renL_spec hcaps
  -- the captured values
  have hfv := r.ev hf
  obtain ⟨cv, hfe, hcs, hcv⟩ : ∃ cv : Array Value, a.eval f = .func (.func g) #[] cv ∧ cv.size = caps.length ∧ ∀ i, i < caps.length → VRel w (Sh F.X σ.ent H w) H (caps.getD i default) (cv.getD i undef) := by
    generalize a.eval f = u at hfv
    cases hfv with
    | fn _ _ cv hs h => exact ⟨cv, rfl, hs, h⟩
  have hf' : Fits false (toMp cm) H (cmH cm H) := by
    refine ⟨fun i o v hi hv => ?_, fun i hi => ?_, fun h => by cases h⟩
    · rw [look_toMp] at hi
      cases hc : look cm i with
      | none => rw [hc] at hi; cases hi
      | some q => rw [hc] at hi; cases hi; unfold cmH; rw [hc]; exact hv
    · rw [look_toMp] at hi
      cases hc : look cm i with
      | none => rw [hc] at hi; cases hi
      | some q => rw [hc] at hi; cases hi
  have hcmlim : ∀ i o, look cm i = some o → LIM ≤ i := fun i o hi => by
    simp only [cmOK, Bool.and_eq_true] at hcm
    have := List.all_eq_true.1 hcm.1.1 (i, o) (look_mem hi); simpa using this
  have hargsz : (args.map a.eval).size = as.length := by simpa using hl
  have hC := hfn w (fun b => F.X b ∨ ∃ id e v, σ.ent id = some e ∧ H id = some v ∧ blk v = some b ∧ ∀ i, look cm i ≠ some id) (cmH cm H) (args.map a.eval ++ cv)
    (fun b hb => by
      rcases hb with hb | ⟨id, e, v, h1, h2, h3, _⟩
      · have := r.xlt b hb; have := r.grow; omega
      · obtain ⟨v', h4, h5⟩ := r.ent id e h1
        rw [h2] at h4; cases h4; exact h5.lt h3)
    (fun id hid => by
      unfold cmH
      cases hc : look cm id with
      | none => rfl
      | some q => have := hcmlim id q hc; omega)
    hok (by simp only [Array.size_append, List.length_append, hargsz, hcs, hcl]) (fun i hi => by
      have hi' : i < as.length + cs.length := by simpa using hi
      by_cases h1 : i < as.length
      · have := hav i h1
        have e1 : (as ++ cs).getD i default = as.getD i default := by simp only [List.getD_eq_getElem?_getD]; rw [List.getElem?_append_left h1]
        have e2 : (args.map a.eval ++ cv).getD i undef = (args.toList.map a.eval).getD i undef := by
          have : i < (args.map a.eval).size := by omega
          simp only [Array.getD_eq_getD_getElem?, List.getD_eq_getElem?_getD, Array.getElem?_append_left this]
          rw [← Array.toList_map, Array.getElem?_toList]
        rw [e1, e2]; exact this
      · have h2 : i - as.length < caps.length := by omega
        have := (hcv (i - as.length) h2).ren hf' hS (hcr (i - as.length) h2)
        have e1 : (as ++ cs).getD i default = cs.getD (i - as.length) default := by simp only [List.getD_eq_getElem?_getD]; rw [List.getElem?_append_right (by omega)]
        have e2 : (args.map a.eval ++ cv).getD i undef = cv.getD (i - as.length) undef := by
          have : (args.map a.eval).size ≤ i := by omega
          simp only [Array.getD_eq_getD_getElem?]
          rw [Array.getElem?_append_right this, hargsz]
        rw [e1, e2]; exact this)
  unfold Oper.wp
  have hrun : (execOp a.eval o).run P w = .ok (.enter g (args.map a.eval ++ cv)) w := by
    simp [execOp, ho, resolve, hfe, Deferred.ofValue, invoke, hcall]
  rw [hrun]
  refine Calls.mono hC ?_
  rintro e w' ⟨v, r', h', H', rfl, hR, hos, hkeep, hok', hnew, hpin, hv⟩
  obtain ⟨mp, nxt', r'', h'', hb1, hb2, hb3, hp⟩ := hk r' h' hR
  obtain ⟨H'', hrel, hval⟩ := r.call hcm hh hown hos hkeep hok' hnew hpin hb1 hb2
  refine ⟨⟨⟨v, rfl⟩, fun hh0 => ?_⟩, _, hp, H'', ?_⟩
  · subst hh0
    exact { os := hos.1, tape := hos.2.1, output := hos.2.2.1, size := hos.2.2.2, block := fun b hb => hkeep b hb (fun ⟨id, e, v, h1, _⟩ => by cases h1) }
  have := hrel.set (d := d) (show d < σ.n by simpa using hlt) (hval r' r'' v hv hb3)
  rw [← hd] at this
  exact this
theorem EF.call {o : Oper} {f : Operand} {g : FuncId} {caps : List AV} {args : Array Operand} {ts : Array TypeId} {d : Nat} (cm : List (Nat × Nat)) {as cs : List AV} {h : Hp} {R : AV → Hp → Prop} {post : St → Prop} (hd : o.dst = some d) (hlt : Nat.blt d σ.n = true)
    (ho : o.op = .call { callee := .value f, args := args, argTypes := ts }) (hf : σ.ev f = some (.fn g caps)) (hcall : ∀ (as : Array Value) (w : World), (callFunc g as).run P w = .ok (.enter g as) w)
    (hcm : cmOK cm = true) (hargs : handArgs cm σ args.toList as) (hcaps : renL false (toMp cm) cs = some caps) (hh : handHeap cm σ h) (hown : ∀ p ∈ cm, ∃ e, σ.ent p.2 = some e ∧ (∃ e', entOf h p.1 = some e'))
    (hfn : Fc P g (as ++ cs) h R)
    (hk : ∀ r h', R r h' → ∃ mp nxt' r'' h'', backOK cm σ.nxt nxt' mp = true ∧ backHeap mp h' h'' ∧ ren false mp r'' = some r ∧ post ((σ.back cm nxt' h'').set d r'')) :
    EF P F σ o post :=
  fun a w r => Oper.wp_mono2 (fun _ _ h => ⟨h.1.1, h.2⟩) (fun _ _ _ h => h) (call_x cm hd hlt ho hf hcall hcm hargs hcaps hh hown hfn hk a w r)

/-- A call that is handed nothing writes nothing that was there. -/
theorem AL.call {o : Oper} {f : Operand} {g : FuncId} {caps : List AV} {args : Array Operand} {ts : Array TypeId} {d : Nat} {as cs : List AV} {R : AV → Hp → Prop} {post : St → Prop} (hd : o.dst = some d) (hlt : Nat.blt d σ.n = true)
    (ho : o.op = .call { callee := .value f, args := args, argTypes := ts }) (hf : σ.ev f = some (.fn g caps)) (hcall : ∀ (as : Array Value) (w : World), (callFunc g as).run P w = .ok (.enter g as) w)
    (hargs : handArgs [] σ args.toList as) (hcaps : renL false [] cs = some caps)
    (hfn : Fc P g (as ++ cs) [] R)
    (hk : ∀ r h', R r h' → ∃ mp nxt' r'' h'', backOK [] σ.nxt nxt' mp = true ∧ backHeap mp h' h'' ∧ ren false mp r'' = some r ∧ post ((σ.back [] nxt' h'').set d r'')) :
    AL P F σ o post :=
  fun a w r => Oper.wp_mono2 (fun _ _ h => ⟨h.1.1, h.1.2 rfl, h.2⟩) (fun _ _ _ h => h) (call_x [] hd hlt ho hf hcall rfl hargs hcaps (h := []) trivial (by simp) hfn hk a w r)
end
end Go.Ab
