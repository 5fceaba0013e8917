/- Regions whose order is drawn, computed: several orders. -/
import Derived.Test.YtokjfldjjehmkaaEv9n15
import Derived.Test.YtokjfldjjehmkaaAb10n19
set_option linter.unusedVariables false
set_option linter.unusedSimpArgs false
set_option linter.unusedSectionVars false
namespace Go.Ab
noncomputable section
variable {R : Type}

/-- Orders: one by one in this order; a reading operation that may be taken first; whichever comes first. -/
inductive OT where
  | leaf (ord : List (Nat × Nat))
  | one (i : Nat) (t : OT)
  | alt (c i : Nat) (t rest : OT)
  | stop

def OT.alts : OT → List Nat
  | .alt _ i _ rest => i :: rest.alts
  | _ => []
def OT.cov (ops : Array Oper) (li : Array Bool) : OT → Bool
  | .alt c i t rest => (Region.ready .any ops li).contains i && (Region.ready .any ops li).all fun j => (OT.alt c i t rest).alts.contains j
  | .stop => false
  | _ => true
def invB (ops : Array Oper) (li : Array Bool) (ord : List (Nat × Nat)) : Bool :=
  Nat.beq li.size ops.size && ((List.range ops.size).all fun j => (!(li.getD j true)) == (ord.map (·.2)).contains j) && ((ord.map (·.2)).all fun j => Nat.blt j ops.size) &&
    ((List.range ops.size).all fun j => !(li.getD j false) || match ops[j]? with
      | some o => o.after.all fun e => !(Region.binds .any e) || li.getD e.on false
      | none => true)

theorem invB_spec {ops : Array Oper} {li : Array Bool} {ord : List (Nat × Nat)} (h : invB ops li ord = true) : Inv ops li ord := by
  simp only [invB, Bool.and_eq_true] at h
  obtain ⟨⟨⟨h1, h2⟩, h3⟩, h4⟩ := h
  have h1 := Nat.eq_of_beq_eq_true h1
  refine ⟨h1, fun j hj => ?_, fun j hj => ?_, fun j o ho hl e he hb => ?_⟩
  · have := List.all_eq_true.1 h2 j (List.mem_range.2 hj)
    rw [beq_iff_eq] at this
    rw [List.contains_eq_mem] at this
    cases hl : li.getD j true with
    | true => rw [hl] at this; simp only [Bool.not_true] at this; have := of_decide_eq_false this.symm; simp only [Bool.true_eq_false, false_iff]; exact this
    | false => rw [hl] at this; simp only [Bool.not_false] at this; have := of_decide_eq_true this.symm; simp only [true_iff]; exact this
  · have := List.all_eq_true.1 h3 j hj
    simpa using this
  · have hj : j < ops.size := (Array.getElem?_eq_some_iff.1 ho).1
    have := List.all_eq_true.1 h4 j (List.mem_range.2 hj)
    rw [hl, ho] at this
    simp only [Bool.not_true, Bool.false_or] at this
    have := (Array.all_eq_true_iff_forall_mem.1 this) e he
    rw [hb] at this
    simpa using this

def evT (TT : List TE) (Γ : List CE) (bo : Option R → Option R → Option R) (ops : Array Oper) (K : ESt → Option R) : OT → Nat → Array Bool → ESt → Option R
  | .leaf ord, n, li, s => bif Nat.beq ord.length n && invB ops li ord && chk ops ord then evOps TT Γ bo ops.toList (opers ops ord) s K else none
  | .one i t, n, li, s => match n, ops[i]? with
    | n + 1, some o => bif pureB o && Region.free .any ops li i && (Region.ready .any ops li).contains i && t.cov ops (li.setIfInBounds i true) then
        evOps TT Γ bo ops.toList [(0, o)] s fun s' => evT TT Γ bo ops K t n (li.setIfInBounds i true) s' else none
    | _, _ => none
  | .alt c i t rest, n, li, s => match n, ops[i]? with
    | m + 1, some o => bif t.cov ops (li.setIfInBounds i true) then (match rest with
        | .stop => evOps TT Γ bo ops.toList [(c, o)] s fun s' => evT TT Γ bo ops K t m (li.setIfInBounds i true) s'
        | _ => bo (evOps TT Γ bo ops.toList [(c, o)] s fun s' => evT TT Γ bo ops K t m (li.setIfInBounds i true) s') (evT TT Γ bo ops K rest n li s)) else none
    | _, _ => none
  | .stop, _, _, _ => none

section
variable {P : Program} {TT : List TE} {Γ : List CE} {bo : Option R → Option R → Option R} {F : Fr} {ops : Array Oper} {q : R} {K : ESt → Option R}

def PK (s : ESt) (K : ESt → Option R) (q : R) (σ : St) : Prop := ∃ s', σ = s'.st ∧ Sfx s s' ∧ K s' = some q
def QK (F : Fr) (s : ESt) (K : ESt → Option R) (q : R) : Exit → Act → World → Prop := fun e a w => e = .normal ∧ ∃ σ, PK s K q σ ∧ Rel F σ a w

theorem QK.wide {s s' : ESt} (h : Sfx s s') {e : Exit} {a : Act} {w : World} (hq : QK F s' K q e a w) : QK F s K q e a w :=
  let ⟨h1, σ, ⟨s1, h2, h3, h4⟩, h5⟩ := hq; ⟨h1, σ, ⟨s1, h2, h.trans h3, h4⟩, h5⟩

theorem evT_sound (hsel : Region.noSelect ops = true) (hT : TOK P TT) (hG : GOK P Γ) (hbo : Both bo) : ∀ (t : OT),
    (∀ (n : Nat) (li : Array Bool) (s : ESt) (a : Act) (w : World), t.cov ops li = true → evT TT Γ bo ops K t n li s = some q → Rel F s.st a w → wpAny P .any ops (QK F s K q) n li a w) ∧
    (∀ (n : Nat) (li : Array Bool) (s : ESt) (a : Act) (w : World), evT TT Γ bo ops K t (n + 1) li s = some q → Rel F s.st a w → ∀ i ∈ t.alts, wpOp P ops (QK F s K q) i (wpAny P .any ops (QK F s K q) n (li.setIfInBounds i true)) a w)
  | .leaf ord => by
    refine ⟨fun n li s a w _ h r => ?_, fun n li s a w h r i hi => by cases hi⟩
    simp only [evT] at h
    have hb := (bif_some h).1; replace h := (bif_some h).2
    simp only [Bool.and_eq_true] at hb
    exact wpAny_of_wpW hsel n ord li a w (Nat.eq_of_beq_eq_true hb.1.1) (invB_spec hb.1.2) hb.2 (evOps_sound hT hG hbo h a w _ r fun σ' a' w' hk hr => ⟨rfl, σ', hk, hr⟩)
  | .one i t => by
    refine ⟨fun n li s a w _ h r => ?_, fun n li s a w h r i hi => by cases hi⟩
    simp only [evT] at h
    split at h
    · rename_i n o ho
      have hb := (bif_some h).1; replace h := (bif_some h).2
      simp only [Bool.and_eq_true] at hb
      obtain ⟨⟨⟨hp, hf⟩, hr⟩, hc⟩ := hb
      have hs := AO.single (evOps_sound (F := F) hT hG hbo h) r (K := wpAny P .any ops (QK F s K q) n (li.setIfInBounds i true)) (fun σ' a' w' ⟨s', h1, h2, h3⟩ r' => by
        subst h1
        exact wpAny_monoQ (fun _ _ _ => QK.wide h2) _ _ _ _ ((evT_sound hsel hT hG hbo t).1 n _ s' a' w' hc h3 r')) (QK F s K q)
      have hQ : ∀ (v : Value) c a w, QK F s K q (.panic c) (a.put o.dst v) w → QK F s K q (.panic c) a w := fun v c a w ⟨h, _⟩ => by cases h
      split at hs
      · rename_i hw
        obtain ⟨v, hv, hk⟩ := hs
        exact wpAny_take ho hsel hf hr (hQ v) (.inl ⟨hw, fun w' => hv w' (.inl hp)⟩) hk
      · rename_i hw
        exact wpAny_take ho hsel hf hr (hQ undef) (.inr ⟨by simpa using hw, rfl⟩) hs
    · cases h
  | .stop => by
    refine ⟨fun n li s a w _ h r => by simp [evT] at h, fun n li s a w h r i hi => by cases hi⟩
  | .alt c i t rest => by
    have hB : ∀ (n : Nat) (li : Array Bool) (s : ESt) (a : Act) (w : World), evT TT Γ bo ops K (.alt c i t rest) (n + 1) li s = some q → Rel F s.st a w → ∀ j ∈ (OT.alt c i t rest).alts, wpOp P ops (QK F s K q) j (wpAny P .any ops (QK F s K q) n (li.setIfInBounds j true)) a w := by
      intro n li s a w h r j hj
      simp only [evT] at h
      split at h
      · rename_i n' m o hn ho
        cases hn
        have hc := (bif_some h).1; replace h := (bif_some h).2
        have one : evOps TT Γ bo ops.toList [(c, o)] s (fun s' => evT TT Γ bo ops K t n (li.setIfInBounds i true) s') = some q → wpOp P ops (QK F s K q) i (wpAny P .any ops (QK F s K q) n (li.setIfInBounds i true)) a w := fun h =>
          wpOp_of_C ho (AO.single (evOps_sound (F := F) hT hG hbo h) r (K := wpAny P .any ops (QK F s K q) n (li.setIfInBounds i true)) (fun σ' a' w' ⟨s', h1, h2, h3⟩ r' => by
            subst h1
            exact wpAny_monoQ (fun _ _ _ => QK.wide h2) _ _ _ _ ((evT_sound hsel hT hG hbo t).1 n _ s' a' w' hc h3 r')) (QK F s K q))
        have hj' : j = i ∨ j ∈ rest.alts := by simpa [OT.alts] using hj
        split at h
        · rcases hj' with rfl | hj'
          · exact one h
          · cases hj'
        · rcases hj' with rfl | hj'
          · exact one (hbo.l h)
          · exact (evT_sound hsel hT hG hbo rest).2 n li s a w (hbo.r h) r j hj'
      · cases h
    refine ⟨fun n li s a w hcov h r => ?_, hB⟩
    cases n with
    | zero => simp only [evT] at h; cases h
    | succ n =>
      simp only [OT.cov, Bool.and_eq_true] at hcov
      refine ⟨fun hr => ?_, fun j hj => ?_⟩
      · rw [hr] at hcov; simp at hcov
      · have := List.all_eq_true.1 hcov.2 j hj
        exact hB n li s a w h r j (by simpa using this)
end
end
end Go.Ab
