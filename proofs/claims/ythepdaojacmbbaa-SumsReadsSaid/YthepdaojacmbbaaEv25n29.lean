/- Calls that may end in a panic. -/
import Derived.Test.YthepdaojacmbbaaEv25n23
set_option linter.unusedVariables false
set_option linter.unusedSimpArgs false
set_option linter.unusedSectionVars false
namespace Go.Ab
noncomputable section
set_option linter.unusedVariables false
variable {R : Type}
def pch (T : Nat) (p : Int × Int) : List PanicEntry := [{ v := .iface T (.agg #[.int .i64 p.1, .int .i64 p.2]), recovered := false }]
def dec (T : Nat) : List PanicEntry → Option (Int × Int)
  | [⟨.iface u (.agg cs), false, false⟩] => bif Nat.beq u T then (match cs.toList with
    | [.int .i64 a, .int .i64 b] => some (a, b)
    | _ => none) else none
  | _ => none
theorem dec_pch (T : Nat) (p : Int × Int) : dec T (pch T p) = some p := by
  unfold pch dec
  simp only [Nat.beq_refl, cond_true]
theorem dec_inv {T : Nat} {ch : List PanicEntry} {p : Int × Int} (h : dec T ch = some p) : ch = pch T p := by
  unfold dec at h
  split at h
  · rename_i u cs
    have hb := (bif_some h).1; replace h := (bif_some h).2
    have hb := Nat.eq_of_beq_eq_true hb
    subst hb
    split at h
    · rename_i a b hl
      cases h
      unfold pch
      have : cs = #[.int .i64 a, .int .i64 b] := by rw [← Array.toArray_toList (xs := cs), hl]
      rw [this]
    · cases h
  · cases h
def FcP (P : Program) (f : FuncId) (args : List AV) (h : Hp) (T : Nat) (p : Int × Int) : Prop :=
  ∀ (w : World) (X : Nat → Prop) (H : Hd) (vs : Array Value), (∀ b, X b → b < w.heap.size) → (∀ id, bs id < LIM → H id = none) → HOK X h H w → vs.size = args.length →
    (∀ i, i < args.length → VRel w (Sh X (entOf h) H w) H (args.getD i default) (vs.getD i undef)) →
    Calls P f vs w (fun e w' => e = .panicked (pch T p) ∧
      (w'.os = w.os ∧ w'.tape = w.tape ∧ w'.output = w.output ∧ w.heap.size ≤ w'.heap.size) ∧ (∀ b, b < w.heap.size → ¬ Owned h H b → w'.heap[b]? = w.heap[b]?))
structure CEp where
  f : Nat
  sig : Shape
  out : Shape
  den : Tup sig.tys → Option (Tup out.tys ⊕ (Int × Int))
def CEp.norm (c : CEp) : CE := ⟨c.f, c.sig, c.out, fun X => match c.den X with
  | some (.inl Y) => some Y
  | _ => none⟩
structure CEp.ok (P : Program) (T : Nat) (c : CEp) : Prop where
  call : ∀ (as : Array Value) (w : World), (callFunc c.f as).run P w = .ok (.enter c.f as) w
  fc : ∀ X Y, c.den X = some (.inl Y) → Fc P c.f (EV.avL (c.sig.vals X)) (hpSt (c.sig.heap X) (c.sig.rws X)) (fun r h => r = (retE (c.out.vals Y)).av ∧ h = hpSt (c.out.heap Y) (c.out.rws Y))
  fp : ∀ X p, c.den X = some (.inr p) → FcP P c.f (EV.avL (c.sig.vals X)) (hpSt (c.sig.heap X) (c.sig.rws X)) T p
theorem CEp.ok.norm {P : Program} {T : Nat} {c : CEp} (h : c.ok P T) : c.norm.ok P := ⟨h.call, fun X Y hXY => by
  refine h.fc X Y ?_
  have hXY : (match c.den X with
    | some (.inl Y) => some Y
    | _ => none) = some Y := hXY
  split at hXY
  · rename_i Y' hY'; cases hXY; exact hY'
  · cases hXY⟩
def GPOK (P : Program) (T : Nat) (Γ : List CEp) : Prop := ∀ c ∈ Γ, c.ok P T
def pbind {A B : Type} (o : Option (A ⊕ (Int × Int))) (k : A → Option B) (kp : Int × Int → Option B) : Option B := match o with
  | some (.inl y) => k y
  | some (.inr p) => kp p
  | none => none
def keepB (s : ESt) (ids : Ids) (i : Nat) : Bool := match look s.heap i with
  | some (some (.box _ _)) => !(ids.map (·.2)).contains i
  | _ => false
def dropd (s : ESt) (ids : Ids) : ESt := ⟨s.n, s.slots, ((s.heap.map (·.1)).filter fun i => !keepB s ids i).map (fun i => (i, none)) ++ s.heap, s.nxt, (s.rws.map fun p => (p.1, none)) ++ s.rws⟩
theorem Sfx.dropd (s : ESt) (ids : Ids) : Sfx s (dropd s ids) := ⟨⟨[], rfl⟩, ⟨_, rfl⟩, ⟨_, rfl⟩, Nat.le_refl _, rfl⟩
theorem look_noneP {β : Type} {l : List Nat} {k : Nat} {q : Option β} (h : look (l.map fun i => (i, (none : Option β))) k = some q) : q = none := by
  obtain ⟨i, _, e⟩ := List.mem_map.1 (look_mem h)
  cases e; rfl
theorem look_noneP_in {β : Type} : ∀ {l : List Nat} {k : Nat}, k ∈ l → look (l.map fun i => (i, (none : Option β))) k = some none
  | i :: l, k, h => by
    rw [List.map_cons, look_cons]
    by_cases e : i = k
    · rw [if_pos e]
    · rw [if_neg e]
      rcases List.mem_cons.1 h with h | h
      · exact absurd h.symm e
      · exact look_noneP_in h
theorem dropd_eqv {s : ESt} {ids : Ids} (hlow : s.low = true) : Eqv (s.st.back ids s.nxt (fun _ => none)) (dropd s ids).st := by
  refine ⟨rfl, rfl, fun k x hx => hx, fun k e he => ?_⟩
  rw [st_ent_look] at he
  show (if (ids.any fun p => Nat.beq p.2 (bs k)) = true then none else s.st.ent k) = some e
  have he : (match look (((s.heap.map (·.1)).filter fun i => !keepB s ids i).map (fun i => (i, (none : Option EEnt))) ++ s.heap) k with
    | some e => e.map (EEnt.ent ((s.rws.map fun p => (p.1, (none : Option RW))) ++ s.rws))
    | none => rowsOf ((s.rws.map fun p => (p.1, (none : Option RW))) ++ s.rws) k) = some e := he
  rw [look_append] at he
  cases h1 : look (((s.heap.map (·.1)).filter fun i => !keepB s ids i).map (fun i => (i, (none : Option EEnt)))) k with
  | some q =>
    rw [h1] at he
    have := look_noneP h1
    subst this
    cases he
  | none =>
    rw [h1] at he
    simp only [Option.none_or] at he
    cases h2 : look s.heap k with
    | some q =>
      rw [h2] at he
      simp only at he
      have hk : keepB s ids k = true := by
        cases hb : keepB s ids k with
        | true => rfl
        | false =>
          have : k ∈ (s.heap.map (·.1)).filter fun i => !keepB s ids i := List.mem_filter.2 ⟨List.mem_map.2 ⟨_, look_mem h2, rfl⟩, by rw [hb]; rfl⟩
          rw [look_noneP_in this] at h1; cases h1
      have hkR : k < RB := by
        have := List.all_eq_true.1 hlow (k, q) (look_mem h2)
        simpa using this
      have hk0 := hk
      unfold keepB at hk
      rw [h2] at hk
      cases q with
      | none => cases he
      | some e0 =>
        cases e0 with
        | box T c =>
          simp only [Bool.not_eq_true'] at hk
          rw [if_neg fun hany => by
            obtain ⟨p, hp, hpb⟩ := List.any_eq_true.1 hany
            have := Nat.eq_of_beq_eq_true hpb
            rw [bs_lt hkR] at this
            have : k ∈ ids.map (·.2) := List.mem_map.2 ⟨p, hp, this⟩
            rw [List.contains_eq_mem] at hk
            simp [this] at hk]
          have hent : s.ent k = some (.box T c) := by unfold ESt.ent; rw [h2]
          rw [ent_st hent, ← he]; rfl
        | arr => cases hk
        | out => cases hk
        | outs => cases hk
    | none =>
      rw [h2] at he
      simp only at he
      exfalso
      unfold rowsOf at he
      split at he
      · rw [look_append] at he
        cases h3 : look (s.rws.map fun p => (p.1, (none : Option RW))) (k % RB) with
        | some q =>
          rw [h3] at he
          obtain ⟨p, _, e⟩ := List.mem_map.1 (look_mem h3)
          have : q = none := (congrArg Prod.snd e).symm
          subst this
          cases he
        | none =>
          rw [h3] at he
          simp only [Option.none_or] at he
          cases h4 : look s.rws (k % RB) with
          | none => rw [h4] at he; cases he
          | some q =>
            have key : ∀ (l : List (Nat × Option RW)), look l (k % RB) = some q → look (l.map fun p => (p.1, (none : Option RW))) (k % RB) ≠ none := by
              intro l
              induction l with
              | nil => intro h; cases h
              | cons y l ih =>
                intro h hn
                rw [List.map_cons, look_cons] at hn
                obtain ⟨yk, yv⟩ := y
                rw [look_cons] at h
                by_cases hy : yk = k % RB
                · rw [if_pos hy] at hn; cases hn
                · rw [if_neg hy] at hn h
                  exact ih h hn
            exact key _ h4 h3
      · cases he
def evCallPAt (s : ESt) (c : CEp) (vals : List EV) (d : Nat) (K : ESt → Option R) (KP : Int × Int → ESt → Option R) : Option (Option R) :=
  match hndL s c.sig.tys (c.sig.slots.map (·.2)) vals ([], [], []) with
  | none => none
  | some (vs, ids, ln) => match mchE s c.sig.ents (vs, ids) with
    | none => none
    | some (vs, ids) => match finV c.sig.tys vs with
      | none => none
      | some X => bif inOK c.norm ids ln && outOK c.out s.nxt ids && leftOK s c.out ids then some (pbind (c.den X) (fun Y => K (behind' s c.norm ids d Y)) (fun p => KP p (dropd s ids))) else none
def evCallPG (s : ESt) (g : Nat) (vals : List EV) (d : Nat) (K : ESt → Option R) (KP : Int × Int → ESt → Option R) : List CEp → Option R
  | [] => none
  | c :: r => bif Nat.beq c.f g then (match evCallPAt s c vals d K KP with
    | some x => x
    | none => evCallPG s g vals d K KP r) else evCallPG s g vals d K KP r
def evCallP (Γ : List CEp) (s : ESt) (o : Oper) (K : ESt → Option R) (KP : Int × Int → ESt → Option R) : Option R := match o.op, o.dst, o.guard with
  | .call c, some d, none => match c.callee with
    | .value f => match s.ev f with
      | some (.fn g caps) => match evAll s c.args.toList with
        | some vals => bif Nat.blt d s.n then evCallPG s g (vals ++ caps) d K KP Γ else none
        | none => none
      | _ => none
    | _ => none
  | _, _, _ => none
def prepP (TT : List TE) (s : ESt) (o : Oper) : ESt := match o.op with
  | .call c => match c.callee with
    | .value f => evNils TT s f c.args.toList
    | _ => s
  | _ => s
theorem prepP_wk (TT : List TE) (s : ESt) (o : Oper) : Wk s (prepP TT s o) ∧ Sfx s (prepP TT s o) := by
  unfold prepP
  split
  · split
    · exact evNils_wk TT s _ _
    · exact ⟨Wk.refl _, Sfx.refl _⟩
  · exact ⟨Wk.refl _, Sfx.refl _⟩
def payl (s : ESt) (x : Operand) : Option (Int × Int) := match s.ev x with
  | some (.d (.pair (.pair (.int .i64) (.pair (.int .i64) .unit)) .unit) p) => some (p.1.1, p.1.2.1)
  | _ => none
def evPanic (TT : List TE) (T : Nat) (s : ESt) (o o2 : Oper) (KP : Int × Int → ESt → Option R) : Option R := match o.op, o.dst, o.guard, o2.op, o2.guard with
  | .makeInterface T' x, some d, none, .panic (.tmp d'), none => bif Nat.beq T' T && Nat.beq d d' && Nat.blt d s.n then (match tyT TT T, payl s x with
      | some t, some p => bif t.agg then KP p (s.set d .any) else none
      | _, _ => none) else none
  | _, _, _, _, _ => none
def evOpsP (TT : List TE) (Γ : List CE) (Γp : List CEp) (T : Nat) (bo : Option R → Option R → Option R) (ops : Array Oper) (K : ESt → Option R) (KP : Int × Int → ESt → Option R) : List (Nat × Nat) → ESt → Option R
  | [], s => K s
  | (c, i) :: r, s => match ops[i]? with
    | none => none
    | some o => bif Nat.beq c 5 then evCallP Γp s o (fun s' => evOpsP TT Γ Γp T bo ops K KP r s') KP
      else bif Nat.beq c 8 then evCallP Γp (prepP TT s o) o (fun s' => evOpsP TT Γ Γp T bo ops K KP r s') KP
      else bif Nat.beq c 6 then (match r with
        | [(_, j)] => match ops[j]? with
          | some o2 => evPanic TT T s o o2 KP
          | none => none
        | _ => none)
      else evOps TT Γ bo ops.toList [(c, o)] s fun s' => evOpsP TT Γ Γp T bo ops K KP r s'
section
variable {P : Program} {TT : List TE} {Γ : List CE} {Γp : List CEp} {T : Nat} {bo : Option R → Option R → Option R} {F : Fr} {ops : Array Oper} {q : R} {K : ESt → Option R} {KP : Int × Int → ESt → Option R} {s : ESt} {o : Oper}
theorem call_lp {σ : St} {o : Oper} {f : Operand} {g : FuncId} {caps : List AV} {args : Array Operand} {ts : Array TypeId} (cm : List (Nat × Nat)) (ln : LN) {as cs : List AV} {h : Hp} {p : Int × Int}
    (ho : o.op = .call { callee := .value f, args := args, argTypes := ts }) (hf : σ.ev f = some (.fn g caps)) (hcall : ∀ (as : Array Value) (w : World), (callFunc g as).run P w = .ok (.enter g as) w)
    (hdis : ∀ i o, lkc cm i = some o → o ∉ ln) (hcm : cmOK cm = true) (hargs : HandL σ cm ln args.toList as) (hcaps : HandC σ cm ln caps cs) (hh : handHeap cm σ h) (hnx : σ.nxt ≤ LIM)
    (hfn : FcP P g (as ++ cs) h T p) {N : Act → World → Prop} :
    ∀ (a : Act) (w : World), Rel F σ a w → o.wp P a w N (fun e a' w' => e = .panic (pch T p) ∧ a' = a ∧ Rel F (σ.back cm σ.nxt (fun _ => none)) a w') := by
  intro a w ⟨H, r⟩
  obtain ⟨hok, hS⟩ := hand_okL hdis r hcm hh
  obtain ⟨hl, hav⟩ := hargs.rel r
  obtain ⟨hcl, hcr⟩ := hcaps.rel
  have hfv := r.ev hf
  obtain ⟨cv, hfe, hcs, hcv⟩ : ∃ cv : Array Value, a.eval f = .func (.func g) #[] cv ∧ cv.size = caps.length ∧ ∀ i, i < caps.length → VRel w (Sh F.X σ.ent H w) H (caps.getD i default) (cv.getD i undef) := by
    generalize a.eval f = u at hfv
    cases hfv with
    | fn _ _ cv hs h => exact ⟨cv, rfl, hs, h⟩
  have hargsz : (args.map a.eval).size = as.length := by simpa using hl
  have hC := hfn w (fun b => F.X b ∨ ∃ id e v, σ.ent id = some e ∧ H id = some v ∧ blk v = some b ∧ (∀ i, lkc cm i ≠ some id) ∧ id ∉ ln) (cmH cm H) (args.map a.eval ++ cv)
    (fun b hb => by
      rcases hb with hb | ⟨id, e, v, h1, h2, h3, _⟩
      · have := r.xlt b hb; have := r.grow; omega
      · obtain ⟨v', h4, h5⟩ := r.ent id e h1
        rw [h2] at h4; cases h4; exact h5.lt h3)
    (fun id hid => by
      unfold cmH
      cases hc : lkc cm id with
      | none => rfl
      | some q => have := (lkc_split (cmOK_spec hcm) hc).1; omega)
    hok (by simp only [Array.size_append, List.length_append, hargsz, hcs, hcl]) (fun i hi => by
      have hi' : i < as.length + cs.length := by simpa using hi
      by_cases h1 : i < as.length
      · have := (hav i h1).mono (fun b hb => ⟨hS b hb, rfl⟩) (fun _ _ h => h)
        have e1 : (as ++ cs).getD i default = as.getD i default := by simp only [List.getD_eq_getElem?_getD]; rw [List.getElem?_append_left h1]
        have e2 : (args.map a.eval ++ cv).getD i undef = (args.toList.map a.eval).getD i undef := by
          have : i < (args.map a.eval).size := by omega
          simp only [Array.getD_eq_getD_getElem?, List.getD_eq_getElem?_getD, Array.getElem?_append_left this]
          rw [← Array.toList_map, Array.getElem?_toList]
        rw [e1, e2]; exact this
      · have h2 : i - as.length < caps.length := by omega
        have := (hcr (i - as.length) (by omega) F H a w r _ (hcv (i - as.length) h2)).mono (fun b hb => ⟨hS b hb, rfl⟩) (fun _ _ h => h)
        have e1 : (as ++ cs).getD i default = cs.getD (i - as.length) default := by simp only [List.getD_eq_getElem?_getD]; rw [List.getElem?_append_right (by omega)]
        have e2 : (args.map a.eval ++ cv).getD i undef = cv.getD (i - as.length) undef := by
          have : (args.map a.eval).size ≤ i := by omega
          simp only [Array.getD_eq_getD_getElem?]
          rw [Array.getElem?_append_right this, hargsz]
        rw [e1, e2]; exact this)
  unfold Oper.wp
  have hrun : (execOp a.eval o).run P w = .ok (.enter g (args.map a.eval ++ cv)) w := by
    simp [execOp, ho, resolve, hfe, Deferred.ofValue, invoke, hcall]
  rw [hrun]
  refine Calls.mono hC ?_
  rintro e w' ⟨rfl, hos, hkeep⟩
  refine ⟨rfl, rfl, ?_⟩
  have hno : ∀ i e, entOf (fun _ => (none : Option Ent)) i = some e → False := fun i e h => by cases h
  obtain ⟨H'', hrel, _⟩ := r.callL (h' := fun _ => none) (H' := cmH cm H) (mp := []) (h'' := fun _ => none) (nxt' := σ.nxt) hdis hcm hh hos hkeep
    ⟨fun i e h => (hno i e h).elim, fun i e v b h => (hno i e h).elim, fun i j e e' v v' b h => (hno i e h).elim⟩ (fun b ⟨i, e, v, h, _⟩ => (hno i e h).elim) (fun _ _ => rfl) (fun _ j e h => (hno j e h).elim)
    (by simp [backOK, nodupB, hnx]) (fun i e h => by cases h)
  exact ⟨H'', hrel⟩
theorem evCallPAt_sound {c : CEp} (hc : c.ok P T) {f : Operand} {args : Array Operand} {ts : Array TypeId} {d : Nat} {vals caps : List EV} (hd : o.dst = some d) (hlt : Nat.blt d s.n = true)
    (ho : o.op = .call { callee := .value f, args := args, argTypes := ts }) (hf : s.ev f = some (.fn c.f caps)) (hargs : evAll s args.toList = some vals)
    (h : evCallPAt s c (vals ++ caps) d K KP = some (some q)) :
    ∀ (a : Act) (w : World), Rel F s.st a w → o.wp P a w (fun a' w' => (∃ u, a' = a.put o.dst u) ∧ ∃ s', Sfx s s' ∧ K s' = some q ∧ Rel F s'.st a' w')
      (fun e a' w' => ∃ p s', e = .panic (pch T p) ∧ Sfx s s' ∧ KP p s' = some q ∧ Rel F s'.st a' w') := by
  have h0 := h
  unfold evCallPAt at h
  split at h
  · cases h
  · rename_i vs0 ids0 ln h1
    split at h
    · cases h
    · rename_i vs ids h2
      split at h
      · cases h
      · rename_i X h3
        have hb := (bif_some h).1; replace h := (bif_some h).2
        simp only [Option.some.injEq] at h
        unfold pbind at h
        split at h
        · rename_i Y hY
          have hat : evCallAt s c.norm (vals ++ caps) d K = some (some q) := by
            unfold evCallAt
            have e1 : hndL s c.norm.sig.tys (c.norm.sig.slots.map (·.2)) (vals ++ caps) ([], [], []) = some (vs0, ids0, ln) := h1
            rw [e1]
            simp only
            have e2 : mchE s c.norm.sig.ents (vs0, ids0) = some (vs, ids) := h2
            rw [e2]
            simp only
            have e3 : finV c.norm.sig.tys vs = some X := h3
            rw [e3]
            simp only
            have e4 : (inOK c.norm ids ln && outOK c.norm.out s.nxt ids && leftOK s c.norm.out ids) = true := hb
            rw [e4, cond_true]
            have e5 : c.norm.den X = some Y := by
              show (match c.den X with
                | some (.inl Y) => some Y
                | _ => none) = some Y
              rw [hY]
            rw [e5]
            exact congrArg some h
          exact fun a w r => Oper.wp_mono2 (fun a' w' ⟨⟨g1, _⟩, σ', ⟨s', g2, g3, g4⟩, g5⟩ => ⟨g1, s', g3, g4, by subst g2; exact g5⟩) (fun _ _ _ h => h.elim) (evCallAt_sound hc.norm hd hlt ho hf hargs hat a w r)
        · rename_i p hp
          simp only [Bool.and_eq_true] at hb
          obtain ⟨⟨hin, hout⟩, hleft⟩ := hb
          simp only [inOK, Bool.and_eq_true] at hin
          obtain ⟨⟨⟨⟨hcm, hdis⟩, hlnr⟩, hnd⟩, hflat⟩ := hin
          simp only [leftOK, Bool.and_eq_true] at hleft
          obtain ⟨hlow, hleft⟩ := hleft
          have hvs := finV_spec h3
          have hmono := mchE_mono h2
          obtain ⟨_, hnd1⟩ := hndL_spec h1
          have hagr : AgrA (vs0, ids0, ln) (Tup.get c.sig.tys X) ids ln := ⟨fun p hp => hvs p (hmono.vs p hp), fun i o ho => hmono.ids i o ho, fun _ h => h⟩
          have hC := hnd1 _ ids ln hagr
          rw [evL_vals, avL_append] at hC
          obtain ⟨ys, zs, hyz, hC1, hC2⟩ := handC_split hC
          have hagrE : Agr (vs, ids) (Tup.get c.sig.tys X) false (toMp ids) := ⟨hvs, fun i o ho => .inl (look_toMp' ho)⟩
          have hF := hc.fp X p hp
          have hnx : s.nxt ≤ LIM := by
            simp only [outOK, Bool.and_eq_true, backOK] at hout
            have h1 := Nat.le_of_ble_eq_true hout.1.1.1.1.1.1.1.2
            omega
          refine fun a w rl => Oper.wp_mono2 (fun a' w' hh => hh) (fun e a' w' hh => ?_) (call_lp (F := F) (T := T) (N := fun a' w' => (∃ u, a' = a.put o.dst u) ∧ ∃ s', Sfx s s' ∧ K s' = some q ∧ Rel F s'.st a' w') ids ⟨ln⟩ ho (ev_st hf) hc.call (fun i o hi => ?_) hcm (handL_of hargs hC1) hC2 (h := hpSt (c.sig.heap X) (c.sig.rws X)) (handHeap_of hlow (cmOK_spec hcm) h2 hagrE rfl hnd) hnx (by rw [← hyz]; exact hF) a w rl)
          · obtain ⟨rfl, rfl, H, hr⟩ := hh
            exact ⟨p, dropd s ids, rfl, Sfx.dropd s ids, h, H, (dropd_eqv hlow).relH hr⟩
          · obtain ⟨_, o', g1, g2, ⟨g3, rfl⟩ | ⟨g3, rfl⟩⟩ := lkc_split (cmOK_spec hcm) hi
            · rintro (hm | ⟨hm, _⟩)
              · have := List.all_eq_true.1 hdis (_, o) (look_mem g1)
                simp at this
                exact this hm
              · have := ((cmOK_spec hcm).key _ _ g1).2.2
                omega
            · rintro (hm | ⟨_, hm⟩)
              · have : rid o' (i / RB - 1) < RB := by simpa using List.all_eq_true.1 hlnr _ hm
                have := rid_ge o' (i / RB - 1); omega
              · rw [rid_mod (((cmOK_spec hcm).key _ _ g1).2.2)] at hm
                have := List.all_eq_true.1 hdis (_, o') (look_mem g1)
                simp at this
                exact this hm
        · cases h
theorem evCallPG_spec {g : Nat} {vals : List EV} {d : Nat} : ∀ {Γ : List CEp}, evCallPG s g vals d K KP Γ = some q → ∃ c ∈ Γ, c.f = g ∧ evCallPAt s c vals d K KP = some (some q)
  | [], h => by cases h
  | c :: r, h => by
    simp only [evCallPG] at h
    cases hb : Nat.beq c.f g with
    | true =>
      rw [hb] at h
      simp only [cond_true] at h
      split at h
      · rename_i x hx
        subst h
        exact ⟨c, by simp, Nat.eq_of_beq_eq_true hb, hx⟩
      · obtain ⟨c', h1, h2⟩ := evCallPG_spec h
        exact ⟨c', by simp [h1], h2⟩
    | false =>
      rw [hb] at h
      obtain ⟨c', h1, h2⟩ := evCallPG_spec (show evCallPG s g vals d K KP r = some q from h)
      exact ⟨c', by simp [h1], h2⟩
def QP (T : Nat) (F : Fr) (s : ESt) (K : ESt → Option R) (KP : Int × Int → ESt → Option R) (q : R) : Exit → Act → World → Prop := fun e a w =>
  (e = .normal ∧ ∃ s', Sfx s s' ∧ K s' = some q ∧ Rel F s'.st a w) ∨ ∃ p s', e = .panic (pch T p) ∧ Sfx s s' ∧ KP p s' = some q ∧ Rel F s'.st a w
theorem QP.wide {s s' : ESt} (h : Sfx s s') {e : Exit} {a : Act} {w : World} (hq : QP T F s' K KP q e a w) : QP T F s K KP q e a w := by
  rcases hq with ⟨h1, s1, h2, h3, h4⟩ | ⟨p, s1, h1, h2, h3, h4⟩
  · exact .inl ⟨h1, s1, h.trans h2, h3, h4⟩
  · exact .inr ⟨p, s1, h1, h.trans h2, h3, h4⟩
theorem wpOps_monoQ {Q Q' : Exit → Act → World → Prop} (hq : ∀ e a w, Q e a w → Q' e a w) : ∀ (l : List Nat) (a : Act) (w : World), wpOps P ops Q l a w → wpOps P ops Q' l a w
  | [], a, w, h => hq _ _ _ h
  | i :: l, a, w, h => by
    rw [wpOps_cons] at h ⊢
    exact wpOp_monoQ hq (fun a w h => wpOps_monoQ hq l a w h) h
theorem wanted_none {o : Oper} (h : o.guard = none) {a : Act} : Region.wanted o (yielded ops a.tmps) = true := by
  unfold Region.wanted; rw [h]
theorem wpOp_plain {i : Nat} {Q : Exit → Act → World → Prop} {N : Act → World → Prop} {a : Act} {w : World} (hi : ops[i]? = some o) (hg : o.guard = none) (h : o.wp P a w N Q) : wpOp P ops Q i N a w := by
  unfold wpOp
  simp only [hi]
  rw [if_pos (wanted_none hg)]
  exact .inl h
theorem evCallP_sound (hG : GPOK P T Γp) (h : evCallP Γp s o K KP = some q) : o.guard = none ∧ ∀ (a : Act) (w : World), Rel F s.st a w → o.wp P a w (fun a' w' => (∃ u, a' = a.put o.dst u) ∧ ∃ s', Sfx s s' ∧ K s' = some q ∧ Rel F s'.st a' w')
      (fun e a' w' => ∃ p s', e = .panic (pch T p) ∧ Sfx s s' ∧ KP p s' = some q ∧ Rel F s'.st a' w') := by
  unfold evCallP at h
  split at h
  · rename_i c d ho hd hg
    obtain ⟨cal, args, ts⟩ := c
    simp only at h
    split at h
    · rename_i f
      split at h
      · rename_i g caps hf
        split at h
        · rename_i vals hv
          have hb := (bif_some h).1; replace h := (bif_some h).2
          obtain ⟨c, hc, hcf, hat⟩ := evCallPG_spec h
          exact ⟨hg, evCallPAt_sound (hG c hc) hd hb ho (by rw [hcf]; exact hf) hv hat⟩
        · cases h
      · cases h
    · cases h
  · cases h
theorem payl_spec {x : Operand} {p : Int × Int} (h : payl s x = some p) {H : Hd} {a : Act} {w : World} (r : RelH F s.st H a w) : a.eval x = .agg #[.int .i64 p.1, .int .i64 p.2] := by
  unfold payl at h
  split at h
  · rename_i y hx
    cases h
    have hv := r.ev (ev_st hx)
    generalize a.eval x = v at hv
    obtain ⟨⟨c, a', u⟩, u'⟩ := y
    cases hv with
    | d _ _ hd =>
      have e : encD (.pair (.pair (.int .i64) (.pair (.int .i64) .unit)) .unit) ((c, a', u), u') = .agg [.lit (.int .i64 c), .lit (.int .i64 a')] := rfl
      rw [e] at hd
      cases hd with
      | agg _ cs hs hr =>
        have h0 := hr 0 (by simp)
        have h1 := hr 1 (by simp)
        simp only [List.length_cons, List.length_nil] at hs
        have e0 : cs.getD 0 undef = .int .i64 c := by
          generalize cs.getD 0 undef = z at h0
          cases h0 with
          | lit => rfl
        have e1 : cs.getD 1 undef = .int .i64 a' := by
          generalize cs.getD 1 undef = z at h1
          cases h1 with
          | lit => rfl
        congr 1
        apply Array.ext
        · simpa using hs
        · intro i hi1 hi2
          have hi : i < 2 := by omega
          match i, hi with
          | 0, _ => simpa [Array.getD_eq_getD_getElem?, hi1] using e0
          | 1, _ => simpa [Array.getD_eq_getD_getElem?, hi1] using e1
  · cases h
theorem evPanic_sound (hT : TOK P TT) {i j : Nat} {o2 : Oper} (hi : ops[i]? = some o) (hj : ops[j]? = some o2) (h : evPanic TT T s o o2 KP = some q) {a : Act} {w : World} (r : Rel F s.st a w) : wpOps P ops (QP T F s K KP q) [i, j] a w := by
  unfold evPanic at h
  split at h
  · rename_i T' x d d' ho hd hg ho2 hg2
    first
    | skip
      have hb := (bif_some h).1; replace h := (bif_some h).2
      simp only [Bool.and_eq_true] at hb
      obtain ⟨⟨b1, b2⟩, b3⟩ := hb
      have b1 := Nat.eq_of_beq_eq_true b1; have b2 := Nat.eq_of_beq_eq_true b2
      subst b1; subst b2
      split at h
      · rename_i t p ht hp
        have hag := (bif_some h).1; replace h := (bif_some h).2
        obtain ⟨z, hz, _⟩ := tyT_spec hT ht
        obtain ⟨dsc, hu, hda⟩ := hz.un
        rw [hag] at hda
        obtain ⟨H, r⟩ := r
        have hv := payl_spec hp r
        have hmk : (Instr.makeInterface T' (.agg #[.int .i64 p.1, .int .i64 p.2])).run P w = .ok (.iface T' (.agg #[.int .i64 p.1, .int .i64 p.2])) w := by
          unfold Instr.makeInterface
          rw [Sem.run_bind, run_underlying hu]
          cases dsc <;> first | rfl | cases hda
        rw [wpOps_cons]
        refine wpOp_plain hi hg ?_
        unfold Oper.wp
        have e1 : (execOp a.eval o).run P w = .ok (.value (.iface T' (.agg #[.int .i64 p.1, .int .i64 p.2]))) w := by
          simp [execOp, ho, hv, hmk]
        rw [e1]
        show wpOps P ops (QP T' F s K KP q) [j] (a.put o.dst _) w
        rw [wpOps_cons]
        refine wpOp_plain hj hg2 ?_
        have hlt : d < s.n := by simpa using b3
        have hr' := (RelH.set r (d := d) (x := .any) (v := .iface T' (.agg #[.int .i64 p.1, .int .i64 p.2])) (show d < s.st.n from hlt) (.any _))
        have hev : (a.put o.dst (.iface T' (.agg #[.int .i64 p.1, .int .i64 p.2]))).eval (.tmp d) = .iface T' (.agg #[.int .i64 p.1, .int .i64 p.2]) := by
          rw [hd]
          show (a.put (some d) _).tmps.getD d undef = _
          rw [getD_put (by rw [r.size]; exact hlt), if_pos rfl]
        unfold Oper.wp
        have e2 : (execOp (a.put o.dst (.iface T' (.agg #[.int .i64 p.1, .int .i64 p.2]))).eval o2).run P w = .halt (.panic (.iface T' (.agg #[.int .i64 p.1, .int .i64 p.2]))) w := by
          have hpn : (Instr.panic (.iface T' (.agg #[.int .i64 p.1, .int .i64 p.2]))).run P w = .halt (.panic (.iface T' (.agg #[.int .i64 p.1, .int .i64 p.2]))) w := rfl
          simp [execOp, ho2, hev, hpn]
        rw [e2]
        refine .inr ⟨p, s.set d .any, rfl, Sfx.set _ _ _, h, H, ?_⟩
        rw [hd]
        exact hr'
      · cases h
  · cases h
theorem evOpsP_sound (hT : TOK P TT) (hG : GOK P Γ) (hGp : GPOK P T Γp) (hbo : Both bo) : ∀ (l : List (Nat × Nat)) (s : ESt), evOpsP TT Γ Γp T bo ops K KP l s = some q → ∀ (a : Act) (w : World), Rel F s.st a w → wpOps P ops (QP T F s K KP q) (l.map (·.2)) a w
  | [], s, h, a, w, r => .inl ⟨rfl, s, Sfx.refl s, h, r⟩
  | (c, i) :: r, s, h, a, w, rl => by
    simp only [evOpsP] at h
    split at h
    · cases h
    · rename_i o ho
      have call : ∀ s0, Sfx s s0 → Rel F s0.st a w → evCallP Γp s0 o (fun s' => evOpsP TT Γ Γp T bo ops K KP r s') KP = some q → wpOps P ops (QP T F s K KP q) (((c, i) :: r).map (·.2)) a w := by
        intro s0 hs0 r0 h0
        obtain ⟨hg, hw⟩ := evCallP_sound (F := F) hGp h0
        rw [List.map_cons, wpOps_cons]
        refine wpOp_plain ho hg (Oper.wp_mono2 (fun a' w' ⟨_, s', g2, g3, g4⟩ => ?_) (fun e a' w' ⟨p, s', g1, g2, g3, g4⟩ => ?_) (hw a w r0))
        · exact wpOps_monoQ (fun _ _ _ => QP.wide (hs0.trans g2)) _ _ _ (evOpsP_sound hT hG hGp hbo r s' g3 a' w' g4)
        · exact .inr ⟨p, s', g1, hs0.trans g2, g3, g4⟩
      cases b5 : Nat.beq c 5 with
      | true => rw [b5, cond_true] at h; exact call s (Sfx.refl s) rl h
      | false =>
      rw [b5, cond_false] at h
      cases b8 : Nat.beq c 8 with
      | true =>
        rw [b8, cond_true] at h
        obtain ⟨h1, h2⟩ := prepP_wk TT s o
        exact call _ h2 (h1.rel F a w rl) h
      | false =>
      rw [b8, cond_false] at h
      cases b6 : Nat.beq c 6 with
      | true =>
        rw [b6, cond_true] at h
        split at h
        · rename_i j
          split at h
          · rename_i o2 ho2
            exact evPanic_sound hT ho ho2 h rl
          · cases h
        · cases h
      | false =>
      rw [b6, cond_false] at h
      have hs := wpOp_of_C2 (Q := QP T F s K KP q) ho (AO.single (evOps_sound (F := F) hT hG hbo h) rl (K := fun a' w' => ∃ s', Sfx s s' ∧ evOpsP TT Γ Γp T bo ops K KP r s' = some q ∧ Rel F s'.st a' w') (fun σ' a' w' ⟨s', h1, h2, h3⟩ r' => by
        subst h1; exact ⟨s', h2, h3, r'⟩) (QP T F s K KP q))
      rw [List.map_cons, wpOps_cons]
      refine wpOp_mono (fun a' w' ⟨_, _, s', g2, g3, g4⟩ => ?_) hs
      exact wpOps_monoQ (fun _ _ _ => QP.wide g2) _ _ _ (evOpsP_sound hT hG hGp hbo r s' g3 a' w' g4)
end
end
end Go.Ab
