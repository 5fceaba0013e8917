/- Calls, computed: the step. -/
import Derived.Test.YtlbiilfoecehdaaEv19n12
set_option linter.unusedVariables false
set_option linter.unusedSimpArgs false
set_option linter.unusedSectionVars false
namespace Go.Ab
noncomputable section
open Enc (enc)
variable {R : Type}

theorem look_nodup {β : Type} : ∀ {l : List (Nat × β)} {p : Nat × β}, nodupB (l.map (·.1)) = true → p ∈ l → look l p.1 = some p.2
  | (k, v) :: r, p, h, hp => by
    have hn := nodupB_spec h
    rw [List.map_cons, List.nodup_cons] at hn
    rw [look_cons]
    rcases List.mem_cons.1 hp with rfl | hp
    · rw [if_pos rfl]
    · have : k ≠ p.1 := fun e => hn.1 (List.mem_map.2 ⟨p, hp, e.symm⟩)
      rw [if_neg this]
      simp only [List.map_cons, nodupB, Bool.and_eq_true] at h
      exact look_nodup h.2 hp

def finV (tys : List Ty) (vs : Vs) : Option (Tup tys) := bif nodupB (vs.map (·.1)) && vs.all (fun p => Nat.blt p.1 tys.length) then Tup.mk? tys (look vs) 0 else none
theorem finV_spec {tys : List Ty} {vs : Vs} {X : Tup tys} (h : finV tys vs = some X) : ∀ p ∈ vs, Tup.get tys X p.1 = p.2 := by
  unfold finV at h
  have hb := (bif_some h).1; replace h := (bif_some h).2
  simp only [Bool.and_eq_true] at hb
  intro p hp
  have h1 := look_nodup hb.1 hp
  have h2 : p.1 < tys.length := by simpa using List.all_eq_true.1 hb.2 p hp
  have h3 := mk?_spec h p.1 h2
  rw [Nat.zero_add, h1] at h3
  exact (Option.some.inj h3).symm

mutual
def svIds (ks : List Nat) : SV → Bool
  | .own i => ks.contains i
  | .ptr i _ => ks.contains i
  | .fn _ c => svIdsL ks c
  | _ => true
def svIdsL (ks : List Nat) : List SV → Bool
  | [] => true
  | x :: r => svIds ks x && svIdsL ks r
end
def seIds (tys : List Ty) (ks : List Nat) : SE → Bool
  | .arr _ j => match tys[j]? with
    | some (.list _) => true
    | _ => false
  | .box _ c => svIdsL ks c

/-- The caller's names of what comes back. -/
def rho (nxt : Nat) (ids : Ids) (i : Nat) : Nat := bif Nat.ble LIM i then (match look ids i with
  | some o => o
  | none => 0) else nxt + i
def topId (l : List Nat) : Nat := (l.filter fun i => Nat.blt i LIM).foldl (fun a i => max a (i + 1)) 0

def backMp (out : Shape) (ρ : Nat → Nat) : List (Nat × Option Nat) := out.ents.map fun p => (ρ p.1, some p.1)

def outOK (out : Shape) (nxt : Nat) (ids : Ids) : Bool :=
  let ks := out.ents.map (·.1)
  let mp := backMp out (rho nxt ids)
  backOK ids nxt (nxt + topId ks) mp && nodupB (mp.map (·.1)) && nodupB ks && out.slots.all (fun p => svIds ks p.2) && out.ents.all (fun p => seIds out.tys ks p.2)

def inOK (c : CE) (ids : Ids) (ln : List Nat) : Bool :=
  cmOK ids && ids.all (fun p => !(ln.contains p.2)) && ids.all (fun p => (c.sig.ents.map (·.1)).contains p.1) && nodupB (c.sig.ents.map (·.1)) &&
    (ln.isEmpty || (c.out.slots.all (fun p => svFlat c.out.tys p.2) && c.out.ents.all (fun p => seFlat c.out.tys p.2)))

/-- The state behind the call. -/
def behind' (s : ESt) (c : CE) (ids : Ids) (d : Nat) (Y : Tup c.out.tys) : ESt :=
  ⟨s.n, (d, retE (c.out.slots.map fun p => p.2.ev (Tup.get c.out.tys Y) (rho s.nxt ids))) :: s.slots,
    heapOf (Tup.get c.out.tys Y) (rho s.nxt ids) c.out.ents ++ (ids.map fun p => (p.2, none)) ++ s.heap, s.nxt + topId (c.out.ents.map (·.1))⟩

def evCallAt (s : ESt) (c : CE) (vals : List EV) (d : Nat) (K : ESt → Option R) : Option (Option R) :=
  match hndL s c.sig.tys (c.sig.slots.map (·.2)) vals ([], [], []) with
  | none => none
  | some (vs, ids, ln) => match mchE s c.sig.ents (vs, ids) with
    | none => none
    | some (vs, ids) => match finV c.sig.tys vs with
      | none => none
      | some X => bif inOK c ids ln && outOK c.out s.nxt ids then some ((c.den X).bind fun Y => K (behind' s c ids d Y)) else none

theorem heapOf_get {g : Nat → EV} {ρ : Nat → Nat} : ∀ {l : List (Nat × SE)} {p : Nat × SE}, nodupB (l.map fun p => ρ p.1) = true → p ∈ l → look (heapOf g ρ l) (ρ p.1) = some (p.2.ee g ρ)
  | l, p, h, hp => by
    have : look (heapOf g ρ l) ((ρ p.1, p.2.ee g ρ) : Nat × Option EEnt).1 = some ((ρ p.1, p.2.ee g ρ) : Nat × Option EEnt).2 := look_nodup (by
      have : (heapOf g ρ l).map (·.1) = l.map fun p => ρ p.1 := by unfold heapOf; rw [List.map_map]; rfl
      rw [this]; exact h) (List.mem_map.2 ⟨p, hp, rfl⟩)
    exact this

theorem seIds_some {tys : List Ty} {ks : List Nat} {se : SE} (X : Tup tys) (ρ : Nat → Nat) (h : seIds tys ks se = true) : ∃ e, se.ee (Tup.get tys X) ρ = some e := by
  cases se with
  | arr E j =>
    simp only [seIds] at h
    split at h
    · rename_i t ht
      obtain ⟨x, hx⟩ := tup_get_ty X ht
      exact ⟨.arr E t x, by rw [SE.ee, hx]⟩
    · cases h
  | box T c => exact ⟨_, rfl⟩

mutual
theorem svIds_ren {ks : List Nat} {mp : List (Nat × Option Nat)} {ρ : Nat → Nat} (hm : ∀ i ∈ ks, look mp (ρ i) = some (some i)) {ts : List Ty} (X : Tup ts) : ∀ {sv : SV}, svIds ks sv = true → ren false mp (sv.ev (Tup.get ts X) ρ).av = some (sv.ev (Tup.get ts X) id).av
  | .v j, _ => by
    rw [SV.ev, SV.ev]
    have : ∀ (ts : List Ty) (X : Tup ts) (j : Nat), (∃ t x, Tup.get ts X j = .d t x) ∨ Tup.get ts X j = .any := by
      intro ts X j
      cases h : ts[j]? with
      | some t => obtain ⟨x, hx⟩ := tup_get_ty X h; exact .inl ⟨t, x, hx⟩
      | none =>
        right
        clear hm
        induction ts generalizing j with
        | nil => rfl
        | cons u r ih =>
          cases r with
          | nil => cases j with
            | zero => simp at h
            | succ j => rfl
          | cons v r => cases j with
            | zero => simp at h
            | succ j => exact ih X.2 j (by simpa using h)
    rcases this ts X j with ⟨t, x, hx⟩ | hx <;> rw [hx] <;> rfl
  | .own i, h => by
    simp only [svIds] at h
    exact ren_own (hm i (by simpa using h))
  | .ptr i k, h => by
    simp only [svIds] at h
    exact ren_ptr (hm i (by simpa using h))
  | .addr j, _ => by
    rw [SV.ev, SV.ev]
    cases Tup.get ts X j <;> rfl
  | .fn f c, h => by
    simp only [svIds] at h
    rw [SV.ev, SV.ev]
    exact ren_fnL (svIdsL_ren hm X h)
  | .nil, _ => rfl
  | .any, _ => rfl
theorem svIdsL_ren {ks : List Nat} {mp : List (Nat × Option Nat)} {ρ : Nat → Nat} (hm : ∀ i ∈ ks, look mp (ρ i) = some (some i)) {ts : List Ty} (X : Tup ts) : ∀ {l : List SV}, svIdsL ks l = true → renL false mp (EV.avL (SV.evL (Tup.get ts X) ρ l)) = some (EV.avL (SV.evL (Tup.get ts X) id l))
  | [], _ => rfl
  | x :: r, h => by
    simp only [svIdsL, Bool.and_eq_true] at h
    rw [SV.evL, SV.evL, EV.avL, EV.avL, renL, svIds_ren hm X h.1, svIdsL_ren hm X h.2]
end

theorem renL_vals {ks : List Nat} {mp : List (Nat × Option Nat)} {ρ : Nat → Nat} (hm : ∀ i ∈ ks, look mp (ρ i) = some (some i)) {ts : List Ty} (X : Tup ts) : ∀ {l : List (Nat × SV)}, l.all (fun p => svIds ks p.2) = true →
    renL false mp (EV.avL (l.map fun p => p.2.ev (Tup.get ts X) ρ)) = some (EV.avL (l.map fun p => p.2.ev (Tup.get ts X) id))
  | [], _ => rfl
  | p :: l, h => by
    simp only [List.all_cons, Bool.and_eq_true] at h
    rw [List.map_cons, List.map_cons, EV.avL, EV.avL, renL, svIds_ren hm X h.1, renL_vals hm X h.2]

theorem ren_ret {mp : List (Nat × Option Nat)} {l m : List EV} (h : renL false mp (EV.avL l) = some (EV.avL m)) : ren false mp (retE l).av = some (retE m).av := by
  have hl := (renL_spec h).1
  rw [avL_len, avL_len] at hl
  match l, m, hl with
  | [], [], _ => rfl
  | [x], [y], _ =>
    show ren false mp x.av = some y.av
    cases hx : ren false mp x.av with
    | none => simp [EV.avL, renL, hx] at h
    | some z => simp [EV.avL, renL, hx] at h; rw [h]
  | x :: y :: r, x' :: y' :: r', _ =>
    show ren false mp (.tup (EV.avL (x :: y :: r))) = some (.tup (EV.avL (x' :: y' :: r')))
    simp only [ren, h]

section
variable {P : Program} {F : Fr} {s : ESt} {o : Oper} {K : ESt → Option R} {q : R}

theorem handHeap_of {cm : Ids} {g : Nat → EV} {tys : List Ty} : ∀ {l : List (Nat × SE)}, (∀ p ∈ l, ∃ o e e', look cm p.1 = some o ∧ s.ent o = some e ∧ p.2.ee g id = some e' ∧ renE false (toMp cm) e'.ent = some e.ent) →
    handHeap cm s.st (hpSt (heapOf g id l))
  | [], _ => trivial
  | p :: l, h => by
    obtain ⟨o, e, e', h1, h2, h3, h4⟩ := h p (by simp)
    show handHeap cm s.st ((id p.1, (p.2.ee g id).map EEnt.ent) :: hpSt (heapOf g id l))
    rw [h3]
    exact ⟨⟨o, e.ent, h1, ent_st h2, h4⟩, handHeap_of (tys := tys) fun q hq => h q (by simp [hq])⟩

theorem backHeap_of {mp : List (Nat × Option Nat)} {h' : Hp} {g : Nat → EV} {ρ : Nat → Nat} : ∀ {l : List (Nat × SE)}, (∀ p ∈ l, ∃ e e', p.2.ee g ρ = some e ∧ look mp (ρ p.1) = some (some p.1) ∧ entOf h' p.1 = some e' ∧ renE false mp e.ent = some e') →
    backHeap mp h' (hpSt (heapOf g ρ l))
  | [], _ => trivial
  | p :: l, h => by
    obtain ⟨e, e', h1, h2, h3, h4⟩ := h p (by simp)
    show backHeap mp h' ((ρ p.1, (p.2.ee g ρ).map EEnt.ent) :: hpSt (heapOf g ρ l))
    rw [h1]
    exact ⟨⟨p.1, e', h2, h3, h4⟩, backHeap_of fun q hq => h q (by simp [hq])⟩

theorem handL_of {cm : Ids} {L : List Nat} : ∀ {ops : List Operand} {vals : List EV} {xs : List AV}, evAll s ops = some vals → HandC s.st cm L (EV.avL vals) xs → HandL s.st cm L ops xs
  | [], vals, xs, h, hc => by cases h; exact hc
  | x :: ops, vals, xs, h, hc => by
    simp only [evAll] at h
    split at h
    · rename_i v h1
      split at h
      · rename_i m h2
        cases h
        cases xs with
        | nil => exact hc.elim
        | cons y ys => exact ⟨⟨_, ev_st h1, hc.1⟩, handL_of h2 hc.2⟩
      · cases h
    · cases h

theorem handC_split {cm : Ids} {L : List Nat} : ∀ {as bs : List AV} {xs : List AV}, HandC s.st cm L (as ++ bs) xs → ∃ ys zs, xs = ys ++ zs ∧ HandC s.st cm L as ys ∧ HandC s.st cm L bs zs
  | [], bs, xs, h => ⟨[], xs, rfl, rfl, h⟩
  | a :: as, bs, xs, h => by
    cases xs with
    | nil => exact h.elim
    | cons x xs =>
      obtain ⟨ys, zs, rfl, h1, h2⟩ := handC_split h.2
      exact ⟨x :: ys, zs, rfl, ⟨h.1, h1⟩, h2⟩

theorem evL_vals (g : Nat → EV) (ρ : Nat → Nat) : ∀ (l : List (Nat × SV)), SV.evL g ρ (l.map (·.2)) = l.map fun p => p.2.ev g ρ
  | [] => rfl
  | p :: l => by rw [List.map_cons, SV.evL, evL_vals g ρ l]; rfl

/-- **The step.** -/
theorem evCallAt_sound {c : CE} (hc : c.ok P) {f : Operand} {args : Array Operand} {ts : Array TypeId} {d : Nat} {vals caps : List EV} (hd : o.dst = some d) (hlt : Nat.blt d s.n = true)
    (ho : o.op = .call { callee := .value f, args := args, argTypes := ts }) (hf : s.ev f = some (.fn c.f caps)) (hargs : evAll s args.toList = some vals)
    (h : evCallAt s c (vals ++ caps) d K = some (some q)) :
    ∀ (a : Act) (w : World), Rel F s.st a w → o.wp P a w (fun a' w' => ((∃ u, a' = a.put o.dst u) ∧ (c.sig.ents = [] → Ext w w')) ∧ ∃ σ', (∃ s', σ' = s'.st ∧ Sfx s s' ∧ K s' = some q) ∧ Rel F σ' a' w') (fun _ _ _ => False) := by
  unfold evCallAt at h
  split at h
  · cases h
  · rename_i vs0 ids0 ln h1
    split at h
    · cases h
    · rename_i vs ids h2
      split at h
      · cases h
      · rename_i X h3
        have hb := (bif_some h).1; replace h := (bif_some h).2
        simp only [Option.some.injEq] at h
        obtain ⟨Y, hY, hK⟩ := Option.bind_eq_some_iff.1 h
        simp only [Bool.and_eq_true] at hb
        obtain ⟨hin, hout⟩ := hb
        simp only [inOK, Bool.and_eq_true] at hin
        obtain ⟨⟨⟨⟨hcm, hdis⟩, hkeys⟩, hnd⟩, hflat⟩ := hin
        simp only [outOK, Bool.and_eq_true] at hout
        obtain ⟨⟨⟨⟨hback, hmpk⟩, hkn⟩, hsl⟩, hen⟩ := hout
        have hvs := finV_spec h3
        have hmono := mchE_mono h2
        obtain ⟨_, hnd1⟩ := hndL_spec h1
        have hagr : AgrA (vs0, ids0, ln) (Tup.get c.sig.tys X) ids ln := ⟨fun p hp => hvs p (hmono.vs p hp), fun i o ho => hmono.ids i o ho, fun _ h => h⟩
        have hC := hnd1 _ ids ln hagr
        rw [evL_vals, avL_append] at hC
        obtain ⟨ys, zs, hyz, hC1, hC2⟩ := handC_split hC
        have hE := mchE_spec h2 (Tup.get c.sig.tys X) false (toMp ids) ⟨hvs, fun i o ho => .inl (look_toMp' ho)⟩
        have hcm' := hcm
        simp only [cmOK, Bool.and_eq_true] at hcm'
        have hF := hc.fc X Y hY
        have hmp : ∀ i ∈ c.out.ents.map (·.1), look (backMp c.out (rho s.nxt ids)) (rho s.nxt ids i) = some (some i) := by
          intro i hi
          obtain ⟨p, hp, rfl⟩ := List.mem_map.1 hi
          exact look_nodup (p := (rho s.nxt ids p.1, some p.1)) hmpk (List.mem_map.2 ⟨p, hp, rfl⟩)
        have hkn' : nodupB (c.out.ents.map fun p => id p.1) = true := hkn
        refine fun a w rl => Oper.wp_mono2 (fun a' w' hh => ?_) (fun _ _ _ h => h) (call_l (post := fun σ' => ∃ s', σ' = s'.st ∧ Sfx s s' ∧ K s' = some q) ids ln hd hlt ho (ev_st hf) hc.call (fun i o hi => ?_) hcm (handL_of hargs hC1) hC2 (h := hpSt (c.sig.heap X)) (handHeap_of (tys := c.sig.tys) hE) (fun p hp => ?_) (R := fun r h => r = (retE (c.out.vals Y)).av ∧ h = hpSt (c.out.heap Y)) (by rw [← hyz]; exact hF) ?_ a w rl)
        · refine ⟨⟨hh.1.1, fun he => hh.1.2 ?_⟩, hh.2⟩
          unfold Shape.heap; rw [he]; rfl
        · have := List.all_eq_true.1 hdis (i, o) (look_mem hi)
          simpa using this
        · have hk := List.all_eq_true.1 hkeys p hp
          have hk : p.1 ∈ c.sig.ents.map (·.1) := by simpa using hk
          obtain ⟨q, hq, hqe⟩ := List.mem_map.1 hk
          obtain ⟨o', e, e', g1, g2, g3, _⟩ := hE q hq
          have hlp := look_nodup (p := p) hcm'.1.2 hp
          rw [← hqe] at hlp
          simp only at g1
          rw [g1] at hlp
          cases hlp
          refine ⟨e.ent, ent_st g2, e'.ent, ?_⟩
          have h5 : look (heapOf (Tup.get c.sig.tys X) id c.sig.ents) (id q.1) = some (q.2.ee (Tup.get c.sig.tys X) id) := heapOf_get (ρ := id) hnd hq
          unfold entOf hpSt Shape.heap
          rw [look_map, ← hqe]
          simp only [id] at h5
          rw [h5, g3]; rfl
        · rintro r' h' ⟨rfl, rfl⟩
          refine ⟨fun hln => ?_, backMp c.out (rho s.nxt ids), s.nxt + topId (c.out.ents.map (·.1)), (retE (c.out.slots.map fun p => p.2.ev (Tup.get c.out.tys Y) (rho s.nxt ids))).av, hpSt (heapOf (Tup.get c.out.tys Y) (rho s.nxt ids) c.out.ents), hback, backHeap_of fun p hp => ?_, ?_, ?_⟩
          · rcases Bool.or_eq_true_iff.1 hflat with h | h
            · exfalso; apply hln; simpa using h
            · simp only [Bool.and_eq_true] at h
              constructor
              · have : ∀ l : List (Nat × SV), l.all (fun p => svFlat c.out.tys p.2) = true → ∀ x ∈ EV.avL (l.map fun p => p.2.ev (Tup.get c.out.tys Y) id), AVNoS x := by
                  intro l
                  induction l with
                  | nil => intro _ x hx; cases hx
                  | cons p l ih =>
                    intro ha x hx
                    simp only [List.all_cons, Bool.and_eq_true] at ha
                    rcases List.mem_cons.1 hx with rfl | hx
                    · exact svFlat_spec Y ha.1
                    · exact ih ha.2 x hx
                have hall := this c.out.slots h.1
                rw [retE_av]
                unfold Shape.vals
                generalize EV.avL (c.out.slots.map fun p => p.2.ev (Tup.get c.out.tys Y) id) = L at hall
                match L with
                | [] => intro w S S' H v hv; cases hv with | tup _ cs hs h => exact .tup _ cs hs fun i hi => by simp at hi
                | [x] => exact hall x (by simp)
                | x :: y :: r =>
                  intro w S S' H v hv
                  cases hv with
                  | tup _ cs hs h =>
                    refine .tup _ cs hs fun i hi => ?_
                    have hm : (x :: y :: r).getD i default ∈ x :: y :: r := by
                      rw [List.getD_eq_getElem?_getD, List.getElem?_eq_getElem hi]; exact List.getElem_mem hi
                    exact hall _ hm _ _ _ _ _ (h i hi)
              · intro j e he
                unfold entOf hpSt Shape.heap at he
                rw [look_map] at he
                cases hl : look (heapOf (Tup.get c.out.tys Y) id c.out.ents) j with
                | none => rw [hl] at he; cases he
                | some q =>
                  rw [hl] at he
                  obtain ⟨p, hp, hpe⟩ := List.mem_map.1 (look_mem hl)
                  cases hpe
                  cases hee : p.2.ee (Tup.get c.out.tys Y) id with
                  | none => rw [hee] at he; cases he
                  | some e1 =>
                    rw [hee] at he; cases he
                    exact seFlat_spec Y (List.all_eq_true.1 h.2 p hp) hee
          · have hse := List.all_eq_true.1 hen p hp
            obtain ⟨e, he⟩ := seIds_some Y (rho s.nxt ids) hse
            obtain ⟨e', he'⟩ := seIds_some Y id hse
            refine ⟨e, e'.ent, he, hmp p.1 (List.mem_map.2 ⟨p, hp, rfl⟩), ?_, ?_⟩
            · unfold entOf hpSt Shape.heap
              have h5 : look (heapOf (Tup.get c.out.tys Y) id c.out.ents) (id p.1) = some (p.2.ee (Tup.get c.out.tys Y) id) := heapOf_get hkn' hp
              simp only [id] at h5
              rw [look_map, h5, he']; rfl
            · obtain ⟨pi, pse⟩ := p
              cases pse with
              | arr E j =>
                rw [SE.ee] at he he'
                split at he
                · rename_i t l hg; rw [hg] at he'; cases he; cases he'; rfl
                · cases he
              | box T c2 =>
                rw [SE.ee] at he he'
                cases he; cases he'
                simp only [seIds] at hse
                simp only [EEnt.ent, renE, svIdsL_ren hmp Y hse]
          · exact ren_ret (renL_vals hmp Y hsl)
          · refine ⟨behind' s c ids d Y, ?_, ⟨⟨[_], rfl⟩, ⟨_, rfl⟩, Nat.le_add_right _ _, rfl⟩, hK⟩
            unfold behind' ESt.st St.back St.set
            simp only [List.map_cons, List.map_append, List.map_map]
            rfl
end
end
end Go.Ab
