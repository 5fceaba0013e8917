/- Where ways meet: what was captured is what the shape says. -/
import Derived.Test.YtlbiilfoecehdaaEv19n16
set_option linter.unusedVariables false
set_option linter.unusedSimpArgs false
set_option linter.unusedSectionVars false
namespace Go.Ab
noncomputable section
open Enc (enc)

theorem mchS_spec {s : ESt} : ∀ {l : List (Nat × SV)} {acc acc' : Vs × Ids} {nl nl' : List Nat}, mchS s l acc nl = some (acc', nl') →
    Mono acc acc' ∧ (∀ i ∈ nl, i ∈ nl') ∧ ∀ g mp, Agr acc' g true mp → (∀ i ∈ nl', look mp i = some none) → ∀ p ∈ l, ∃ x, s.get p.1 = some x ∧ ren true mp (p.2.ev g id).av = some x.av
  | [], acc, acc', nl, nl', h => by
    simp only [mchS, Option.some.injEq, Prod.mk.injEq] at h
    obtain ⟨rfl, rfl⟩ := h
    exact ⟨Mono.refl _, fun _ h => h, fun _ _ _ _ p hp => by cases hp⟩
  | (k, sv) :: r, acc, acc', nl, nl', h => by
    simp only [mchS] at h
    split at h
    · cases h
    · rename_i x hx
      split at h
      · rename_i i
        obtain ⟨h1, h2, h3⟩ := mchS_spec h
        refine ⟨h1, fun i hi => h2 i (List.mem_cons_of_mem _ hi), fun g mp ha hn p hp => ?_⟩
        rcases List.mem_cons.1 hp with rfl | hp
        · refine ⟨.nil, hx, ?_⟩
          have := hn i (h2 i (by simp))
          simp only [SV.ev, id, EV.av, ren, this]
        · exact h3 g mp ha hn p hp
      · split at h
        · rename_i acc1 h0
          obtain ⟨g1, g2⟩ := mch_spec h0
          obtain ⟨h1, h2, h3⟩ := mchS_spec h
          refine ⟨g1.trans h1, h2, fun g mp ha hn p hp => ?_⟩
          rcases List.mem_cons.1 hp with rfl | hp
          · exact ⟨x, hx, g2 g mp true (ha.mono h1)⟩
          · exact h3 g mp ha hn p hp
        · cases h

theorem mchN_spec {tys : List Ty} {nl : List Nat} : ∀ {l l' : List (Nat × SE)} {vs vs' : Vs}, mchN tys nl l vs = some (l', vs') →
    (∀ p ∈ vs, p ∈ vs') ∧ ∀ p ∈ l, p ∈ l' ∨ (p.1 ∈ nl ∧ ∃ (E j : Nat) (t : Ty), p.2 = .arr E j ∧ 0 < t.sz ∧ ((j, .d (.list t) ([] : List t.den)) : Nat × EV) ∈ vs')
  | [], l', vs, vs', h => by
    simp only [mchN, Option.some.injEq, Prod.mk.injEq] at h
    obtain ⟨rfl, rfl⟩ := h
    exact ⟨fun _ h => h, fun p hp => by cases hp⟩
  | (i, .arr E j) :: r, l', vs, vs', h => by
    simp only [mchN] at h
    cases hc : nl.contains i with
    | true =>
      rw [hc] at h
      simp only [cond_true] at h
      split at h
      · rename_i t ht
        have hb := (bif_some h).1; replace h := (bif_some h).2
        obtain ⟨h1, h2⟩ := mchN_spec h
        refine ⟨fun p hp => h1 p (List.mem_cons_of_mem _ hp), fun p hp => ?_⟩
        rcases List.mem_cons.1 hp with rfl | hp
        · exact .inr ⟨by simpa using hc, E, j, t, rfl, by simpa using hb, h1 _ (by simp)⟩
        · exact h2 p hp
      · cases h
    | false =>
      rw [hc] at h
      simp only [cond_false] at h
      split at h
      · rename_i l1 vs1 h0
        cases h
        obtain ⟨h1, h2⟩ := mchN_spec h0
        refine ⟨h1, fun p hp => ?_⟩
        rcases List.mem_cons.1 hp with rfl | hp
        · exact .inl (by simp)
        · exact (h2 p hp).imp (fun h => List.mem_cons_of_mem _ h) id
      · cases h
  | (i, .box T c) :: r, l', vs, vs', h => by
    simp only [mchN] at h
    split at h
    · rename_i l1 vs1 h0
      cases h
      obtain ⟨h1, h2⟩ := mchN_spec h0
      refine ⟨h1, fun p hp => ?_⟩
      rcases List.mem_cons.1 hp with rfl | hp
      · exact .inl (by simp)
      · exact (h2 p hp).imp (fun h => List.mem_cons_of_mem _ h) id
    · cases h

theorem look_filter : ∀ {ids : Ids} {i : Nat}, i < LIM → look ((ids.filter fun p => Nat.blt p.1 LIM).map (fun p => (p.1, some p.2))) i = (look ids i).map some
  | [], _, _ => rfl
  | (k, o) :: r, i, hi => by
    rw [look_cons]
    by_cases hk : k = i
    · subst hk
      have : Nat.blt k LIM = true := by simpa using hi
      rw [List.filter_cons_of_pos (by simpa using this), List.map_cons, look_cons, if_pos rfl, if_pos rfl]; rfl
    · rw [if_neg hk]
      by_cases hb : Nat.blt k LIM = true
      · rw [List.filter_cons_of_pos (by simpa using hb), List.map_cons, look_cons, if_neg hk]; exact look_filter hi
      · rw [List.filter_cons_of_neg (by simpa using hb)]; exact look_filter hi

theorem look_nl : ∀ {nl : List Nat} {i : Nat}, i ∈ nl → look (nl.map (fun i => (i, (none : Option Nat)))) i = some none
  | k :: r, i, h => by
    rw [List.map_cons, look_cons]
    by_cases hk : k = i
    · rw [if_pos hk]
    · rw [if_neg hk]
      rcases List.mem_cons.1 h with e | h
      · exact absurd e.symm hk
      · exact look_nl h

theorem look_none_of {β : Type} {l : List (Nat × β)} {k : Nat} (h : ∀ p ∈ l, p.1 ≠ k) : look l k = none := by
  cases hl : look l k with
  | none => rfl
  | some v => exact absurd rfl (h _ (look_mem hl))

theorem look_map_key {β γ : Type} {l : List γ} {f : γ → Nat × β} {k : Nat} {v : β} (h : look (l.map f) k = some v) : ∃ p ∈ l, f p = (k, v) := by
  obtain ⟨p, hp, he⟩ := List.mem_map.1 (look_mem h)
  exact ⟨p, hp, he⟩

theorem take_delta {β : Type} {l l0 : List β} (h : ∃ d, l = d ++ l0) : ∃ d, l = d ++ l0 ∧ l.take (l.length - l0.length) = d := by
  obtain ⟨d, rfl⟩ := h
  exact ⟨d, rfl, by rw [List.length_append, Nat.add_sub_cancel, List.take_left]⟩

theorem capt_sound {s0 s : ESt} {j : Join} {X : Tup j.sh.tys} (h : capt s0 j s = some X) (hsf : Sfx s0 s) :
    Sfx s0 (tgt s0 j X) ∧ ∀ (F : Fr) (a : Act) (w : World), Rel F s.st a w → Rel F (tgt s0 j X).st a w := by
  unfold capt at h
  obtain ⟨hwp, hsp⟩ := prep_wk j.prep s
  obtain ⟨hw1, hs1⟩ := datSlots_wk j.sh.tys j.sh.slots (s.prep j.prep)
  replace hw1 := hwp.trans hw1
  replace hs1 := hsp.trans hs1
  generalize hs1e : datSlots j.sh.tys (s.prep j.prep) j.sh.slots = s1 at h hw1 hs1
  split at h
  · cases h
  · rename_i acc nl h1
    split at h
    · cases h
    · rename_i ents vs0 h2
      split at h
      · cases h
      · rename_i vs ids h3
        split at h
        · cases h
        · rename_i X' h4
          have hb := (bif_some h).1; replace h := (bif_some h).2
          cases h
          simp only [Bool.and_eq_true] at hb
          obtain ⟨⟨⟨⟨⟨⟨⟨⟨hok, hnx⟩, hes⟩, hids⟩, hnl⟩, hds⟩, hdh⟩, hcs⟩, hch⟩ := hb
          generalize hmp : mpOf ids nl j.keep = mp at hok hcs hch
          have hvs := finV_spec h4
          have hsfx := hsf.trans hs1
          obtain ⟨m1, m2, m3⟩ := mchS_spec h1
          obtain ⟨n1, n2⟩ := mchN_spec h2
          have e1 := mchE_mono h3
          -- the names
          have hmpl : ∀ i, LIM ≤ i → look mp i = none := by
            intro i hi
            cases hl : look mp i with
            | none => rfl
            | some q => have := (mp_key hok hl).2; omega
          have hidr : ∀ i o, look ids i = some o → RenId true mp i o := by
            intro i o ho
            by_cases hi : i < LIM
            · left
              rw [← hmp]
              unfold mpOf
              rw [look_append, look_filter hi, ho]; rfl
            · right
              have := List.all_eq_true.1 hids (i, o) (look_mem ho)
              simp only [Bool.or_eq_true] at this
              rcases this with h | h
              · exact absurd (by simpa using h) hi
              · exact ⟨rfl, by omega, (Nat.eq_of_beq_eq_true h).symm, hmpl i (by omega)⟩
          have hnlr : ∀ i ∈ nl, look mp i = some none := by
            intro i hi
            have := List.all_eq_true.1 hnl i hi
            split at this
            · rename_i hln
              have hlt : i < LIM := by simpa using this
              rw [← hmp]
              unfold mpOf
              rw [look_append, look_filter hlt, hln, look_append, look_nl hi]; rfl
            · cases this
          have hagrE : Agr (vs, ids) (Tup.get j.sh.tys X) true mp := ⟨hvs, hidr⟩
          have hagrS : Agr acc (Tup.get j.sh.tys X) true mp := ⟨fun p hp => hvs p (e1.vs p (n1 p hp)), fun i o ho => hidr i o (e1.ids i o ho)⟩
          have hS := m3 _ mp hagrS hnlr
          have hE := mchE_spec h3 _ true mp hagrE
          -- the longer state
          obtain ⟨d1, hd1, hd1t⟩ := take_delta hsfx.slots
          obtain ⟨d2, hd2, hd2t⟩ := take_delta hsfx.heap
          rw [hd1t] at hds
          rw [hd2t] at hdh
          refine ⟨⟨⟨_, (List.append_assoc _ _ _).symm⟩, ⟨_, (List.append_assoc _ _ _).symm⟩, (by show s0.nxt ≤ j.nxt; simpa using hnx), rfl⟩, fun F a w r => ?_⟩
          obtain ⟨H, r⟩ := hw1.rel F a w r
          refine ⟨_, SubF.relH (mp := mp) ⟨?_, hok, fun k x' hx => ?_, fun i e' hi => ?_⟩ r⟩
          · show s0.n = s1.n
            rw [hsfx.n]
          · rw [st_get] at hx
            obtain ⟨ex, hex, rfl⟩ := Option.map_eq_some_iff.1 hx
            have hl : look ((j.sh.slots.map fun p => (p.1, p.2.ev (Tup.get j.sh.tys X) id)) ++ ((j.drop.map fun k => (k, EV.any)) ++ s0.slots)) k = some ex := hex
            rw [look_append] at hl
            cases hA : look (j.sh.slots.map fun p => (p.1, p.2.ev (Tup.get j.sh.tys X) id)) k with
            | some v =>
              rw [hA] at hl
              cases hl
              obtain ⟨p, hp, hpe⟩ := look_map_key hA
              cases hpe
              obtain ⟨x, hx1, hx2⟩ := hS p hp
              exact .inr ⟨x.av, get_st hx1, .inl hx2⟩
            | none =>
              rw [hA] at hl
              simp only [Option.none_or] at hl
              rw [look_append] at hl
              cases hB : look (j.drop.map fun k => (k, EV.any)) k with
              | some v =>
                rw [hB] at hl
                cases hl
                obtain ⟨p, hp, hpe⟩ := look_map_key hB
                cases hpe
                exact .inl rfl
              | none =>
                rw [hB] at hl
                simp only [Option.none_or] at hl
                have hk1 : k ∉ j.sh.slots.map (·.1) := by
                  intro hm
                  obtain ⟨p, hp, rfl⟩ := List.mem_map.1 hm
                  have : ∃ v, look (j.sh.slots.map fun p => (p.1, p.2.ev (Tup.get j.sh.tys X) id)) p.1 = some v := by
                    cases hq : look (j.sh.slots.map fun p => (p.1, p.2.ev (Tup.get j.sh.tys X) id)) p.1 with
                    | some v => exact ⟨v, rfl⟩
                    | none =>
                      exfalso
                      have key : ∀ (l : List (Nat × EV)) (q : Nat × EV), q ∈ l → look l q.1 ≠ none := by
                        intro l
                        induction l with
                        | nil => intro q hq; cases hq
                        | cons y l ih =>
                          intro q hq hn
                          obtain ⟨yk, yv⟩ := y
                          rw [look_cons] at hn
                          by_cases hy : yk = q.1
                          · rw [if_pos hy] at hn; cases hn
                          · rw [if_neg hy] at hn
                            rcases List.mem_cons.1 hq with rfl | hq
                            · exact hy rfl
                            · exact ih q hq hn
                      exact key _ (p.1, p.2.ev (Tup.get j.sh.tys X) id) (List.mem_map.2 ⟨p, hp, rfl⟩) hq
                  obtain ⟨v, hv⟩ := this
                  rw [hA] at hv; cases hv
                have hk2 : k ∉ j.drop := by
                  intro hm
                  have key : ∀ (l : List Nat), k ∈ l → look (l.map fun k => (k, EV.any)) k ≠ none := by
                    intro l
                    induction l with
                    | nil => intro h; cases h
                    | cons y l ih =>
                      intro h hn
                      rw [List.map_cons, look_cons] at hn
                      by_cases hy : y = k
                      · rw [if_pos hy] at hn; cases hn
                      · rw [if_neg hy] at hn
                        rcases List.mem_cons.1 h with e | h
                        · exact hy e.symm
                        · exact ih h hn
                  exact key _ hm hB
                have hs1k : s1.get k = some ex := by
                  unfold ESt.get
                  rw [hd1, look_append, look_none_of (fun p hp he => ?_)]
                  · exact hl
                  · have := List.all_eq_true.1 hds p hp
                    simp only [Bool.or_eq_true] at this
                    rw [he] at this
                    rcases this with h | h
                    · exact hk1 (by simpa using h)
                    · exact hk2 (by simpa using h)
                refine .inr ⟨ex.av, get_st hs1k, .inl (fix_ren (chkSlots_spec hcs hl ?_))⟩
                intro hm
                rcases List.mem_append.1 hm with h | h
                · exact hk1 h
                · exact hk2 h
          · rw [st_ent] at hi
            obtain ⟨ee, hee, rfl⟩ := Option.map_eq_some_iff.1 hi
            have hl : look (heapOf (Tup.get j.sh.tys X) id j.sh.ents ++ ((j.dropE.map fun i => (i, none)) ++ s0.heap)) i = some (some ee) := by
              unfold ESt.ent at hee
              split at hee
              · rename_i e he; cases hee; exact he
              · cases hee
            rw [look_append] at hl
            cases hA : look (heapOf (Tup.get j.sh.tys X) id j.sh.ents) i with
            | some v =>
              rw [hA] at hl
              cases hl
              obtain ⟨p, hp, hpe⟩ := look_map_key hA
              obtain ⟨hpi, hpv⟩ := Prod.mk.inj hpe
              simp only [id] at hpi
              subst hpi
              rcases n2 p hp with hp' | ⟨hin, E, jj, t, hpa, hsz, hv⟩
              · obtain ⟨o, e, e', g1, g2, g3, g4⟩ := hE p hp'
                rw [hpv] at g3
                cases g3
                unfold entOK
                rcases hidr _ _ g1 with h | ⟨_, h1, rfl, h2⟩
                · rw [h]; exact ⟨e.ent, ent_st g2, g4⟩
                · rw [h2]; exact ⟨by simpa using h1, e.ent, ent_st g2, g4⟩
              · have hg := hvs _ (e1.vs _ hv)
                simp only at hg
                rw [hpa, SE.ee, hg] at hpv
                cases hpv
                unfold entOK
                rw [hnlr _ hin]
                exact ⟨E, t.sz, t.bts, rfl, hsz⟩
            | none =>
              rw [hA] at hl
              simp only [Option.none_or] at hl
              rw [look_append] at hl
              cases hB : look (j.dropE.map fun i => (i, (none : Option EEnt))) i with
              | some v =>
                rw [hB] at hl
                cases hl
                obtain ⟨p, hp, hpe⟩ := look_map_key hB
                cases hpe
              | none =>
                rw [hB] at hl
                simp only [Option.none_or] at hl
                have key : ∀ {γ : Type} (l : List (Nat × γ)) (q : Nat × γ), q ∈ l → look l q.1 ≠ none := by
                  intro γ l
                  induction l with
                  | nil => intro q hq; cases hq
                  | cons y l ih =>
                    intro q hq hn
                    obtain ⟨yk, yv⟩ := y
                    rw [look_cons] at hn
                    by_cases hy : yk = q.1
                    · rw [if_pos hy] at hn; cases hn
                    · rw [if_neg hy] at hn
                      rcases List.mem_cons.1 hq with rfl | hq
                      · exact hy rfl
                      · exact ih q hq hn
                have hk1 : i ∉ j.sh.ents.map (·.1) := by
                  intro hm
                  obtain ⟨p, hp, rfl⟩ := List.mem_map.1 hm
                  exact key _ (id p.1, p.2.ee (Tup.get j.sh.tys X) id) (List.mem_map.2 ⟨p, hp, rfl⟩) hA
                have hk2 : i ∉ j.dropE := fun hm => key _ (i, none) (List.mem_map.2 ⟨i, hm, rfl⟩) hB
                obtain ⟨g1, g2, g3⟩ := chkHeap_spec hch hl (fun hm => by
                  rcases List.mem_append.1 hm with h | h
                  · exact hk1 h
                  · exact hk2 h)
                have hs1i : s1.ent i = some ee := by
                  unfold ESt.ent
                  rw [hd2, look_append, look_none_of (fun p hp he => ?_)]
                  · simp only [Option.none_or, hl]
                  · have := List.all_eq_true.1 hdh p hp
                    simp only [Bool.or_eq_true, Bool.and_eq_true] at this
                    rw [he] at this
                    rcases this with (h | h) | ⟨h, h'⟩
                    · exact hk1 (by simpa using h)
                    · exact hk2 (by simpa using h)
                    · have h1 : s0.nxt ≤ i := by simpa using h
                      have h2 : i < LIM := by simpa using h'
                      omega
                unfold fixB at g2
                unfold entOK
                split at g2
                · rename_i o ho
                  have := Nat.eq_of_beq_eq_true g2
                  subst this
                  rw [ho]
                  exact ⟨ee.ent, ent_st hs1i, eeFix_ren g3⟩
                · cases g2
                · rename_i ho
                  rw [ho]
                  exact ⟨g2, ee.ent, ent_st hs1i, eeFix_ren g3⟩
end
end Go.Ab
