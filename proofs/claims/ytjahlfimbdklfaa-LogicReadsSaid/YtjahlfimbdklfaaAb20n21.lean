/- Pieces of owned arrays, as values. -/
import Derived.Test.YtjahlfimbdklfaaAb20n20
set_option linter.unusedVariables false
set_option linter.unusedSimpArgs false
set_option linter.unusedSectionVars false
namespace Go.Ab
open Enc (enc)
section
variable {P : Program} {F : Fr} {σ : St} {H : Hd} {a : Act} {w : World} {o : Oper}
theorem own_form {x : Operand} {k E : Nat} {α : Type} [Enc α] {l : List α} (r : RelH F σ H a w) (hx : σ.ev x = some (.own k)) (hk : σ.ent k = some (Ent.arrOf E l)) :
    ∃ ad c, a.eval x = .slice ad l.length c ∧ H k = some (.slice ad l.length c) ∧ l.length ≤ c ∧ c ≤ maxLen ∧ ((ad = none ∧ l.length = 0 ∧ c = 0) ∨ ∃ b off, ad = some ⟨b, off, none⟩) := by
  have hv := r.ev hx
  obtain ⟨v, hH, hr⟩ := r.ent k _ hk
  have heval : a.eval x = v := by
    generalize a.eval x = u at hv
    cases hv with
    | own _ _ h _ => rw [hH] at h; cases h; rfl
  cases hr with
  | arr _ _ _ _ _ cs hszp hown hbnd hcs hrel =>
    have hlen : (l.map (enc : α → D)).length = l.length := by simp
    rw [hlen] at hown
    rcases hown.2 with ⟨rfl, h0⟩ | ⟨g, off, cap, cur, rfl, h3, h4, h5, _⟩
    · exact ⟨none, 0, by rw [heval, h0], by rw [hH, h0], by omega, by simp [maxLen], .inl ⟨rfl, h0, rfl⟩⟩
    · exact ⟨_, cap, heval, hH, h4, h5, .inr ⟨g, off, rfl⟩⟩
theorem piece_sliced {ad : Option Addr} {n c i j sz : Nat} (hf : (ad = none ∧ n = 0 ∧ c = 0) ∨ ∃ b off, ad = some ⟨b, off, none⟩) (hc : n ≤ c) (hm : c ≤ maxLen) (hij : i ≤ j) (hj : j ≤ n) : PieceOf (.slice ad n c) sz i (j - i) (sliced ad i j c sz) := by
  rcases hf with ⟨rfl, rfl, rfl⟩ | ⟨b, off, rfl⟩
  · have hi0 : i = 0 := by omega
    have hj0 : j = 0 := by omega
    subst hi0 hj0
    exact .inl ⟨rfl, by simp [sliced], rfl, rfl⟩
  · right
    unfold sliced
    by_cases e : c = i
    · rw [if_pos e]
      exact ⟨b, off, n, c, c - i, ⟨b, off, none⟩, rfl, by omega, rfl, by omega, by omega, fun h => by omega⟩
    · rw [if_neg e, Option.map_some, add_off]
      exact ⟨b, off, n, c, c - i, ⟨b, off + i * sz, none⟩, rfl, by omega, rfl, by omega, by omega, fun _ => rfl⟩
theorem RO.vw_lh {t e k E : TypeId} {x lo hi : Operand} {i j : Int} {α : Type} [Enc α] {l : List α} {dsc : Bool} {bytes : Nat} {z : Value} (ho : o.op = .slice t x (some lo) (some hi) none) (ht : P.underlying t = some (.slice e)) (he : TI P e dsc (Enc.sz α) bytes z)
    (hx : σ.ev x = some (.own k)) (hk : σ.ent k = some (Ent.arrOf E l)) (hlo : σ.ev lo = some (.d (.lit (.int .i64 i)))) (hhi : σ.ev hi = some (.d (.lit (.int .i64 j)))) (h : 0 ≤ i ∧ i ≤ j ∧ j ≤ l.length) : RO P F σ o (.view k (Enc.sz α) i.toNat (j - i).toNat) := fun H a w r => by
  obtain ⟨ad, c, hu, hH, hc, hm, hf⟩ := own_form r hx hk
  obtain ⟨i, rfl⟩ : ∃ n : Nat, i = n := ⟨i.toNat, by omega⟩
  obtain ⟨j, rfl⟩ : ∃ n : Nat, j = n := ⟨j.toNat, by omega⟩
  have hel : P.elem t = e := by simp [Program.elem, ht]
  rw [Int.toNat_natCast, show ((j : Int) - (i : Int)).toNat = j - i by omega]
  refine ⟨sliced ad i j c (Enc.sz α), fun w' _ => ?_, .view _ _ _ _ _ _ hH (piece_sliced hf hc hm (by omega) (by omega))⟩
  have hr := run_slice_lh (P := P) (w := w') t ad l.length c (by rw [hel]; exact ht) .i64 .i64 i j (by omega) (by omega) (by omega)
  rw [hel, he.size] at hr
  have hs := run_sliceAt_slice (P := P) w' t (.slice ad l.length c) (some (.int .i64 i)) (some (.int .i64 j)) none (by rw [hel]; exact ht)
  simp [execOp, ho, hu, r.lit hlo, r.lit hhi, hs, hr]
theorem RO.vw_h {t e k E : TypeId} {x hi : Operand} {j : Int} {α : Type} [Enc α] {l : List α} {dsc : Bool} {bytes : Nat} {z : Value} (ho : o.op = .slice t x none (some hi) none) (ht : P.underlying t = some (.slice e)) (he : TI P e dsc (Enc.sz α) bytes z)
    (hx : σ.ev x = some (.own k)) (hk : σ.ent k = some (Ent.arrOf E l)) (hhi : σ.ev hi = some (.d (.lit (.int .i64 j)))) (h : 0 ≤ j ∧ j ≤ l.length) : RO P F σ o (.view k (Enc.sz α) 0 j.toNat) := fun H a w r => by
  obtain ⟨ad, c, hu, hH, hc, hm, hf⟩ := own_form r hx hk
  obtain ⟨j, rfl⟩ : ∃ n : Nat, j = n := ⟨j.toNat, by omega⟩
  have hel : P.elem t = e := by simp [Program.elem, ht]
  rw [Int.toNat_natCast]
  refine ⟨sliced ad 0 j c (Enc.sz α), fun w' _ => ?_, .view _ _ _ _ _ _ hH (piece_sliced (i := 0) hf hc hm (by omega) (by omega))⟩
  have hr := run_slice_h (P := P) (w := w') t ad l.length c (by rw [hel]; exact ht) .i64 j (by omega) (by omega)
  rw [hel, he.size] at hr
  have hs := run_sliceAt_slice (P := P) w' t (.slice ad l.length c) none (some (.int .i64 j)) none (by rw [hel]; exact ht)
  simp [execOp, ho, hu, r.lit hhi, hs, hr]
theorem RO.vw_l {t e k E : TypeId} {x lo : Operand} {i : Int} {α : Type} [Enc α] {l : List α} {dsc : Bool} {bytes : Nat} {z : Value} (ho : o.op = .slice t x (some lo) none none) (ht : P.underlying t = some (.slice e)) (he : TI P e dsc (Enc.sz α) bytes z)
    (hx : σ.ev x = some (.own k)) (hk : σ.ent k = some (Ent.arrOf E l)) (hlo : σ.ev lo = some (.d (.lit (.int .i64 i)))) (h : 0 ≤ i ∧ i ≤ l.length) : RO P F σ o (.view k (Enc.sz α) i.toNat (l.length - i.toNat)) := fun H a w r => by
  obtain ⟨ad, c, hu, hH, hc, hm, hf⟩ := own_form r hx hk
  obtain ⟨i, rfl⟩ : ∃ n : Nat, i = n := ⟨i.toNat, by omega⟩
  have hel : P.elem t = e := by simp [Program.elem, ht]
  rw [Int.toNat_natCast]
  refine ⟨sliced ad i l.length c (Enc.sz α), fun w' _ => ?_, .view _ _ _ _ _ _ hH (piece_sliced hf hc hm (by omega) (by omega))⟩
  have hr := run_slice_l (P := P) (w := w') t ad l.length c (by rw [hel]; exact ht) .i64 i (by omega) (by omega)
  rw [hel, he.size] at hr
  have hs := run_sliceAt_slice (P := P) w' t (.slice ad l.length c) (some (.int .i64 i)) none none (by rw [hel]; exact ht)
  simp [execOp, ho, hu, r.lit hlo, hs, hr]
theorem DRel.piece {w : World} {S : Nat → Prop} {bts sz i n : Nat} {l : List D} {u v : Value} (h : DRel w S (.sl bts l) u) (hsz : ∀ d ∈ l, d.cells.length = sz) (hp : PieceOf u sz i n v) : DRel w S (.sl bts ((l.drop i).take n)) v := by
  rcases hp with ⟨_, rfl, rfl, rfl⟩ | ⟨b, o0, n0, c0, c, ad, rfl, h1, rfl, h2, h3, h4⟩
  · simp only [List.take_zero]
    exact .nil _ _ _ (by simp [maxLen]) (fun _ => rfl)
  · by_cases hn : n = 0
    · subst hn
      simp only [List.take_zero]
      exact .nil _ _ _ h3 (fun h => by cases h)
    · cases h with
      | nil => omega
      | sl _ _ _ _ _ sz' f h0 hsz' hb hc hm hbt hcs hcell hrel =>
        have e : sz' = sz := by
          rw [← hcs 0 h0]
          have : l.getD 0 default = l[0] := by simp [List.getD_eq_getElem?_getD, h0]
          rw [this]; exact hsz _ (List.getElem_mem h0)
        subst e
        have hlen : ((l.drop i).take n).length = n := by rw [List.length_take, List.length_drop]; omega
        have hg : ∀ k, k < n → ((l.drop i).take n).getD k default = l.getD (i + k) default := fun k hk => by
          simp only [List.getD_eq_getElem?_getD]
          rw [List.getElem?_take_of_lt hk, List.getElem?_drop]
        rw [h4 (by omega)]
        have := DRel.sl (w := w) (S := S) bts ((l.drop i).take n) b (o0 + i * sz') c sz' (fun k => f (i * sz' + k)) (by omega) hsz' hb (by omega) h3
          (by
            rw [hlen]
            have : n * bts ≤ l.length * bts := Nat.mul_le_mul_right _ (by omega)
            omega)
          (fun k hk => by rw [hg k (by omega)]; exact hcs _ (by omega))
          (fun k hk => by
            rw [hlen] at hk
            have e1 : (i + n) * sz' ≤ l.length * sz' := Nat.mul_le_mul_right _ h1
            rw [Nat.add_mul] at e1
            rw [Nat.add_assoc]; exact hcell _ (by omega))
          (fun k hk j hj => by
            rw [hg k (by omega)]
            have := hrel (i + k) (by omega) j hj
            rw [Nat.add_mul, Nat.add_assoc] at this
            exact this)
        rw [hlen] at this
        exact this
theorem RelH.viewDat (r : RelH F σ H a w) {S : Nat → Prop} {k id sz i n bts : Nat} {l : List D} {v : Value} (hH : H id = some v) (hd : DRel w S (.sl bts l) v) (hk : σ.get k = some (.view id sz i n)) (hsz : ∀ d ∈ l, d.cells.length = sz) :
    DRel w S (.sl bts ((l.drop i).take n)) (a.tmps.getD k undef) := by
  have hv := r.slot k _ hk
  generalize a.tmps.getD k undef = u at hv
  cases hv with
  | view _ _ _ _ u0 _ h hp => rw [hH] at h; cases h; exact hd.piece hsz hp
end
end Go.Ab
