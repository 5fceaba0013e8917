/- Plain steps for proofs about what functions compute. -/
import Derived.Test.YtnifconnkohabaaEv32n20
import Derived.Test.YtnifconnkohabaaAb22n14
import Derived.Test.YtnifconnkohabaaAb22n16
import Derived.Lib.Bytealg
import Derived.LoopTactic
set_option linter.unusedVariables false
set_option linter.unusedSimpArgs false
set_option linter.unusedSectionVars false
namespace Go.Ab
noncomputable section
theorem ite_to {R : Type} {p : Prop} [Decidable p] {a b x : R} (h1 : p → a = x) (h2 : ¬ p → b = x) : (if decide p = true then a else b) = x := by
 by_cases h : p
 ·rw [if_pos (decide_eq_true h)]; exact h1 h
 ·rw [if_neg (by simpa using h)]; exact h2 h
theorem itep_to {R : Type} {p : Prop} [Decidable p] {a b x : R} (h1 : p → a = x) (h2 : ¬ p → b = x) : (if p then a else b) = x := by
 by_cases h : p
 ·rw [if_pos h]; exact h1 h
 ·rw [if_neg h]; exact h2 h
theorem iteb_to {R : Type} {t : Bool} {a b x : R} (h1 : t = true → a = x) (h2 : t = false → b = x) : (if t = true then a else b) = x := by
 cases t
 ·exact h2 rfl
 ·exact h1 rfl
theorem itet_to {R : Type} {a b x : R} (h : a = x) : (if true = true then a else b) = x := h
theorem itef_to {R : Type} {a b x : R} (h : b = x) : (if false = true then a else b) = x := h
theorem both_to {ts : List Ty} {a b x : Option (Tup ts)} (h1 : a = x) (h2 : b = x) : both ts a b = x := by rw [h1, h2, both_self]
theorem G_to {R : Type} {c : Prop} [Decidable c] {k x : Option R} (h : c) (h2 : k = x) : G c k = x := (if_pos h).trans h2
theorem bind_to {A B : Type} {o : Option A} {f : A → Option B} {x : Option B} {y : A} (h : o = some y) (h2 : f y = x) : o.bind f = x := by rw [h]; exact h2
theorem fits_of {x : Int} (h : -9223372036854775808 ≤ x) (h2 : x ≤ 9223372036854775807) : fits x := ⟨h, h2⟩
theorem room_of {α : Type} {xs ys : List α} {b : Nat} (h : (xs.length + ys.length) * b ≤ 140737488355328) : room xs ys b := h
section
variable {α : Type} [Inhabited α]
theorem cut_len {l : List α} {i j : Int} (h0 : 0 ≤ i) (h1 : i ≤ j) (h2 : j ≤ l.length) : ((cut l i j).length : Int) = j - i := by
 unfold cut; rw [List.length_drop, List.length_take]; omega
theorem cut_all {l : List α} : cut l 0 (l.length : Int) = l := by simp [cut]
theorem ix_cut' {l : List α} {i j k : Int} (h0 : 0 ≤ i) (hk : 0 ≤ k) (h : i + k < j) : ix (cut l i j) k = ix l (i + k) := ix_cut h0 hk h
theorem cut_eq_iff {l u : List α} {i j : Int} (h0 : 0 ≤ i) (h1 : i ≤ j) (h2 : j ≤ l.length) : cut l i j = u ↔ j - i = u.length ∧ ∀ k : Int, 0 ≤ k → k < u.length → ix l (i + k) = ix u k := by
 constructor
 ·rintro rfl
  have := cut_len h0 h1 h2
  exact ⟨by omega, fun k hk hk2 => (ix_cut h0 hk (by omega)).symm⟩
 ·rintro ⟨hl, hx⟩
  have := cut_len h0 h1 h2
  exact ix_ext (by omega) (fun k hk hk2 => by rw [ix_cut h0 hk (by omega)]; exact hx k hk (by omega))
theorem eq_iff_ix {l u : List α} : l = u ↔ l.length = u.length ∧ ∀ k : Int, 0 ≤ k → k < u.length → ix l k = ix u k := by
 constructor
 ·rintro rfl; exact ⟨rfl, fun _ _ _ => rfl⟩
 ·rintro ⟨h1, h2⟩; exact ix_ext h1 (fun k a b => h2 k a (by omega))
end
def mayE (letters : Int) (w : List Int) : Int :=
 if letters < 1 ∨ 4 < letters then 2 else if (60 : Int) < w.length then 1 else if ∀ x ∈ w, 0 ≤ x ∧ x < letters then 0 else 2
theorem mayE_range {letters : Int} {w : List Int} (h : letters < 1 ∨ 4 < letters) : mayE letters w = 2 := by unfold mayE; rw [if_pos h]
theorem mayE_size {letters : Int} {w : List Int} (h : 1 ≤ letters ∧ letters ≤ 4) (h2 : (60 : Int) < w.length) : mayE letters w = 1 := by unfold mayE; rw [if_neg (by omega), if_pos h2]
theorem mayE_bad {letters i : Int} {w : List Int} (h : 1 ≤ letters ∧ letters ≤ 4) (h2 : w.length ≤ (60 : Int)) (h0 : 0 ≤ i ∧ i < w.length) (hx : ¬ (0 ≤ ix w i ∧ ix w i < letters)) : mayE letters w = 2 := by
 unfold mayE; rw [if_neg (by omega), if_neg (by omega), if_neg]; intro hh; exact hx (hh _ (ix_mem h0.1 h0.2))
theorem mayE_ok {letters : Int} {w : List Int} (h : 1 ≤ letters ∧ letters ≤ 4) (h2 : w.length ≤ (60 : Int)) (hx : ∀ j : Int, 0 ≤ j → j < w.length → 0 ≤ ix w j ∧ ix w j < letters) : mayE letters w = 0 := by
 unfold mayE; rw [if_neg (by omega), if_neg (by omega), if_pos]; exact forall_ix.2 hx
theorem mayE_zero {letters : Int} {w : List Int} (h : mayE letters w = 0) : (1 ≤ letters ∧ letters ≤ 4) ∧ w.length ≤ (60 : Int) ∧ ∀ x ∈ w, 0 ≤ x ∧ x < letters := by
 unfold mayE at h
 split at h
 ·omega
 ·split at h
  ·omega
  ·split at h
   ·rename_i h3; exact ⟨by omega, by omega, h3⟩
   ·omega
theorem mayE_012 {letters : Int} {w : List Int} : mayE letters w = 0 ∨ mayE letters w = 1 ∨ mayE letters w = 2 := by
 unfold mayE; repeat' split
 all_goals simp
theorem Fc.pure {P : Program} {f : FuncId} {l : List Value} {r : Value} (hr : r.oneCell' = true) (hc : ∀ w, Calls P f l.toArray w (fun e w' => e = .returned r ∧ w' = w)) {h : Hp} {R : AV → Hp → Prop} (hR : R (.d (.lit r)) h) : Fc P f (l.map fun v => .d (.lit v)) h R := by
 intro w X H vs hX hH hok hs hv
 have e : vs = l.toArray := by
  apply Array.ext
  ·simpa using hs
  ·intro i h1 h2
   have := hv i (by simpa using h2)
   have hi : i < l.length := by simpa using h2
   rw [List.getD_eq_getElem?_getD, List.getElem?_map, List.getElem?_eq_getElem hi, show vs.getD i undef = vs[i] by simp [Array.getD, h1]] at this
   simp only [Option.map_some, Option.getD_some] at this
   generalize vs[i] = q at this
   cases this with
   | d _ _ h3 => cases h3; simp
 subst e
 exact (hc w).mono fun e w' ⟨h1, h2⟩ => by
  subst h2
  exact ⟨r, _, h, H, h1, hR, ⟨rfl, rfl, rfl, Nat.le_refl _⟩, fun _ _ _ => rfl, hok, fun b hb => .inr hb, fun _ _ => rfl, .d _ _ (.lit _ hr)⟩
def ixByte (s : List UInt8) (c : Int) : Int := Lib.indexByte s c.toNat.toUInt8
theorem ce_ixByte {P : Program} {f : FuncId} (h1 : ∀ (as : Array Value) (w : World), (callFunc f as).run P w = .ok (.enter f as) w)
  (hc : ∀ (s : ByteArray) (c : Int) (w : World), Calls P f #[.string s, .int .u8 c] w fun e w' => e = .returned (.int .i64 (Lib.indexByte s.data.toList c.toNat.toUInt8)) ∧ w' = w) :
  CE.ok P ⟨f, ⟨[.str, .int .u8], [(0, .v 0), (1, .v 1)], []⟩, ⟨[.int .i64], [(0, .v 0)], []⟩, fun X => some (ixByte X.1 X.2)⟩ where
 call := h1
 fc X Y hY := by
  cases hY
  exact Fc.pure (l := [.string ⟨⟨X.1⟩⟩, .int .u8 X.2]) (r := .int .i64 (ixByte X.1 X.2)) rfl (fun w => hc ⟨⟨X.1⟩⟩ X.2 w) ⟨rfl, rfl⟩
theorem ce_spoil {P : Program} {f E : Nat} (h1 : ∀ (as : Array Value) (w : World), (callFunc f as).run P w = .ok (.enter f as) w)
  (hn : ∀ w, Calls P f #[.slice none 0 0] w fun e w' => e = .returned (.tuple #[]) ∧ w' = w)
  (hc : ∀ (g off n cap : Nat) (cur : Array Value) (w : World), w.heap[g]? = some (.cells cur E (0, 0)) → n ≤ cap → cap ≤ maxLen → off + cap ≤ cur.size →
   Calls P f #[.slice (some ⟨g, off, none⟩) n cap] w fun e w' => e = .returned (.tuple #[]) ∧ (w'.os = w.os ∧ w'.tape = w.tape ∧ w'.output = w.output ∧ w.heap.size ≤ w'.heap.size) ∧ ∀ b, b ≠ g → w'.heap[b]? = w.heap[b]?) :
  CE.ok P ⟨f, ⟨[.list (.int .i64)], [(0, .own LIM)], [(LIM, .arr E 0)]⟩, ⟨[], [], []⟩, fun _ => some ()⟩ where
 call := h1
 fc X Y hY := by
  intro w Xs H vs hX hlow hH hvs hargs
  have hsz : vs.size = 1 := hvs
  have hv := hargs 0 (by show 0 < 1; omega)
  have hv : VRel w _ H (.own LIM) (vs.getD 0 undef) := hv
  have e : vs = #[vs.getD 0 undef] := by
   apply Array.ext
   ·rw [hsz]; rfl
   ·intro i h2 h3
    have : i = 0 := by have h3 : i < 1 := h3; omega
    subst this; simp [Array.getD, h2]
  generalize vs.getD 0 undef = v at hv e
  subst e
  have hid : H LIM = some v := by cases hv; assumption
  have hent : entOf (hpSt ((⟨[.list (.int .i64)], [(0, .own LIM)], [(LIM, .arr E 0)]⟩ : Shape).heap X) ((⟨[.list (.int .i64)], [(0, .own LIM)], [(LIM, .arr E 0)]⟩ : Shape).rws X)) LIM = some (.arr E 1 8 ((X : List Int).map (Enc.enc (α := Int)))) := rfl
  obtain ⟨v', g1, g2⟩ := hH.ent LIM _ hent
  rw [hid] at g1; cases g1
  have hne : ∀ id, entOf (hpSt ((⟨[], [], []⟩ : Shape).heap Y) ((⟨[], [], []⟩ : Shape).rws Y)) id = none := by
   intro id
   show hpSt [] [] id = none
   unfold hpSt rowsOf
   simp only [look]
   split <;> rfl
  have fin : ∀ (e : Ending) (w' : World), e = .returned (.tuple #[]) → (w'.os = w.os ∧ w'.tape = w.tape ∧ w'.output = w.output ∧ w.heap.size ≤ w'.heap.size) → (∀ b, blk v ≠ some b → w'.heap[b]? = w.heap[b]?) →
    ∃ v r h' H', e = .returned v ∧ (r = (retE ((⟨[], [], []⟩ : Shape).vals Y)).av ∧ h' = hpSt ((⟨[], [], []⟩ : Shape).heap Y) ((⟨[], [], []⟩ : Shape).rws Y)) ∧
     (w'.os = w.os ∧ w'.tape = w.tape ∧ w'.output = w.output ∧ w.heap.size ≤ w'.heap.size) ∧ (∀ b, b < w.heap.size → ¬ Owned (hpSt ((⟨[.list (.int .i64)], [(0, .own LIM)], [(LIM, .arr E 0)]⟩ : Shape).heap X) ((⟨[.list (.int .i64)], [(0, .own LIM)], [(LIM, .arr E 0)]⟩ : Shape).rws X)) H b → w'.heap[b]? = w.heap[b]?) ∧
     HOK Xs h' H' w' ∧ (∀ b, Owned h' H' b → w.heap.size ≤ b ∨ Owned (hpSt ((⟨[.list (.int .i64)], [(0, .own LIM)], [(LIM, .arr E 0)]⟩ : Shape).heap X) ((⟨[.list (.int .i64)], [(0, .own LIM)], [(LIM, .arr E 0)]⟩ : Shape).rws X)) H b) ∧ (∀ id, pinB id = true → H' id = H id) ∧ VRel w' (Sh Xs (entOf h') H' w') H' r v := by
   intro e w' he ho hk
   refine ⟨_, _, _, H, he, ⟨rfl, rfl⟩, ho, fun b _ hb => hk b fun hbv => hb ⟨LIM, _, v, hent, hid, hbv⟩, ⟨fun id e he => (by rw [hne] at he; cases he), fun id e v b he => (by rw [hne] at he; cases he), fun i j e e' v v' b he => (by rw [hne] at he; cases he)⟩,
    fun b ⟨id, e, v, he, _⟩ => (by rw [hne] at he; cases he), fun _ _ => rfl, ?_⟩
   exact .tup [] #[] rfl (by simp)
  cases g2 with
  | arr _ _ _ _ _ xs hsz hown =>
   obtain ⟨_, h2⟩ := hown
   rcases h2 with ⟨rfl, _⟩ | ⟨g, off, cap, cur, rfl, hh, k1, k2, k3, _⟩
   ·exact (hn w).mono fun e w' ⟨a, b⟩ => by subst b; exact fin e w' a ⟨rfl, rfl, rfl, Nat.le_refl _⟩ fun _ _ => rfl
   ·exact (hc g off _ cap cur w hh k1 k2 (by simpa using k3)).mono fun e w' ⟨a, b, c⟩ => fin e w' a b fun q hq => c q fun hqg => hq (by rw [hqg]; rfl)
end
end Go.Ab
