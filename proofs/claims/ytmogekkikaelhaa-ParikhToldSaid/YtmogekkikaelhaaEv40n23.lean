import Derived.Test.YtmogekkikaelhaaEv40n24
set_option linter.unusedVariables false
set_option linter.unusedSimpArgs false
namespace Go.Ab
noncomputable section
open Enc (enc)
theorem Wk.of {s s':ESt} (h:∀ F a w,Rel F s.st a w->Rel F s'.st a w) (hs:s'.slots=s.slots):Wk s s':=⟨h,fun k t x hx=>by unfold ESt.get;rw [hs];exact hx⟩
def ESt.prep0 (s:ESt) (p:Nat×Nat×Option Nat×Ty):ESt:=match s.ent p.1 with
 | some (.box T cs)=>match cs[p.2.1]? with
  | some .nil=>match p.2.2.1 with
   | some E=>bif Nat.blt s.nxt LIM && Nat.blt 0 p.2.2.2.sz then (s.new (.arr E p.2.2.2 ([]:List p.2.2.2.den))).put p.1 (some (.box T (cs.set p.2.1 (.own s.nxt)))) else s
   | none=>s.put p.1 (some (.box T (cs.set p.2.1 (.d (.list p.2.2.2) ([]:List p.2.2.2.den)))))
  | some (.own _)=>match p.2.2.1 with
   | some _=>s
   | none=>s.boxDat1 p.1 p.2.1
  | _=>s
 | _=>s
theorem zsQ (s:ESt) (p:Nat×Nat×Option Nat×Ty):Wk s (s.prep0 p)/\Sfx s (s.prep0 p):=by
 obtain ⟨id,j,oE,t⟩:=p;unfold ESt.prep0;simp only;split
 ·rename_i T cs he;split
  ·rename_i hj;have hj':(EV.avL cs)[j]? =some .nil:=by rw [zch,List.getElem?_map,hj];rfl
   cases oE with
   | some E=>
    simp only;cases hb:Nat.blt s.nxt LIM && Nat.blt 0 t.sz with
    | false=>exact ⟨Wk.refl _,Sfx.refl _⟩
    | true=>
     simp only [Bool.and_eq_true] at hb;refine ⟨Wk.of (fun F a w ⟨H,r⟩=>⟨H.add s.nxt (.slice none 0 0),?_⟩) rfl,(Sfx.new _ _).trans (Sfx.put _ _ _)⟩;have:=r.nilcell (E:=E) (bts:=t.bts) (by have:=hb.1;show s.nxt < LIM;simpa using this) (show 0 < t.sz by simpa using hb.2) (zat he) hj';rw [cond_true,zcp,zeF];simp only [Option.map,EEnt.ent,zhZ];exact this
   | none=>
    simp only;refine ⟨Wk.of (fun F a w ⟨H,r⟩=>⟨H,?_⟩) rfl,Sfx.put _ _ _⟩;have:=r.boxconv (y:=(EV.d (.list t) ([]:List t.den)).av) (zat he) hj' (fun z h=>by cases h) (fun w S H v hv=>by
     cases hv;exact .d _ _ (.nil _ _ _ (by simp [maxLen]) (fun _=>rfl)))
    rw [zcp];simp only [Option.map,EEnt.ent,zhZ];exact this
  ·cases oE with
   | some E=>exact ⟨Wk.refl _,Sfx.refl _⟩
   | none=>exact ⟨zje _ _ _,Sfx.boxDat1 _ _ _⟩
  ·exact ⟨Wk.refl _,Sfx.refl _⟩
 ·exact ⟨Wk.refl _,Sfx.refl _⟩
def ESt.prepD (s:ESt) (p:Nat×Nat×Option Nat×Ty):ESt:=match p.2.2.1 with
 | some E=>s.nil1D p.1 (p.2.1 - 1000000) (E / 65536) (E % 65536) p.2.2.2
 | none=>s
theorem zsR (s:ESt) (p:Nat×Nat×Option Nat×Ty):Wk s (s.prepD p)/\Sfx s (s.prepD p):=by
 unfold ESt.prepD;split
 ·exact zkz _ _ _ _ _ _
 ·exact ⟨Wk.refl _,Sfx.refl _⟩
def ESt.prep1 (s:ESt) (p:Nat×Nat×Option Nat×Ty):ESt:=bif Nat.beq p.2.1 999999 then s.prepF p.1 p.2.2.2 else bif Nat.ble 1000000 p.2.1 then s.prepD p else s.prep0 p
theorem zpQ (s:ESt) (p:Nat×Nat×Option Nat×Ty):Wk s (s.prep1 p)/\Sfx s (s.prep1 p):=by
 unfold ESt.prep1;cases Nat.beq p.2.1 999999 with
 | true=>exact zkA s p.1 p.2.2.2
 | false=>
  simp only [cond_false];cases Nat.ble 1000000 p.2.1 with
  | true=>exact zsR s p
  | false=>exact zsQ s p
def ESt.prep:ESt->List (Nat×Nat×Option Nat×Ty)->ESt
 | s,[]=>s
 | s,p::r=>ESt.prep (s.prep1 p) r
theorem zr3:∀ (l:List (Nat×Nat×Option Nat×Ty)) (s:ESt),Wk s (s.prep l)/\Sfx s (s.prep l)
 | [],s=>⟨Wk.refl s,Sfx.refl s⟩
 | p::r,s=>by
  obtain ⟨h1,h2⟩:=zpQ s p;obtain ⟨h3,h4⟩:=zr3 r (s.prep1 p);exact ⟨h1.trans h3,h2.trans h4⟩
end
end Go.Ab
