/- Arrays of arrays of ours, computed: families come and go. -/
import Derived.Test.YtekjdmjngekjpaaEv31n7
set_option linter.unusedVariables false
set_option linter.unusedSimpArgs false
set_option linter.unusedSectionVars false
namespace Go.Ab
noncomputable section
open Enc (enc)
def zvj (s:ESt) (k:Nat) (fs os:List Nat):Bool:=s.low && s.heap.all fun p=>match look s.heap p.1 with
 | some (some (.out f _))=>Nat.beq p.1 k || os.contains p.1 || (!(fs.contains f) && !(Nat.beq f s.nxt))
 | _=>true
theorem zBh {s:ESt} {k:Nat} {fs os:List Nat} (h:zvj s k fs os=true):s.low=true:=by
 unfold zvj at h;simp only [Bool.and_eq_true] at h;exact h.1
theorem zBi {s:ESt} {k:Nat} {fs os:List Nat} (h:zvj s k fs os=true) {i f E:Nat} (hi:look s.heap i=some (some (.out f E))) (hk:i≠k) (ho:i∉os):f∉fs/\f≠s.nxt:=by
 unfold zvj at h;simp only [Bool.and_eq_true] at h;have:=List.all_eq_true.1 h.2 _ (zbE hi);simp only [hi,Bool.or_eq_true,Bool.and_eq_true,Bool.not_eq_true'] at this;rcases this with (h1 | h1) | ⟨h1,h2⟩
 ·exact absurd (Nat.eq_of_beq_eq_true h1) hk
 ·exact absurd (by simpa using h1) ho
 ·refine ⟨fun hm => ?_,fun e => ?_⟩
  ·rw [List.contains_eq_mem] at h1;simp [hm] at h1
  ·subst e;simp at h2
def ESt.frzS (s:ESt) (k f:Nat):ESt:=⟨s.n,s.slots,(k,none)::s.heap,s.nxt,(f,none)::s.rws⟩
theorem zzr {F:Fr} {H:Hd} {a:Act} {w:World} {s:ESt} {k f E E1:Nat} {t:Ty} {l:List (List t.den)} (hok:zvj s k [f] []=true) (hfR:f < RB) (hk:s.ent k=some (.out f E)) (hr:look s.rws f=some (some ⟨E1,t,l,none⟩)) (r:RelH F s.st H a w):
  RelH F (s.frzS k f).st H a w/\∃ v,H k=some v/\DRel w (Sh F.X (s.frzS k f).st.ent H w) (encD (.list (.list t)) l) v:=by
 have hlow:=zBh hok;have hrl:rlen s.rws f=l.length:=by unfold rlen;rw [hr]
 have hrow:∀ j,(l.map fun x=>x.map (enc:t.den->D)).getD j default=(l.getD j []).map enc:=fun j=>by
  simp only [List.getD_eq_getElem?_getD,List.getElem?_map]
  cases l[j]? <;>rfl
 have hkl:look s.heap k=some (some (.out f E)):=by
  unfold ESt.ent at hk
  split at hk
  ·rename_i e he;cases hk;exact he
  ·cases hk
 have hkR:k < RB:=by
  unfold ESt.low at hlow;have:=List.all_eq_true.1 hlow _ (zbE hkl);simpa using this
 have hrw:∀ j,j < l.length->s.st.ent (rid f j)=some (Ent.arrOf E1 (l.getD j [])):=fun j hj=>by
  rw [ztc hlow (zf9 f j)];unfold zcA;rw [if_pos (zf9 f j),zhL hfR,hr];simp only [RW.ent,reduceCtorEq,if_false];rw [zm0 hfR,List.getElem?_eq_getElem hj,List.getD_eq_getElem?_getD,List.getElem?_eq_getElem hj];rfl
 have hks:=zcf hk;have hks:s.st.ent k=some (.out E 24 (famA f l.length)):=by rw [hks];show some (Ent.out E 24 (famA f (rlen s.rws f)))=_;rw [hrl]
 obtain ⟨h1,⟨v,h2,h3⟩,_⟩:=r.freezeOut (σ':=(s.frzS k f).st) (Er:=E1) (sz:=t.sz) (btsr:=t.bts) (m:=l.length) (rows:=l.map fun x=>x.map enc) hks (ztD _ _) (by simp)
  (fun j hj=>⟨rid f j,zpR hj,by rw [hrow];exact hrw j hj⟩) rfl rfl (fun _=>rfl)
  (fun i e he=>by
   rw [zfJ] at he;have hhp:(s.frzS k f).heap=(k,none)::s.heap:=rfl;have hrwv:(s.frzS k f).rws=(f,none)::s.rws:=rfl;rw [hhp,zaI] at he;by_cases hik:k=i
   ·rw [if_pos hik] at he;cases he
   ·rw [if_neg hik] at he
    cases hl:look s.heap i with
    | some ee=>
     rw [hl] at he
     cases ee with
     | none=>cases he
     | some e0=>
      simp only [Option.map_some,Option.some.injEq] at he;have hiR:i < RB:=by
       unfold ESt.low at hlow;have:=List.all_eq_true.1 hlow _ (zbE hl);simpa using this
      have hsame:e0.ent (s.frzS k f).rws=e0.ent s.rws:=by
       cases e0 with
       | arr=>rfl
       | box=>rfl
       | outs=>rfl
       | out f2 E2=>
        obtain ⟨g1,g2⟩:=zBi hok hl (fun e=>hik e.symm) (by simp)
        have g1:f2≠f:=by simpa using g1
        show Ent.out E2 24 (famA f2 (rlen (s.frzS k f).rws f2))=Ent.out E2 24 (famA f2 (rlen s.rws f2));have:rlen (s.frzS k f).rws f2=rlen s.rws f2:=by
         unfold rlen;rw [hrwv,zaI,if_neg (fun e=>g1 e.symm)]
        rw [this]
      refine ⟨?_,fun e=>hik e.symm,fun j hj h => ?_⟩
      ·rw [zfJ,hl];simp only [Option.map_some];rw [<- hsame,he]
      ·rw [zpR hj] at h;injection h with h
       have:=zf9 f j;omega
    | none=>
     rw [hl] at he;simp only at he;have hiR:RB<=i:=by
      unfold zcA at he
      split at he
      ·assumption
      ·cases he
     unfold zcA at he;rw [if_pos hiR,hrwv,zaI] at he;by_cases hf:f=i % RB
     ·rw [if_pos hf] at he;cases he
     ·rw [if_neg hf] at he;refine ⟨?_,fun e=>hik e.symm,fun j hj h => ?_⟩
      ·rw [ztc hlow hiR];unfold zcA;rw [if_pos hiR];exact he
      ·rw [zpR hj] at h;injection h with h
       rw [<- h,zhL hfR] at hf;exact hf rfl)
 refine ⟨h1,v,h2,?_⟩
 have e:encD (.list (.list t)) l = .sl 24 ((l.map fun x=>x.map (enc:t.den->D)).map (.sl t.bts)):=by
  rw [List.map_map];rfl
 rw [e];exact h3
theorem zuV {s:ESt} {f i:Nat} {r:RW} (hlow:s.low=true) (hf:f < RB) (hr:look s.rws f=some (some r)) (hh:r.hole≠some i) (hi:i < r.l.length):s.st.ent (rid f i)=some (Ent.arrOf r.E (r.l.getD i [])):=by
 rw [ztc hlow (zf9 f i)];unfold zcA;rw [if_pos (zf9 f i),zhL hf,hr];simp only [RW.ent,zm0 hf,if_neg hh];rw [List.getElem?_eq_getElem hi,List.getD_eq_getElem?_getD,List.getElem?_eq_getElem hi];rfl
theorem zwN {s:ESt} {id f E:Nat} {r:RW} (he:s.ent id=some (.out f E)) (hr:look s.rws f=some (some r)):s.st.ent id=some (.out E 24 (famA f r.l.length)):=by
 rw [zcf he];show some (Ent.out E 24 (famA f (rlen s.rws f)))=_;unfold rlen;rw [hr]
def zqD (s:ESt) (f:Nat):Option RW:=match look s.rws f with
 | some (some r)=>bif s.low && Nat.blt f RB && r.hole.isNone then some r else none
 | _=>none
theorem zmr {s:ESt} {f:Nat} {r:RW} (h:zqD s f=some r):look s.rws f=some (some r)/\s.low=true/\f < RB/\r.hole=none:=by
 unfold zqD at h
 split at h
 ·rename_i r' hr;have hb:=(zac h).1;replace h:=(zac h).2
  cases h;simp only [Bool.and_eq_true] at hb;exact ⟨hr,hb.1.1,by simpa using hb.1.2,by simpa using hb.2⟩
 ·cases h
end
end Go.Ab
