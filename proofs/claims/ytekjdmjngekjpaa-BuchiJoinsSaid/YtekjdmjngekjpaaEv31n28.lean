/- Arrays of arrays of ours, computed: operations. -/
import Derived.Test.YtekjdmjngekjpaaEv31n14
set_option linter.unusedVariables false
set_option linter.unusedSimpArgs false
set_option linter.unusedSectionVars false
namespace Go.Ab
noncomputable section
open Enc (enc)
variable {R:Type}
def zwD (s:ESt):Option EV->Bool
 | some (.own id)=>match s.ent id with
  | some (.out _ _)=>true
  | _=>false
 | some (.eptr id _ _ _)=>match s.ent id with
  | some (.out _ _)=>true
  | _=>false
 | some (.row _ _ _)=>true
 | some (.reptr _ _ _ _ _)=>true
 | _=>false
def zBp (s:ESt):Op->Bool
 | .indexAddr _ x _=>zwD s (s.ev x)
 | .load _ x=>zwD s (s.ev x)
 | .fieldAddr _ x _=>zwD s (s.ev x)
 | .call c=>match c.callee,c.args.toList with
  | .builtin .len,[x]=>zwD s (s.ev x)
  | _,_=>false
 | _=>false
def zA5 (TT:List TE) (s:ESt) (x:Operand) (t:Nat) (K:EV->Option R):Option R:=match zfp TT t with
 | some _=>match s.ev x with
  | some (.own id)=>match s.ent id with
   | some (.out f _)=>match look s.rws f with
    | some (some r)=>K (.d (.int .i64) ((r.l.length:Nat):Int))
    | _=>none
   | _=>none
  | some (.row f _ i)=>match zqD s f with
   | some r=>G (i < r.l.length) (K (.d (.int .i64) (((r.l.getD i []).length:Nat):Int)))
   | none=>none
  | _=>none
 | none=>none
def zA4 (TT:List TE) (s:ESt) (t:Nat) (x i:Operand) (K:EV->Option R):Option R:=match s.ev i with
 | some (.d (.int _) j)=>match zfp TT t with
  | some e=>match tyT TT e with
   | some te=>match s.ev x with
    | some (.own id)=>match s.ent id with
     | some (.out f _)=>match look s.rws f with
      | some (some r)=>bif Ty.beq te (.list r.t) then G (0<=j/\j < (r.l.length:Int)) (K (.eptr id te (Int.toNat j) 0)) else none
      | _=>none
     | _=>none
    | some (.row f _ i')=>match zqD s f with
     | some r=>bif Ty.beq te r.t then G (0<=j/\j < ((r.l.getD i' []).length:Int)) (K (.reptr f te i' (Int.toNat j) 0)) else none
     | none=>none
    | _=>none
   | none=>none
  | none=>none
 | _=>none
def zyp (TT:List TE) (s:ESt) (t:Nat) (x:Operand) (K:EV->Option R):Option R:=match tyT TT t with
 | some u=>match s.ev x with
  | some (.eptr id te j k)=>match s.ent id with
   | some (.out f _)=>match look s.rws f with
    | some (some r)=>bif Ty.beq te u && Ty.beq u (.list r.t) && Nat.beq k 0 then G (j < r.l.length) (K (.row f r.t j)) else none
    | _=>none
   | _=>none
  | some (.reptr f te i j k)=>match zqD s f with
   | some r=>bif Ty.beq te r.t then (match zu1 r.t ((r.l.getD i []).getD j r.t.dflt) k u with
    | some y=>bif Nat.ble (k+u.sz) r.t.sz then G (j < (r.l.getD i []).length) (K (.d u y)) else none
    | none=>none) else none
   | none=>none
  | _=>none
 | none=>none
def evDR (TT:List TE) (s:ESt) (op:Op) (K:EV->Option R):Option R:=match op with
 | .call c=>match c.callee,c.args.toList,c.argTypes.toList with
  | .builtin .len,[x],[t]=>zA5 TT s x t K
  | _,_,_=>none
 | .indexAddr t x i=>zA4 TT s t x i K
 | .load t x=>zyp TT s t x K
 | .fieldAddr st x i=>match fldT TT st i with
  | some (off,_,_)=>match s.ev x with
   | some (.reptr f te a j k)=>K (.reptr f te a j (k+off))
   | _=>none
  | none=>none
 | _=>none
section
variable {P:Program} {TT:List TE} {F:Fr} {s:ESt} {o:Oper} {K:EV->Option R} {r:R}
theorem zCL {j:Int} {n:Nat} (h:0<=j/\j < n):Int.toNat j < n:=by omega
theorem zzs {α:Type} {l:List (List α)} {i j:Nat} (h:j < (l.getD i []).length):i < l.length:=by
 apply Decidable.byContradiction
 intro hn;rw [List.getD_eq_getElem?_getD,List.getElem?_eq_none (by omega)] at h
 simp at h
theorem zxq (hT:TOK P TT) {x:Operand} {t:Nat} (ho:o.op = .call { callee := .builtin .len,args:=#[x],argTypes:=#[t] }) (h:zA5 TT s x t K=some r):∃ z,RO P F s.st o z.av/\K z=some r:=by
 unfold zA5 at h
 split at h
 ·rename_i e he
  split at h
  ·rename_i id h1
   split at h
   ·rename_i f E h2
    split at h
    ·rename_i rw h3;refine ⟨_,?_,h⟩
     have:=RO.len_out (P:=P) (F:=F) ho (zaG hT he) (zaJ h1) (zwN h2 h3);rw [ztD] at this;exact this
    ·cases h
   ·cases h
  ·rename_i f t' i h1
   split at h
   ·rename_i rw hw;obtain ⟨h3,h4,h5,h6⟩:=zmr hw;obtain ⟨hg,h⟩:=zcO h;exact ⟨_,RO.len_own (α:=rw.t.den) ho (zaG hT he) (zaJ h1) (zuV h4 h5 h3 (by rw [h6];simp) hg),h⟩
   ·cases h
  ·cases h
 ·cases h
theorem zxp (hT:TOK P TT) {t:Nat} {x i:Operand} (ho:o.op = .indexAddr t x i) (h:zA4 TT s t x i K=some r):∃ z,RO P F s.st o z.av/\K z=some r:=by
 unfold zA4 at h
 split at h
 ·rename_i kk j hi
  split at h
  ·rename_i e he
   split at h
   ·rename_i te hte;obtain ⟨z,hz,_⟩:=zdA hT hte
    split at h
    ·rename_i id h1
     split at h
     ·rename_i f E h2
      split at h
      ·rename_i rw h3;have hb:=(zac h).1;replace h:=(zac h).2;have:=Ty.eq_of_beq hb;subst this;obtain ⟨hg,h⟩:=zcO h;exact ⟨_,RO.idx_out ho (zaG hT he) hz (zaJ h1) (zwN h2 h3) (zaJ hi) (by rw [ztD];exact hg),h⟩
      ·cases h
     ·cases h
    ·rename_i f t' i' h1
     split at h
     ·rename_i rw hw;obtain ⟨h3,h4,h5,h6⟩:=zmr hw;have hb:=(zac h).1;replace h:=(zac h).2;have:=Ty.eq_of_beq hb;subst this;obtain ⟨hg,h⟩:=zcO h;have hil:i' < rw.l.length:=zzs (l:=rw.l) (i:=i') (j:=Int.toNat j) (zCL hg);exact ⟨_,RO.idx_own (α:=rw.t.den) ho (zaG hT he) hz (zaJ h1) (zuV h4 h5 h3 (by rw [h6];simp) hil) (zaJ hi) hg,h⟩
     ·cases h
    ·cases h
   ·cases h
  ·cases h
 ·cases h
theorem zwp (hT:TOK P TT) {t:Nat} {x:Operand} (ho:o.op = .load t x) (h:zyp TT s t x K=some r):∃ z,RO P F s.st o z.av/\K z=some r:=by
 unfold zyp at h
 split at h
 ·rename_i u hu;obtain ⟨z,hz,_⟩:=zdA hT hu
  split at h
  ·rename_i id te j k h1
   split at h
   ·rename_i f E h2
    split at h
    ·rename_i rw h3;have hb:=(zac h).1;replace h:=(zac h).2;simp only [Bool.and_eq_true] at hb;have:=Ty.eq_of_beq hb.1.1;subst this;have e2:=Ty.eq_of_beq hb.1.2;subst e2;have:=Nat.eq_of_beq_eq_true hb.2;subst this;obtain ⟨hg,h⟩:=zcO h;obtain ⟨dd,hd1,hd2⟩:=hz.un;exact ⟨_,RO.ld_out ho hd1 (by rw [hd2];rfl) (zaJ h1) (zwN h2 h3) (zpR? hg),h⟩
    ·cases h
   ·cases h
  ·rename_i f te i j k h1
   split at h
   ·rename_i rw hw;obtain ⟨h3,h4,h5,h6⟩:=zmr hw;have hb:=(zac h).1;replace h:=(zac h).2;have:=Ty.eq_of_beq hb;subst this
    split at h
    ·rename_i y hy;have hle:=(zac h).1;replace h:=(zac h).2;obtain ⟨hg,h⟩:=zcO h;have hil:i < rw.l.length:=zzs (j:=j) hg;exact ⟨_,RO.ld_eptr_sub ho hz (zaJ h1) (zuV h4 h5 h3 (by rw [h6];simp) hil) hg hy (by simpa using hle),h⟩
    ·cases h
   ·cases h
  ·cases h
 ·cases h
theorem zz2 (hT:TOK P TT) (h:evDR TT s o.op K=some r):∃ z,RO P F s.st o z.av/\K z=some r:=by
 unfold evDR at h
 split at h
 ·rename_i c ho
  split at h
  ·rename_i x t h1 h2 h3;refine zxq hT ?_ h
   rw [ho];obtain ⟨cc,ca,ct⟩:=c;simp only at h1 h2 h3;subst h1;rw [show ca=#[x] from Array.ext' h2,show ct=#[t] from Array.ext' h3]
  ·cases h
 ·rename_i t x i ho;exact zxp hT ho h
 ·rename_i t x ho;exact zwp hT ho h
 ·rename_i st x i ho
  split at h
  ·rename_i off ft e hf;obtain ⟨hf,he,rfl⟩:=zui hT hf
   split at h
   ·rename_i f te a j k h1;exact ⟨_,RO.fld_eptr ho hf (zaJ h1),h⟩
   ·cases h
  ·cases h
 ·cases h
end
def evD (TT:List TE) (s:ESt) (o:Oper) (K:ESt->Option R):Option R:=bif Nat.beq s.n 0 && Nat.beq s.n 1 then K s else none
section
variable {P:Program} {TT:List TE} {F:Fr} {s:ESt} {o:Oper} {K:ESt->Option R} {q:R}
theorem zA6 (hT:TOK P TT) (h:evD TT s o K=some q):∃ s0,Wk s s0/\Sfx s s0/\EF P F s0.st o (Post s K q):=by unfold evD at h;obtain ⟨h1,h2⟩:=zac h;simp only [Bool.and_eq_true] at h1;have h3:=Nat.eq_of_beq_eq_true h1.1;have h4:=Nat.eq_of_beq_eq_true h1.2;omega
end
end
end Go.Ab
