/- Arrays of arrays of ours. -/
import Derived.Test.YtekjdmjngekjpaaAb21n21
set_option linter.unusedVariables false
set_option linter.unusedSimpArgs false
set_option linter.unusedSectionVars false
namespace Go.Ab
open Enc (enc)
def famA (f n:Nat):List AV:=(List.range n).map fun x => .own (rid f x)
theorem ztD (f n:Nat):(famA f n).length=n:=by simp [famA]
theorem zpR {f n j:Nat} (h:j < n):(famA f n).getD j default = .own (rid f j):=by
 simp [famA,List.getD_eq_getElem?_getD,h]
theorem zpR? {f n j:Nat} (h:j < n):(famA f n)[j]? =some (.own (rid f j)):=by
 simp [famA,h]
section
variable {P:Program} {F:Fr} {σ:St} {H:Hd} {a:Act} {w:World} {o:Oper}
theorem RelH.outAt (r:RelH F σ H a w) {x:Operand} {id E bts:Nat} {cells:List AV} (hx:σ.ev x=some (.own id)) (he:σ.ent id=some (.out E bts cells)):
  ∃ xs,H id=some (a.eval x)/\zgX w E 1 (a.eval x) cells.length xs/\cells.length * bts<=most/\(∀ j,j < cells.length->VRel w (Sh F.X σ.ent H w) H (cells.getD j default) (xs.getD j undef)):=by
 have hv:=r.ev hx;obtain ⟨v,hH,hr⟩:=r.ent id _ he;generalize a.eval x=u at hv
 cases hv with
 | own _ _ h _=>
  rw [hH] at h;cases h
  cases hr with
  | out _ _ _ _ xs hown hbt hrel=>exact ⟨xs,hH,hown,hbt,hrel⟩
theorem RO.idx_out {t e:TypeId} {x i:Operand} {k:IntKind} {j:Int} {id E bts:Nat} {cells:List AV} {dsc:Bool} {bytes:Nat} {z:Value}
  (ho:o.op = .indexAddr t x i) (ht:P.underlying t=some (.slice e)) (he:TI P e dsc 1 bytes z)
  (hx:σ.ev x=some (.own id)) (hl:σ.ent id=some (.out E bts cells)) (hi:σ.ev i=some (.d (.lit (.int k j)))) (hj:0<=j/\j < cells.length):RO P F σ o (.eptr id 1 j.toNat 0):=fun H a w r=>by
 have hi':=r.lit hi;obtain ⟨n,rfl⟩:∃ n:Nat,j=n:=⟨j.toNat,by omega⟩
 have hn:n < cells.length:=by omega
 obtain ⟨xs,hH,hown,_,_⟩:=r.outAt hx hl;rcases hown.form with ⟨h1,h2⟩ | ⟨b,off,c,h1⟩
 ·omega
 ·refine ⟨.pointer (some ⟨b,off+n * 1,none⟩),fun w' _ => ?_,?_⟩
  ·simp [execOp,ho,Instr.indexAt,h1,hi',asIntOf,run_underlying ht,hn,he.size,zfB]
  ·rw [h1] at hH;have:=VRel.eptr (w:=w) (S:=Sh F.X σ.ent H w) (H:=H) id 1 n 0 b off cells.length c hH hn;simpa using this
theorem RO.len_out {x:Operand} {t e:TypeId} {id E bts:Nat} {cells:List AV} (ho:o.op = .call { callee := .builtin .len,args:=#[x],argTypes:=#[t] }) (ht:P.underlying t=some (.slice e))
  (hx:σ.ev x=some (.own id)) (he:σ.ent id=some (.out E bts cells)):RO P F σ o (.d (.lit (.int .i64 cells.length))):=fun H a w r=>by
 obtain ⟨xs,hH,hown,_,_⟩:=r.outAt hx he;obtain ⟨ad,c,hv'⟩:∃ ad c,a.eval x = .slice ad cells.length c:=by
  rcases hown.form with ⟨h1,h2⟩ | ⟨b,off,c,h1⟩
  ·exact ⟨none,0,by rw [h1,h2]⟩
  ·exact ⟨_,c,h1⟩
 exact ⟨.int .i64 cells.length,fun w' _=>by simp [execOp,ho,resolve,invoke,builtin,Builtin.len_,run_underlying ht,hv',goInt],.int _ _ _ _ _⟩
theorem RO.ld_out {t:TypeId} {dsc:TypeDesc} {x:Operand} {id j E bts:Nat} {cells:List AV} {c:AV} (ho:o.op = .load t x) (ht:P.underlying t=some dsc) (hn:dAgg dsc=false) (hx:σ.ev x=some (.eptr id 1 j 0))
  (he:σ.ent id=some (.out E bts cells)) (hc:cells[j]? =some c):RO P F σ o c:=fun H a w r=>by
 have hj:j < cells.length:=(List.getElem?_eq_some_iff.1 hc).1;have hv:=r.ev hx;obtain ⟨v,hH,hr⟩:=r.ent id _ he;generalize hu:a.eval x=u at hv
 cases hv with
 | eptr _ _ _ _ b o0 n c' h hi=>
  rw [hH] at h;cases h
  cases hr with
  | out _ _ _ _ xs hown hbt hrel=>
   have hxl:xs.length=cells.length:=by have:=hown.1;simpa using this
   have hjx:j < xs.length:=by omega
   have hcell:w.cell? ⟨b,o0+j,none⟩=some (xs.getD j undef):=by
    have:=hown.cell j xs[j] (by simp [hjx])
    simpa [List.getD_eq_getElem?_getD,hjx] using this
   refine ⟨xs.getD j undef,fun w' he => ?_,?_⟩
   ·replace he:=he.resolve_left (by simp [zny,ho])
    simp only [execOp,ho,hu,Instr.loadAt,Instr.sureAddr];have:=znG ht hn (zmB he hcell);simp [this]
   ·have:=hrel j hj;simpa [List.getD_eq_getElem?_getD,hc] using this
theorem RelH.freezeOut (r:RelH F σ H a w) {σ':St} {k E bts Er sz btsr m:Nat} {cells:List AV} {rows:List (List D)} (hk:σ.ent k=some (.out E bts cells)) (hm:cells.length=m) (hrl:rows.length=m)
  (hc:∀ j,j < m->∃ o,cells.getD j default = .own o/\σ.ent o=some (.arr Er sz btsr (rows.getD j default)))
  (hn:σ'.n=σ.n) (hx:σ'.nxt=σ.nxt) (hg:∀ k,σ'.get k=σ.get k)
  (hent:∀ i e,σ'.ent i=some e->σ.ent i=some e/\i≠k/\∀ j,j < m->cells.getD j default ≠ .own i):
  RelH F σ' H a w/\(∃ v,H k=some v/\DRel w (Sh F.X σ'.ent H w) (.sl bts (rows.map (.sl btsr))) v)/\
   ∀ j o,j < m->cells.getD j default = .own o->∃ u,H o=some u/\DRel w (Sh F.X σ'.ent H w) (.sl btsr (rows.getD j default)) u:=by
 have hS:∀ b,Sh F.X σ.ent H w b->Sh F.X σ'.ent H w b/\w.heap[b]? =w.heap[b]? :=fun b hb=>⟨⟨hb.1,hb.2.1,fun i e u he hu hbu=>hb.2.2 i e u (hent i e he).1 hu hbu⟩,rfl⟩
 have hR:RelH F σ' H a w:=
  ⟨by rw [hn];exact r.size,r.defs,r.os,r.tape,r.output,r.grow,r.keep,r.xlt,fun i h1 h2=>r.fresh i (by rw [<- hx];exact h1) h2,r.pin,
   fun i e he=>by
    obtain ⟨u,hu,hr⟩:=r.ent i e (hent i e he).1;exact ⟨u,hu,hr.mono hS (fun _ _ h=>h) (fun _ _=>rfl)⟩,
   fun i e u b he hu hb=>r.own i e u b (hent i e he).1 hu hb,
   fun i i' e e' u u' b h1 h2=>r.inj i i' e e' u u' b (hent i e h1).1 (hent i' e' h2).1,
   fun q x hq=>(r.slot q x (by rw [<- hg];exact hq)).mono hS (fun _ _ h=>h)⟩
 have hrow:∀ o l,σ.ent o=some (.arr Er sz btsr l)->(∀ e,σ'.ent o≠some e)->∃ u,H o=some u/\DRel w (Sh F.X σ'.ent H w) (.sl btsr l) u:=by
  intro o l ho hgone;obtain ⟨u,hu,hr⟩:=r.ent o _ ho;refine ⟨u,hu,?_⟩
  have hlt:∀ b,blk u=some b->b < w.heap.size:=fun b hb=>hr.lt hb
  have hSb:∀ b,blk u=some b->Sh F.X σ'.ent H w b:=fun b hb=>⟨hlt b hb,(r.own o _ u b ho hu hb).2,fun i e q he hq hbq=>hgone e (by
   have:=r.inj o i _ e u q b ho (hent i e he).1 hu hq hb hbq;rw [this];exact he)⟩
  cases hr with
  | arr _ _ _ _ _ xs hsz hown hbt hcs hrel=>
   have hown0:=hown;obtain ⟨hxl,h2⟩:=hown;rcases h2 with ⟨rfl,h0⟩ | ⟨g,off,cap,cur,rfl,hh,hnc,hcm,hcsz,htake⟩
   ·have:l=[]:=List.length_eq_zero_iff.1 h0;subst this;exact .nil _ _ _ (by simp [maxLen]) (fun _=>rfl)
   ·by_cases h0:l=[]
    ·subst h0;exact .nil _ _ _ hcm (by simp)
    ·have hpos:0 < l.length:=List.length_pos_iff.2 h0;refine .sl _ _ g off cap sz (fun j=>xs.getD j undef) hpos hsz (hSb g rfl) hnc hcm hbt hcs (fun j hj => ?_) (fun i hi j hj=>(hrel i hi j hj).mono hS)
     have hjx:j < xs.length:=by omega
     exact hown0.cell j _ (by simp [List.getD_eq_getElem?_getD,hjx])
 have hrows:∀ j o,j < m->cells.getD j default = .own o->∃ u,H o=some u/\DRel w (Sh F.X σ'.ent H w) (.sl btsr (rows.getD j default)) u:=by
  intro j o hj ho;obtain ⟨o',h1,h2⟩:=hc j hj;rw [h1] at ho;cases ho;exact hrow o _ h2 fun e he=>(hent o e he).2.2 j hj h1
 refine ⟨hR,?_,hrows⟩
 obtain ⟨v,hH,hr⟩:=r.ent k _ hk;refine ⟨v,hH,?_⟩
 have hlt:∀ b,blk v=some b->b < w.heap.size:=fun b hb=>hr.lt hb
 have hSb:∀ b,blk v=some b->Sh F.X σ'.ent H w b:=fun b hb=>⟨hlt b hb,(r.own k _ v b hk hH hb).2,fun i e q he hq hbq=>(hent i e he).2.1 (by
  exact (r.inj k i _ e v q b hk (hent i e he).1 hH hq hb hbq).symm)⟩
 cases hr with
 | out _ _ _ _ xs hown hbt hrel=>
  have hown0:=hown;obtain ⟨hxl,h2⟩:=hown;have hlm:(rows.map (D.sl btsr)).length=m:=by rw [List.length_map];exact hrl
  rcases h2 with ⟨rfl,h0⟩ | ⟨g,off,cap,cur,rfl,hh,hnc,hcm,hcsz,htake⟩
  ·have:rows=[]:=List.length_eq_zero_iff.1 (by omega)
   subst this;exact .nil _ _ _ (by simp [maxLen]) (fun _=>rfl)
  ·by_cases h0:m=0
   ·have:rows=[]:=List.length_eq_zero_iff.1 (by omega)
    subst this;rw [show cells.length=0 by omega]
    exact .nil _ _ _ hcm (by simp)
   ·have:=DRel.sl (w:=w) (S:=Sh F.X σ'.ent H w) bts (rows.map (D.sl btsr)) g off cap 1 (fun j=>xs.getD j undef) (by omega) (by omega) (hSb g rfl) (by omega) hcm (by rw [hlm,<- hm];exact hbt)
     (fun i hi=>by
      have hi':i < rows.length:=by simpa using hi
      simp [List.getD_eq_getElem?_getD,hi',D.cells])
     (fun j hj=>by
      have hjx:j < xs.length:=by omega
      exact hown0.cell j _ (by simp [List.getD_eq_getElem?_getD,hjx]))
     (fun i hi j hj=>by
      have hi':i < rows.length:=by simpa using hi
      have hj0:j=0:=by omega
      subst hj0;obtain ⟨o,h1,_⟩:=hc i (by omega)
      obtain ⟨u,hu,hd⟩:=hrows i o (by omega) h1
      have h3:=hrel i (by omega)
      rw [h1] at h3;have h4:xs.getD i undef=u:=by
       generalize xs.getD i undef=q at h3
       cases h3 with
       | own _ _ h _=>rw [hu] at h;cases h;rfl
      have e1:((rows.map (D.sl btsr)).getD i default).cells.getD 0 default = .sl btsr (rows.getD i default):=by
       simp [List.getD_eq_getElem?_getD,hi',D.cells]
      rw [e1];simp only [Nat.mul_one,Nat.add_zero];rw [h4];exact hd)
    rw [hlm,<- hm] at this;exact this
theorem RelH.boxset (r:RelH F σ H a w) {id id2 j:Nat} {T:TypeId} {xs:List AV} {d:D} {v2:Value} (he:σ.ent id=some (.box T xs)) (hj:xs[j]? =some (.own id2)) (hH2:H id2=some v2) (hd:DRel w (Sh F.X σ.ent H w) d v2):
  RelH F (σ.put id (some (.box T (xs.set j (.d d))))) H a w:=by
 obtain ⟨v,hH,hr⟩:=r.ent id _ he
 cases hr with
 | box _ _ b cur hb hs hrel=>
  refine r.upd he hH (b:=b) rfl ?_ (.box T _ b cur hb (by simpa using hs) fun q hq => ?_)
  ·exact { os:=rfl,tape:=rfl,output:=rfl,size:=Nat.le_refl _,block:=fun _ _ _=>rfl }
  ·have hq:q < xs.length:=by simpa using hq
   have h1:=hrel q hq;by_cases hqj:j=q
   ·subst hqj;have e1:xs.getD j default = .own id2:=by rw [List.getD_eq_getElem?_getD,hj];rfl
    have e2:(xs.set j (.d d)).getD j default = .d d:=by simp [List.getD_eq_getElem?_getD,hq]
    rw [e1] at h1;rw [e2];generalize cur.getD j undef=u at h1 ⊢
    cases h1 with
    | own _ _ h _=>rw [hH2] at h;cases h;exact .d _ _ hd
   ·have e2:(xs.set j (.d d)).getD q default=xs.getD q default:=by simp [List.getD_eq_getElem?_getD,List.getElem?_set_ne hqj]
    rw [e2];exact h1
 | mp=>
  exfalso
  match j,hj with
  | 0,hj=>cases hj
  | 1,hj=>cases hj
  | q+2,hj=>simp at hj
end
end Go.Ab
