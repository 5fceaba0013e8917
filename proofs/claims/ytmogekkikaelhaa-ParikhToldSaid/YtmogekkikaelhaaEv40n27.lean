import Derived.Test.YtmogekkikaelhaaEv40n7
set_option linter.unusedVariables false
set_option linter.unusedSimpArgs false
namespace Go.Ab
noncomputable section
open Enc (enc)
def zdC (s:ESt) (k:Nat) (fs os:List Nat):Bool:=s.low && s.heap.all fun p=>match look s.heap p.1 with
 | some (some (.out f _))=>Nat.beq p.1 k || os.contains p.1 || (!(fs.contains f) && !(Nat.beq f s.nxt))
 | _=>true
theorem zfa {s:ESt} {k:Nat} {fs os:List Nat} (h:zdC s k fs os=true):s.low=true:=by
 unfold zdC at h;simp only [Bool.and_eq_true] at h;exact h.1
theorem zk4 {s:ESt} {k:Nat} {fs os:List Nat} (h:zdC s k fs os=true) {i f E:Nat} (hi:look s.heap i=some (some (.out f E))) (hk:i≠k) (ho:i∉os):f∉fs/\f≠s.nxt:=by
 unfold zdC at h;simp only [Bool.and_eq_true] at h;have:=List.all_eq_true.1 h.2 _ (zak hi);simp only [hi,Bool.or_eq_true,Bool.and_eq_true,Bool.not_eq_true'] at this;rcases this with (h1 | h1) | ⟨h1,h2⟩
 ·exact absurd (Nat.eq_of_beq_eq_true h1) hk
 ·exact absurd (by simpa using h1) ho
 ·refine ⟨fun hm => ?_,fun e => ?_⟩
  ·rw [List.contains_eq_mem] at h1;simp [hm] at h1
  ·subst e;simp at h2
def ESt.famS (s:ESt) (k E E1:Nat) (t:Ty) (l:List (List t.den)) (fs os:List Nat):ESt:=
 ⟨s.n,s.slots,(k,some (.out s.nxt E))::((os.map fun o=>(o,none))++s.heap),s.nxt+1,(s.nxt,some ⟨E1,t,l,none⟩)::((fs.map fun f=>(f,none))++s.rws)⟩
theorem zhp {β:Type}:∀ {l:List Nat} {i:Nat},look (l.map fun o=>(o,(none:Option β))) i=if i∈l then some none else none
 | [],i=>rfl
 | o::l,i=>by
  rw [List.map_cons,zae,zhp];by_cases h:o=i
  ·subst h;simp
  ·have h2:i≠o:=fun e=>h e.symm
   simp [h,h2]
theorem zhh {F:Fr} {a:Act} {w:World} {s:ESt} {σ:St} {k E E1:Nat} {t:Ty} {l:List (List t.den)} {fs os:List Nat} {cells:List AV} (hok:zdC s k fs os=true) (hlim:s.nxt < LIM) (hkR:k < RB) (ht:0 < t.sz)
  (hn:σ.n=s.n) (hx:σ.nxt=s.nxt) (hg:∀ q,σ.get q=s.st.get q) (hσk:σ.ent k=some (.out E 24 cells)) (hm:cells.length=l.length)
  (hσ:∀ i e,i≠k->i∉os->(RB<=i->i % RB∉fs)->s.st.ent i=some e->σ.ent i=some e)
  (hc:∀ j,j < l.length->(∃ o,cells.getD j default = .own o/\σ.ent o=some (Ent.arrOf E1 (l.getD j []))/\(o∈os\/(RB<=o/\o % RB∈fs)))\/(cells.getD j default = .nil/\l.getD j []=[]))
  (hinj:∀ i j o,i < l.length->j < l.length->cells.getD i default = .own o->cells.getD j default = .own o->i=j)
  (r:Rel F σ a w):Rel F (s.famS k E E1 t l fs os).st a w:=by
 obtain ⟨H,r⟩:=r;have hlow:=zfa hok;have hrow:∀ j,(l.map fun x=>x.map (enc:t.den->D)).getD j default=(l.getD j []).map enc:=fun j=>by
  simp only [List.getD_eq_getElem?_getD,List.getElem?_map];cases l[j]? <;>rfl
 obtain ⟨H',_,r'⟩:=r.fam (by rw [hx];exact hlim) (σ':=(s.famS k E E1 t l fs os).st) (Er:=E1) (sz:=t.sz) (btsr:=t.bts) (m:=l.length) (rows:=l.map fun x=>x.map enc) hσk hm (by simp) ht
  (fun j hj=>by
   rw [hrow];rcases hc j hj with ⟨o,h1,h2,_⟩ | ⟨h1,h2⟩
   ·exact .inl ⟨o,h1,h2⟩
   ·exact .inr ⟨h1,by rw [h2];rfl⟩)
  hinj hn.symm (by show s.nxt+1=_;rw [hx]) (fun q=>(hg q).symm)
  (fun i e he=>by
   rw [hx];rw [zao] at he;have hcell:i∉os->(RB<=i->i % RB∉fs)->∀ j,j < l.length->cells.getD j default ≠ .own i:=fun h1 h2 j hj h=>by
    rcases hc j hj with ⟨o,g1,_,g2⟩ | ⟨g1,_⟩
    ·rw [h] at g1;cases g1;rcases g2 with g2 | ⟨g2,g3⟩
     ·exact h1 g2
     ·exact h2 g2 g3
    ·rw [h] at g1;cases g1
   have hhp:(s.famS k E E1 t l fs os).heap=(k,some (.out s.nxt E))::((os.map fun o=>(o,none))++s.heap):=rfl;have hrw:(s.famS k E E1 t l fs os).rws=(s.nxt,some ⟨E1,t,l,none⟩)::((fs.map fun f=>(f,none))++s.rws):=rfl;rw [hhp,zae] at he;by_cases hik:k=i
   ·rw [if_pos hik] at he;left;refine ⟨hik.symm,?_⟩;simp only [Option.map_some,Option.some.injEq] at he;rw [<- he];show Ent.out E 24 (famA s.nxt (rlen (s.famS k E E1 t l fs os).rws s.nxt))=_;have:rlen (s.famS k E E1 t l fs os).rws s.nxt=l.length:=by
     unfold rlen;rw [hrw,zae,if_pos rfl]
    rw [this]
   ·rw [if_neg hik,zag,zhp] at he;by_cases hio:i∈os
    ·rw [if_pos hio] at he;cases he
    ·rw [if_neg hio,Option.none_or] at he;cases hl:look s.heap i with
     | some ee=>
      rw [hl] at he;cases ee with
      | none=>cases he
      | some e0=>
       simp only [Option.map_some,Option.some.injEq] at he;have hiR:i < RB:=by
        unfold ESt.low at hlow;have:=List.all_eq_true.1 hlow _ (zak hl);simpa using this
       have hsame:e0.ent (s.famS k E E1 t l fs os).rws=e0.ent s.rws:=by
        cases e0 with
        | arr=>rfl
        | box=>rfl
        | outs=>rfl
        | out f2 E2=>
         obtain ⟨g1,g2⟩:=zk4 hok hl (fun e=>hik e.symm) hio;show Ent.out E2 24 (famA f2 (rlen (s.famS k E E1 t l fs os).rws f2))=Ent.out E2 24 (famA f2 (rlen s.rws f2));have:rlen (s.famS k E E1 t l fs os).rws f2=rlen s.rws f2:=by
          unfold rlen;rw [hrw,zae,if_neg (fun e=>g2 e.symm),zag,zhp,if_neg g1,Option.none_or]
         rw [this]
       have hst:s.st.ent i=some e:=by
        rw [zao,hl];simp only [Option.map_some];rw [<- hsame,he]
       right;right;exact ⟨fun e=>hik e.symm,hσ i e (fun e=>hik e.symm) hio (fun h=>by omega) hst,hcell hio (fun h=>by omega)⟩
     | none=>
      rw [hl] at he;simp only at he;have hiR:RB<=i:=by
       unfold zar at he;split at he
       ·assumption
       ·cases he
      unfold zar at he;rw [if_pos hiR,hrw,zae] at he;by_cases hf:s.nxt=i % RB
      ·rw [if_pos hf] at he;simp only [RW.ent,reduceCtorEq,if_false] at he;obtain ⟨x,hx1,hx2⟩:=Option.map_eq_some_iff.1 he;right;left;have hlt:=(List.getElem?_eq_some_iff.1 hx1).1;refine ⟨i / RB - 1,hlt,?_,?_⟩
       ·have:=zfw hiR;rw [<- hf] at this;exact this
       ·rw [<- hx2,hrow];have:l.getD (i / RB - 1) []=x:=by rw [List.getD_eq_getElem?_getD,hx1];rfl
        rw [this];rfl
      ·rw [if_neg hf,zag,zhp] at he;by_cases hfs:i % RB∈fs
       ·rw [if_pos hfs] at he;cases he
       ·rw [if_neg hfs,Option.none_or] at he;have hst:s.st.ent i=some e:=by
         rw [zgd hlow hiR];unfold zar;rw [if_pos hiR];exact he
        right;right;exact ⟨fun e=>hik e.symm,hσ i e (fun e=>hik e.symm) hio (fun _=>hfs) hst,hcell hio (fun _=>hfs)⟩)
 exact ⟨H',r'⟩
def ESt.frzR (s:ESt) (k f E:Nat) (t:Ty) (l:List (List t.den)):ESt:=⟨s.n,s.slots,(k,some (.arr E (.list t) l))::s.heap,s.nxt,(f,none)::s.rws⟩
theorem zsB {F:Fr} {H:Hd} {a:Act} {w:World} {s:ESt} {k f E E1:Nat} {t:Ty} {l:List (List t.den)} (hok:zdC s k [f] []=true) (hfR:f < RB) (hk:s.ent k=some (.out f E)) (hr:look s.rws f=some (some ⟨E1,t,l,none⟩)) (r:RelH F s.st H a w):
  RelH F (s.frzR k f E t l).st H a w:=by
 have hlow:=zfa hok;have hrl:rlen s.rws f=l.length:=by unfold rlen;rw [hr]
 have hrow:∀ j,(l.map fun x=>x.map (enc:t.den->D)).getD j default=(l.getD j []).map enc:=fun j=>by
  simp only [List.getD_eq_getElem?_getD,List.getElem?_map];cases l[j]? <;>rfl
 have hkl:look s.heap k=some (some (.out f E)):=by
  unfold ESt.ent at hk;split at hk
  ·rename_i e he;cases hk;exact he
  ·cases hk
 have hkR:k < RB:=by
  unfold ESt.low at hlow;have:=List.all_eq_true.1 hlow _ (zak hkl);simpa using this
 have hrw:∀ j,j < l.length->s.st.ent (rid f j)=some (Ent.arrOf E1 (l.getD j [])):=fun j hj=>by
  rw [zgd hlow (zaP f j)];unfold zar;rw [if_pos (zaP f j),zbc hfR,hr];simp only [RW.ent,reduceCtorEq,if_false];rw [zdI hfR,List.getElem?_eq_getElem hj,List.getD_eq_getElem?_getD,List.getElem?_eq_getElem hj];rfl
 have hks:=zat hk;have hks:s.st.ent k=some (.out E 24 (famA f l.length)):=by rw [hks];show some (Ent.out E 24 (famA f (rlen s.rws f)))=_;rw [hrl]
 refine r.flatRows (σ':=(s.frzR k f E t l).st) (Er:=E1) (sz:=t.sz) (btsr:=t.bts) (m:=l.length) (rows:=l.map fun x=>x.map enc) hks (zbj _ _) (by simp)
  (fun j hj=>⟨rid f j,zbA hj,by rw [hrow];exact hrw j hj⟩) rfl rfl (fun _=>rfl)
  (fun i e he=>by
   rw [zao] at he;have hhp:(s.frzR k f E t l).heap=(k,some (.arr E (.list t) l))::s.heap:=rfl;have hrwv:(s.frzR k f E t l).rws=(f,none)::s.rws:=rfl;rw [hhp,zae] at he;by_cases hik:k=i
   ·rw [if_pos hik] at he;simp only [Option.map_some,Option.some.injEq] at he;refine .inl ⟨hik.symm,?_⟩;rw [<- he,List.map_map];rfl
   ·rw [if_neg hik] at he;cases hl:look s.heap i with
    | some ee=>
     rw [hl] at he;cases ee with
     | none=>cases he
     | some e0=>
      simp only [Option.map_some,Option.some.injEq] at he;have hiR:i < RB:=by
       unfold ESt.low at hlow;have:=List.all_eq_true.1 hlow _ (zak hl);simpa using this
      have hsame:e0.ent (s.frzR k f E t l).rws=e0.ent s.rws:=by
       cases e0 with
       | arr=>rfl
       | box=>rfl
       | outs=>rfl
       | out f2 E2=>
        obtain ⟨g1,g2⟩:=zk4 hok hl (fun e=>hik e.symm) (by simp);have g1:f2≠f:=by simpa using g1
        show Ent.out E2 24 (famA f2 (rlen (s.frzR k f E t l).rws f2))=Ent.out E2 24 (famA f2 (rlen s.rws f2));have:rlen (s.frzR k f E t l).rws f2=rlen s.rws f2:=by
         unfold rlen;rw [hrwv,zae,if_neg (fun e=>g1 e.symm)]
        rw [this]
      refine .inr ⟨?_,fun e=>hik e.symm,fun j hj h => ?_⟩
      ·rw [zao,hl];simp only [Option.map_some];rw [<- hsame,he]
      ·rw [zbA hj] at h;injection h with h
       have:=zaP f j;omega
    | none=>
     rw [hl] at he;simp only at he;have hiR:RB<=i:=by
      unfold zar at he;split at he
      ·assumption
      ·cases he
     unfold zar at he;rw [if_pos hiR,hrwv,zae] at he;by_cases hf:f=i % RB
     ·rw [if_pos hf] at he;cases he
     ·rw [if_neg hf] at he;refine .inr ⟨?_,fun e=>hik e.symm,fun j hj h => ?_⟩
      ·rw [zgd hlow hiR];unfold zar;rw [if_pos hiR];exact he
      ·rw [zbA hj] at h;injection h with h
       rw [<- h,zbc hfR] at hf;exact hf rfl)
  (fun j hj h=>by
   rw [zbA hj] at h;injection h with h
   have:=zaP f j;omega)
def ESt.frzS (s:ESt) (k f:Nat):ESt:=⟨s.n,s.slots,(k,none)::s.heap,s.nxt,(f,none)::s.rws⟩
theorem zpC {F:Fr} {H:Hd} {a:Act} {w:World} {s:ESt} {k f E E1:Nat} {t:Ty} {l:List (List t.den)} (hok:zdC s k [f] []=true) (hfR:f < RB) (hk:s.ent k=some (.out f E)) (hr:look s.rws f=some (some ⟨E1,t,l,none⟩)) (r:RelH F s.st H a w):
  RelH F (s.frzS k f).st H a w/\∃ v,H k=some v/\DRel w (Sh F.X (s.frzS k f).st.ent H w) (encD (.list (.list t)) l) v:=by
 have hlow:=zfa hok;have hrl:rlen s.rws f=l.length:=by unfold rlen;rw [hr]
 have hrow:∀ j,(l.map fun x=>x.map (enc:t.den->D)).getD j default=(l.getD j []).map enc:=fun j=>by
  simp only [List.getD_eq_getElem?_getD,List.getElem?_map];cases l[j]? <;>rfl
 have hkl:look s.heap k=some (some (.out f E)):=by
  unfold ESt.ent at hk;split at hk
  ·rename_i e he;cases hk;exact he
  ·cases hk
 have hkR:k < RB:=by
  unfold ESt.low at hlow;have:=List.all_eq_true.1 hlow _ (zak hkl);simpa using this
 have hrw:∀ j,j < l.length->s.st.ent (rid f j)=some (Ent.arrOf E1 (l.getD j [])):=fun j hj=>by
  rw [zgd hlow (zaP f j)];unfold zar;rw [if_pos (zaP f j),zbc hfR,hr];simp only [RW.ent,reduceCtorEq,if_false];rw [zdI hfR,List.getElem?_eq_getElem hj,List.getD_eq_getElem?_getD,List.getElem?_eq_getElem hj];rfl
 have hks:=zat hk;have hks:s.st.ent k=some (.out E 24 (famA f l.length)):=by rw [hks];show some (Ent.out E 24 (famA f (rlen s.rws f)))=_;rw [hrl]
 obtain ⟨h1,⟨v,h2,h3⟩,_⟩:=r.freezeOut (σ':=(s.frzS k f).st) (Er:=E1) (sz:=t.sz) (btsr:=t.bts) (m:=l.length) (rows:=l.map fun x=>x.map enc) hks (zbj _ _) (by simp)
  (fun j hj=>⟨rid f j,zbA hj,by rw [hrow];exact hrw j hj⟩) rfl rfl (fun _=>rfl)
  (fun i e he=>by
   rw [zao] at he;have hhp:(s.frzS k f).heap=(k,none)::s.heap:=rfl;have hrwv:(s.frzS k f).rws=(f,none)::s.rws:=rfl;rw [hhp,zae] at he;by_cases hik:k=i
   ·rw [if_pos hik] at he;cases he
   ·rw [if_neg hik] at he;cases hl:look s.heap i with
    | some ee=>
     rw [hl] at he;cases ee with
     | none=>cases he
     | some e0=>
      simp only [Option.map_some,Option.some.injEq] at he;have hiR:i < RB:=by
       unfold ESt.low at hlow;have:=List.all_eq_true.1 hlow _ (zak hl);simpa using this
      have hsame:e0.ent (s.frzS k f).rws=e0.ent s.rws:=by
       cases e0 with
       | arr=>rfl
       | box=>rfl
       | outs=>rfl
       | out f2 E2=>
        obtain ⟨g1,g2⟩:=zk4 hok hl (fun e=>hik e.symm) (by simp);have g1:f2≠f:=by simpa using g1
        show Ent.out E2 24 (famA f2 (rlen (s.frzS k f).rws f2))=Ent.out E2 24 (famA f2 (rlen s.rws f2));have:rlen (s.frzS k f).rws f2=rlen s.rws f2:=by
         unfold rlen;rw [hrwv,zae,if_neg (fun e=>g1 e.symm)]
        rw [this]
      refine ⟨?_,fun e=>hik e.symm,fun j hj h => ?_⟩
      ·rw [zao,hl];simp only [Option.map_some];rw [<- hsame,he]
      ·rw [zbA hj] at h;injection h with h
       have:=zaP f j;omega
    | none=>
     rw [hl] at he;simp only at he;have hiR:RB<=i:=by
      unfold zar at he;split at he
      ·assumption
      ·cases he
     unfold zar at he;rw [if_pos hiR,hrwv,zae] at he;by_cases hf:f=i % RB
     ·rw [if_pos hf] at he;cases he
     ·rw [if_neg hf] at he;refine ⟨?_,fun e=>hik e.symm,fun j hj h => ?_⟩
      ·rw [zgd hlow hiR];unfold zar;rw [if_pos hiR];exact he
      ·rw [zbA hj] at h;injection h with h
       rw [<- h,zbc hfR] at hf;exact hf rfl)
 refine ⟨h1,v,h2,?_⟩;have e:encD (.list (.list t)) l = .sl 24 ((l.map fun x=>x.map (enc:t.den->D)).map (.sl t.bts)):=by
  rw [List.map_map];rfl
 rw [e];exact h3
theorem zcW {s:ESt} {f i:Nat} {r:RW} (hlow:s.low=true) (hf:f < RB) (hr:look s.rws f=some (some r)) (hh:r.hole≠some i) (hi:i < r.l.length):s.st.ent (rid f i)=some (Ent.arrOf r.E (r.l.getD i [])):=by
 rw [zgd hlow (zaP f i)];unfold zar;rw [if_pos (zaP f i),zbc hf,hr];simp only [RW.ent,zdI hf,if_neg hh];rw [List.getElem?_eq_getElem hi,List.getD_eq_getElem?_getD,List.getElem?_eq_getElem hi];rfl
theorem zic {s:ESt} {id f E:Nat} {r:RW} (he:s.ent id=some (.out f E)) (hr:look s.rws f=some (some r)):s.st.ent id=some (.out E 24 (famA f r.l.length)):=by
 rw [zat he];show some (Ent.out E 24 (famA f (rlen s.rws f)))=_;unfold rlen;rw [hr]
theorem zq9 {s:ESt} {id:Nat} {e:EEnt} (hlow:s.low=true) (he:s.ent id=some e):id < RB:=by
 unfold ESt.ent at he;split at he
 ·rename_i e' h;unfold ESt.low at hlow;have:=List.all_eq_true.1 hlow _ (zak h);simpa using this
 ·cases he
def zeT (s:ESt) (f:Nat):Option RW:=match look s.rws f with
 | some (some r)=>bif s.low && Nat.blt f RB && r.hole.isNone then some r else none
 | _=>none
theorem zbU {s:ESt} {f:Nat} {r:RW} (h:zeT s f=some r):look s.rws f=some (some r)/\s.low=true/\f < RB/\r.hole=none:=by
 unfold zeT at h;split at h
 ·rename_i r' hr;have hb:=(zaa h).1;replace h:=(zaa h).2;cases h;simp only [Bool.and_eq_true] at hb;exact ⟨hr,hb.1.1,by simpa using hb.1.2,by simpa using hb.2⟩
 ·cases h
end
end Go.Ab
