import Derived.Test.YtmogekkikaelhaaEv40n11
set_option linter.unusedVariables false
set_option linter.unusedSimpArgs false
namespace Go.Ab
noncomputable section
open Enc (enc)
structure AgrA (acc:Vs×Ids×List Nat) (g:Nat->EV) (cm:Ids) (L:List Nat):Prop where
 vs:∀ p∈acc.1,g p.1=p.2
 ids:∀ i o,look acc.2.1 i=some o->look cm i=some o
 ln:∀ i∈acc.2.2,i∈L
theorem AgrA.mono {a b:Vs×Ids×List Nat} {g:Nat->EV} {cm:Ids} {L:List Nat} (h:AgrA b g cm L) (m:MonoA a b):AgrA a g cm L:=
 ⟨fun p hp=>h.vs p (m.vs p hp),fun i o ho=>h.ids i o (m.ids i o ho),fun i hi=>h.ln i (m.ln i hi)⟩
theorem zhq {cm:Ids} {i o:Nat} (h:look cm i=some o):look (toMp cm) i=some (some o):=by rw [zcn,h];rfl
theorem zbH.any {σ:St} {cm:Ids} {L:LN} {x:AV}:zbH σ cm L x .any:=fun _ _ _ _ _ v _ => .any v
theorem hnd_v {s:ESt} {tys:List Ty} {j:Nat} {x:EV} {vs:Vs} {ids:Ids} {ln:List Nat} {acc':Vs×Ids×List Nat} (h:(match tys[j]? with
   | some t=>match x.as t with
    | some a=>some ((j,EV.d t a)::vs,ids,ln)
    | none=>none
   | none=>none)=some acc'):MonoA (vs,ids,ln) acc'/\∀ g cm L,AgrA acc' g cm L->zbH s.st cm ⟨L⟩ x.av ((SV.v j).ev g id).av:=by
 split at h
 ·rename_i t ht;split at h
  ·rename_i a hxa;cases h;refine ⟨⟨fun p hp=>List.mem_cons_of_mem _ hp,fun _ _ h=>h,fun _ h=>h⟩,fun g cm L ha => ?_⟩;have:=ha.vs (j,.d t a) (by simp);simp only at this;rw [SV.ev,this];exact zbH.conv (zqN hxa) (zbH.ren zvd)
  ·cases h
 ·cases h
mutual
theorem zsE {s:ESt} {tys:List Ty}:∀ {sv:SV} {x:EV} {acc acc':Vs×Ids×List Nat},zmi (rowG s x)->hnd s tys sv x acc=some acc'->MonoA acc acc'/\∀ g cm L,AgrA acc' g cm L->zbH s.st cm ⟨L⟩ x.av (sv.ev g id).av
 | .v j,x,(vs,ids,ln),acc',hg,h=>by
  by_cases hx:(∃ id,x = .own id)\/(∃ t a,x = .d t a)\/∃ f u i,x = .row f u i
  ·rcases hx with ⟨oid,rfl⟩ | ⟨t,a,rfl⟩ | ⟨f,u,i,rfl⟩
   ·simp only [hnd] at h;split at h
    ·rename_i E t l he;cases h;refine ⟨⟨fun p hp=>List.mem_cons_of_mem _ hp,fun _ _ h=>h,fun _ h=>List.mem_cons_of_mem _ h⟩,fun g cm L ha => ?_⟩;have:=ha.vs (j,.d (.list t) l) (by simp);simp only at this;rw [SV.ev,this];exact zbH.lend (zat he) (LN.mem (ha.ln oid (by simp)))
    ·rename_i f E he;split at h
     ·rename_i r hw;cases h;refine ⟨⟨fun p hp=>List.mem_cons_of_mem _ hp,fun _ _ h=>h,fun _ h=>List.mem_cons_of_mem _ (List.mem_cons_of_mem _ h)⟩,fun g cm L ha => ?_⟩;have:=ha.vs (j,.d (.list (.list r.t)) r.l) (by simp);simp only at this;rw [SV.ev,this];exact znV he hw (LN.mem (ha.ln oid (by simp))) (ha.ln f (by simp))
     ·cases h
    ·cases h
   ·simp only [hnd,Option.some.injEq] at h;subst h;refine ⟨⟨fun p hp=>List.mem_cons_of_mem _ hp,fun _ _ h=>h,fun _ h=>h⟩,fun g cm L ha => ?_⟩;have:=ha.vs (j,.d t a) (by simp);simp only at this;rw [SV.ev,this];exact zbH.ren zvd
   ·simp only [hnd] at h;split at h
    ·rename_i r hw;cases h;refine ⟨⟨fun p hp=>List.mem_cons_of_mem _ hp,fun _ _ h=>h,fun _ h=>List.mem_cons_of_mem _ h⟩,fun g cm L ha => ?_⟩;have:=ha.vs (j,.d (.list r.t) (r.l.getD i [])) (by simp);simp only at this;rw [SV.ev,this];have hi:i < r.l.length:=hg (i,r.l.length) (by simp only [rowG,hw];simp);obtain ⟨h1,h2,h3,h4⟩:=zbU hw;exact zbH.lend (zcW h2 h3 h1 (by rw [h4];simp) hi) (.inr ⟨zaP f i,by rw [zbc h3];exact ha.ln f (by simp)⟩)
    ·cases h
  ·refine hnd_v (tys:=tys) (j:=j) ?_;cases x<;>first | exact h | exact absurd (.inl ⟨_,rfl⟩) hx | exact absurd (.inr (.inl ⟨_,_,rfl⟩)) hx | exact absurd (.inr (.inr ⟨_,_,_,rfl⟩)) hx
 | .own i,x,(vs,ids,ln),acc',hg,h=>by
  cases x<;>simp only [hnd,reduceCtorEq] at h
  case own o=>
   split at h
   ·rename_i ids' hi;cases h;obtain ⟨h1,h2⟩:=zdX hi;exact ⟨⟨fun _ h=>h,h2,fun _ h=>h⟩,fun g cm L ha=>zbH.ren (zo9 (zhq (ha.ids i o h1)))⟩
   ·cases h
 | .ptr i a,x,(vs,ids,ln),acc',hg,h=>by
  cases x<;>simp only [hnd,reduceCtorEq] at h
  case ptr o b=>
   have hb:=(zaa h).1;replace h:=(zaa h).2;have:=Nat.eq_of_beq_eq_true hb;subst this;split at h
   ·rename_i ids' hi;cases h;obtain ⟨h1,h2⟩:=zdX hi;exact ⟨⟨fun _ h=>h,h2,fun _ h=>h⟩,fun g cm L ha=>zbH.ren (zpa (zhq (ha.ids i o h1)))⟩
   ·cases h
 | .addr j,x,(vs,ids,ln),acc',hg,h=>by
  by_cases hx:(∃ t a,x = .addr t a)\/∃ o,x = .ptr o 0
  ·rcases hx with ⟨t,a,rfl⟩ | ⟨o,rfl⟩
   ·simp only [hnd,Option.some.injEq] at h;subst h;refine ⟨⟨fun p hp=>List.mem_cons_of_mem _ hp,fun _ _ h=>h,fun _ h=>h⟩,fun g cm L ha => ?_⟩;have:=ha.vs (j,.d t a) (by simp);simp only at this;rw [SV.ev,this];exact zbH.ren zsT
   ·simp only [hnd] at h;split at h
    ·rename_i T cs he;split at h
     ·rename_i t ht;split at h
      ·rename_i a ln' hp;cases h;have hm:=ziV hp;refine ⟨⟨fun p hp=>List.mem_cons_of_mem _ hp,fun _ _ h=>h,fun i hi=>hm i (List.mem_cons_of_mem _ hi)⟩,fun g cm L ha => ?_⟩;have:=ha.vs (j,.d t a) (by simp);simp only at this;rw [SV.ev,this];obtain ⟨l1,h1,h2⟩:=znd hp L ha.ln;rw [List.append_nil] at h1;subst h1;obtain ⟨h3,h4⟩:=h2.get;exact zbH.lendBox (zat he) (LN.mem (ha.ln o (hm o (by simp)))) h3 h4
      ·cases h
     ·cases h
    ·cases h
  ·exfalso;cases x with
   | ptr o k=>
    cases k with
    | zero=>exact hx (.inr ⟨o,rfl⟩)
    | succ k=>simp only [hnd,reduceCtorEq] at h
   | addr t a=>exact hx (.inl ⟨t,a,rfl⟩)
   | _=>simp only [hnd,reduceCtorEq] at h
 | .fn f l,x,acc,acc',hg,h=>by
  cases x<;>simp only [hnd,reduceCtorEq] at h
  case fn g' m=>
   have hb:=(zaa h).1;replace h:=(zaa h).2;have:=Nat.eq_of_beq_eq_true hb;subst this;obtain ⟨h1,h2⟩:=zgG (by simpa only [rowG] using hg) h;refine ⟨h1,fun g cm L ha => ?_⟩;rw [SV.ev];obtain ⟨h3,h4⟩:=(h2 g cm L ha).rel;exact zbH.fn h3 fun i hi=>h4 i (by omega)
 | .agg l,x,acc,acc',hg,h=>by
  cases x<;>simp only [hnd,reduceCtorEq] at h
  case agg m=>
   obtain ⟨h1,h2⟩:=zgG (by simpa only [rowG] using hg) h;refine ⟨h1,fun g cm L ha => ?_⟩;rw [SV.ev];obtain ⟨h3,h4⟩:=(h2 g cm L ha).rel;exact zbH.agg h3 fun i hi=>h4 i (by omega)
 | .nil,x,acc,acc',hg,h=>by
  cases x<;>simp only [hnd,reduceCtorEq,Option.some.injEq] at h
  case nil=>subst h;exact ⟨MonoA.refl _,fun _ _ _ _=>zbH.ren rfl⟩
 | .any,x,acc,acc',hg,h=>by
  have:some acc=some acc':=by cases x<;>exact h
  cases this;exact ⟨MonoA.refl _,fun _ _ _ _=>zbH.any⟩
theorem zgG {s:ESt} {tys:List Ty}:∀ {l:List SV} {m:List EV} {acc acc':Vs×Ids×List Nat},zmi (zlR s m)->hndL s tys l m acc=some acc'->MonoA acc acc'/\∀ g cm L,AgrA acc' g cm L->zkF s.st cm ⟨L⟩ (EV.avL m) (EV.avL (SV.evL g id l))
 | [],m,acc,acc',hg,h=>by
  cases m<;>simp only [hndL,reduceCtorEq,Option.some.injEq] at h;subst h;exact ⟨MonoA.refl _,fun _ _ _ _=>rfl⟩
 | x::l,m,acc,acc',hg,h=>by
  cases m<;>simp only [hndL,reduceCtorEq] at h;rename_i y m;split at h
  ·rename_i acc1 h1;have hg':zmi (rowG s y++zlR s m):=by simpa only [zlR] using hg
   obtain ⟨g1,g2⟩:=zsE (fun p hp=>hg' p (List.mem_append_left _ hp)) h1;obtain ⟨k1,k2⟩:=zgG (fun p hp=>hg' p (List.mem_append_right _ hp)) h;refine ⟨g1.trans k1,fun g cm L ha => ?_⟩;rw [SV.evL,EV.avL,EV.avL];exact ⟨g2 g cm L (ha.mono k1),k2 g cm L ha⟩
  ·cases h
end
def Ty.flat:Ty->Bool
 | .list _=>false
 | .tree _=>false
 | .pair a b=>a.flat && b.flat
 | _=>true
theorem zd0:∀ {t:Ty},t.flat=true->∀ (x:t.den),∀ c∈(encD t x).cells,∃ v,c = .lit v
 | .int _,_,_,c,hc=>by have:c=_:=List.mem_singleton.1 hc;exact ⟨_,this⟩
 | .bool,_,_,c,hc=>by have:c=_:=List.mem_singleton.1 hc;exact ⟨_,this⟩
 | .str,_,_,c,hc=>by have:c=_:=List.mem_singleton.1 hc;exact ⟨_,this⟩
 | .list _,h,_,_,_=>by cases h
 | .tree _,h,_,_,_=>by cases h
 | .unit,_,_,c,hc=>by cases hc
 | .pair a b,h,x,c,hc=>by
  simp only [Ty.flat,Bool.and_eq_true] at h;rcases List.mem_append.1 hc with hc | hc
  ·exact zd0 h.1 x.1 c hc
  ·exact zd0 h.2 x.2 c hc
theorem zm6 {w:World} {S S':Nat->Prop} {v:Value} {u:Value} (h:DRel w S (.lit v) u):DRel w S' (.lit v) u:=by
 cases h with
 | lit _ h=>exact .lit _ h
theorem zsA {t:Ty} (h:t.flat=true) (x:t.den) {w:World} {S S':Nat->Prop} {v:Value} (hd:DRel w S (encD t x) v):DRel w S' (encD t x) v:=by
 have hc:=zd0 h x;cases ha:t.agg with
 | false=>
  rw [zca ha] at hc;obtain ⟨u,hu⟩:=hc (encD t x) (by simp);rw [hu] at hd ⊢;exact zm6 hd
 | true=>
  rw [zbz ha] at hd ⊢;generalize (encD t x).cells=l at hc hd;cases hd with
  | agg _ cs hs hr=>
   refine .agg l cs hs fun i hi => ?_
   obtain ⟨u,hu⟩:=hc l[i] (List.getElem_mem hi);have e:l.getD i default = .lit u:=by rw [<- hu];simp [List.getD_eq_getElem?_getD,hi]
   have:=hr i hi;rw [e] at this ⊢;exact zm6 this
def zj0 (tys:List Ty):SV->Bool
 | .v j=>match tys[j]? with
  | some t=>t.flat
  | none=>false
 | .own _=>true
 | .ptr _ _=>true
 | .nil=>true
 | .any=>true
 | _=>false
def zmk (tys:List Ty):SE->Bool
 | .arr _ j=>match tys[j]? with
  | some (.list t)=>t.flat
  | _=>false
 | .box _ c=>c.all (zj0 tys)
 | .out _ _ _ j=>match tys[j]? with
  | some (.list (.list t))=>t.flat
  | _=>false
theorem zcK:∀ {ts:List Ty} (X:Tup ts) {j:Nat} {t:Ty},ts[j]? =some t->∃ x:t.den,Tup.get ts X j = .d t x
 | [],_,_,_,h=>by simp at h
 | [u],X,0,t,h=>by simp at h;subst h;exact ⟨X,rfl⟩
 | [_],_,_+1,_,h=>by simp at h
 | u::v::r,X,0,t,h=>by simp at h;subst h;exact ⟨X.1,rfl⟩
 | u::v::r,X,j+1,t,h=>zcK (ts:=v::r) X.2 (by simpa using h)
theorem zlA {tys:List Ty} (X:Tup tys) {ρ:Nat->Nat} {sv:SV} (h:zj0 tys sv=true):zqH (sv.ev (Tup.get tys X) ρ).av:=by
 cases sv with
 | v j=>
  simp only [zj0] at h;split at h
  ·rename_i t ht;obtain ⟨x,hx⟩:=zcK X ht;rw [SV.ev,hx];intro w S S' H v hv;cases hv with
   | d _ _ hd=>exact .d _ _ (zsA h x hd)
  ·cases h
 | own id=>intro w S S' H v hv;cases hv with | own _ _ h hs=>exact .own _ _ h hs
 | ptr id off=>intro w S S' H v hv;cases hv with | ptr _ _ b h=>exact .ptr _ _ b h
 | nil=>intro w S S' H v hv;cases hv;exact .nil
 | any=>intro w S S' H v hv;exact .any v
 | _=>cases h
theorem zsc {tys:List Ty} (X:Tup tys) {ρ:Nat->Nat} {sv:SV} {b:Nat} {l:List D} (h:zj0 tys sv=true) (he:(sv.ev (Tup.get tys X) ρ).av = .d (.sl b l)):False:=by
 cases sv with
 | v j=>
  simp only [zj0] at h;split at h
  ·rename_i t ht;obtain ⟨x,hx⟩:=zcK X ht;rw [SV.ev,hx] at he;have he:AV.d (encD t x) = .d (.sl b l):=he;injection he with he
   obtain ⟨u,hu⟩:=zd0 h x (.sl b l) (by rw [he];simp [D.cells]);cases hu
  ·cases h
 | own id=>cases he
 | ptr id off=>cases he
 | nil=>cases he
 | any=>cases he
 | _=>cases h
theorem ztv {t:Ty} (h:t.flat=true) (E:Nat) (x:List t.den):zno (Ent.arrOf E x):=by
 intro w S S' H v hv;cases hv with
 | arr _ _ _ _ _ xs hsz hown hbt hcs hrel=>
  refine .arr _ _ _ _ _ xs hsz hown hbt hcs fun i hi j' hj' => ?_
  have h1:=hrel i hi j' hj';have hil:i < x.length:=by simpa using hi
  have e1:(x.map (enc:t.den->D)).getD i default=encD t x[i]:=by simp [List.getD_eq_getElem?_getD,hil,zq8]
  rw [e1] at h1 ⊢;have hlen:j' < (encD t x[i]).cells.length:=by rw [zau];exact hj'
  obtain ⟨u,hu⟩:=zd0 h x[i] (encD t x[i]).cells[j'] (List.getElem_mem hlen);have e2:(encD t x[i]).cells.getD j' default = .lit u:=by rw [<- hu];simp [List.getD_eq_getElem?_getD,hlen]
  rw [e2] at h1 ⊢;exact zm6 h1
theorem zpd {tys:List Ty} (X:Tup tys) {ρ:Nat->Nat} {l:List (Nat×SE)} (h:l.all (fun p=>zmk tys p.2)=true) {k:Nat} {e:Ent} (he:zar (zbr (Tup.get tys X) ρ l) k=some e):zno e:=by
 unfold zar at he;split at he
 ·split at he
  ·rename_i r hr;have hm:=zak hr;unfold zbr at hm;obtain ⟨⟨i,se⟩,hp,hq⟩:=List.mem_filterMap.1 hm;have hs:=List.all_eq_true.1 h _ hp;cases se with
   | arr=>cases hq
   | box=>cases hq
   | out f E E1 j=>
    simp only [zmk] at hs;split at hs
    ·rename_i t ht;obtain ⟨x,hx⟩:=zcK X ht;simp only [SE.rw,hx,Option.some.injEq,Prod.mk.injEq] at hq;obtain ⟨_,hq⟩:=hq;cases hq;unfold RW.ent at he;simp only at he;rw [if_neg (by simp)] at he;obtain ⟨y,_,rfl⟩:=Option.map_eq_some_iff.1 he;exact ztv hs _ _
    ·cases hs
  ·cases he
 ·cases he
theorem zpe {tys:List Ty} (X:Tup tys) {ρ:Nat->Nat} {se:SE} {e:EEnt} (h:zmk tys se=true) (he:se.ee (Tup.get tys X) ρ=some e) (rs:List (Nat×Option RW)):zno (e.ent rs):=by
 cases se with
 | out f E E1 j=>
  rw [SE.ee] at he;split at he
  ·cases he;intro w S S' H v hv;cases hv with
   | out _ _ _ _ xs hown hbt hrel=>
    refine .out _ _ _ _ xs hown hbt fun j hj => ?_
    have h1:=hrel j hj;have hj':j < rlen rs (ρ f):=by simpa [famA] using hj
    have e1:(famA (ρ f) (rlen rs (ρ f))).getD j default = .own (rid (ρ f) j):=by simp [famA,List.getD_eq_getElem?_getD,hj']
    rw [e1] at h1 ⊢;cases h1 with | own _ _ h hs=>exact .own _ _ h hs
  ·cases he
 | arr E j=>
  simp only [zmk] at h;split at h
  ·rename_i t ht;obtain ⟨x,hx⟩:=zcK X ht;rw [SE.ee,hx] at he;cases he;intro w S S' H v hv;cases hv with
   | arr _ _ _ _ _ xs hsz hown hbt hcs hrel=>
    refine .arr _ _ _ _ _ xs hsz hown hbt hcs fun i hi j' hj' => ?_
    have h1:=hrel i hi j' hj';have hil:i < x.length:=by simpa using hi
    have e1:(x.map (enc:t.den->D)).getD i default=encD t x[i]:=by simp [List.getD_eq_getElem?_getD,hil,zq8]
    rw [e1] at h1 ⊢;have hlen:j' < (encD t x[i]).cells.length:=by rw [zau];exact hj'
    obtain ⟨u,hu⟩:=zd0 h x[i] (encD t x[i]).cells[j'] (List.getElem_mem hlen);have e2:(encD t x[i]).cells.getD j' default = .lit u:=by rw [<- hu];simp [List.getD_eq_getElem?_getD,hlen]
    rw [e2] at h1 ⊢;exact zm6 h1
  ·cases h
 | box T c=>
  rw [SE.ee] at he;cases he;simp only [zmk] at h;intro w S S' H v hv;generalize hcs:EEnt.ent rs (EEnt.box T (SV.evL (Tup.get tys X) ρ c))=e at hv ⊢;cases hv with
  | arr=>cases hcs
  | out=>cases hcs
  | mp T' kb vb ks vs b es clock=>
   exfalso;injection hcs with hT hcs
   cases c with
   | nil=>cases hcs
   | cons x c=>
    rw [SV.evL,EV.avL] at hcs;injection hcs with h0 _
    simp only [List.all_cons,Bool.and_eq_true] at h;exact zsc X h.1 h0
  | box T' cs' b cur hb hs hrel=>
   cases hcs;refine .box _ _ b cur hb hs fun j hj => ?_
   have h1:=hrel j hj;have hlen:∀ c:List SV,(EV.avL (SV.evL (Tup.get tys X) ρ c)).length=c.length:=by
    intro c;induction c with
    | nil=>rfl
    | cons x c ih=>rw [SV.evL,EV.avL,List.length_cons,ih];rfl
   have hget:∀ (c:List SV) (j:Nat),j < c.length->c.all (zj0 tys)=true->zqH ((EV.avL (SV.evL (Tup.get tys X) ρ c)).getD j default):=by
    intro c;induction c with
    | nil=>intro j hj;simp at hj
    | cons x c ih=>
     intro j hj ha;simp only [List.all_cons,Bool.and_eq_true] at ha;cases j with
     | zero=>exact zlA X ha.1
     | succ j=>exact ih j (by simpa using hj) ha.2
   have hj':j < (EV.avL (SV.evL (Tup.get tys X) ρ c)).length:=hj;rw [hlen] at hj';exact hget c j hj' h _ _ _ _ _ h1
end
end Go.Ab
