import Derived.Test.YtajabcfngklacaaEv40n11
set_option linter.unusedVariables false
set_option linter.unusedSimpArgs false
namespace Go.Ab
noncomputable section
open Enc (enc)
structure AgrA (acc:Vs×Ids×List Nat) (g:Nat->EV) (cm:Ids) (L:List Nat):Prop where
 vs:∀ p∈acc.1,g p.1=p.2
 ids:∀ i o,look acc.2.1 i=some o->look cm i=some o
 ln:∀ i∈acc.2.2,i∈L
theorem AgrA.mono {a b:Vs×Ids×List Nat} {g:Nat->EV} {cm:Ids} {L:List Nat} (h:AgrA b g cm L) (m:MonoA a b):AgrA a g cm L:=
 ⟨fun p c=>h.vs p (m.vs p c),fun i o d=>h.ids i o (m.ids i o d),fun i e=>h.ln i (m.ln i e)⟩
theorem zph {cm:Ids} {i o:Nat} (h:look cm i=some o):look (toMp cm) i=some (some o):=by rw [zhr,h];rfl
theorem zfn.any {σ:St} {cm:Ids} {L:LN} {x:AV}:zfn σ cm L x .any:=fun _ _ _ _ _ v _ => .any v
theorem hnd_v {s:ESt} {tys:List Ty} {j:Nat} {x:EV} {vs:Vs} {c:Ids} {ln:List Nat} {b:Vs×Ids×List Nat} (h:(match tys[j]? with
   | some t=>match x.as t with
    | some a=>some ((j,EV.d t a)::vs,c,ln)
    | none=>none
   | none=>none)=some b):MonoA (vs,c,ln) b/\∀ g cm L,AgrA b g cm L->zfn s.st cm ⟨L⟩ x.av ((SV.v j).ev g id).av:=by
 split at h
 ·rename_i t i;split at h
  ·rename_i a d;cases h;refine ⟨⟨fun p e=>List.mem_cons_of_mem _ e,fun _ _ h=>h,fun _ h=>h⟩,fun g cm L f => ?_⟩;have:=f.vs (j,.d t a) (by simp);simp only at this;rw [SV.ev,this];exact zfn.conv (zAq d) (zfn.ren zFe)
  ·cases h
 ·cases h
mutual
theorem zCm {s:ESt} {tys:List Ty}:∀ {sv:SV} {x:EV} {acc acc':Vs×Ids×List Nat},zvA (rowG s x)->hnd s tys sv x acc=some acc'->MonoA acc acc'/\∀ g cm L,AgrA acc' g cm L->zfn s.st cm ⟨L⟩ x.av (sv.ev g id).av
 | .v j,x,(vs,ids,ln),acc',hg,h=>by
  by_cases v:(∃ id,x = .own id)\/(∃ t a,x = .d t a)\/∃ f u i,x = .row f u i
  ·rcases v with ⟨B,rfl⟩ | ⟨t,a,rfl⟩ | ⟨f,u,i,rfl⟩
   ·simp only [hnd] at h;split at h
    ·rename_i E t l z;cases h;refine ⟨⟨fun p d=>List.mem_cons_of_mem _ d,fun _ _ h=>h,fun _ h=>List.mem_cons_of_mem _ h⟩,fun g cm L c => ?_⟩;have:=c.vs (j,.d (.list t) l) (by simp);simp only at this;rw [SV.ev,this];exact zfn.lend (zbw z) (LN.mem (c.ln B (by simp)))
    ·rename_i f E z;split at h
     ·rename_i r C;cases h;refine ⟨⟨fun p d=>List.mem_cons_of_mem _ d,fun _ _ h=>h,fun _ h=>List.mem_cons_of_mem _ (List.mem_cons_of_mem _ h)⟩,fun g cm L c => ?_⟩;have:=c.vs (j,.d (.list (.list r.t)) r.l) (by simp);simp only at this;rw [SV.ev,this];exact zxe z C (LN.mem (c.ln B (by simp))) (c.ln f (by simp))
     ·cases h
    ·cases h
   ·simp only [hnd,Option.some.injEq] at h;subst h;refine ⟨⟨fun p d=>List.mem_cons_of_mem _ d,fun _ _ h=>h,fun _ h=>h⟩,fun g cm L c => ?_⟩;have:=c.vs (j,.d t a) (by simp);simp only at this;rw [SV.ev,this];exact zfn.ren zFe
   ·simp only [hnd] at h;split at h
    ·rename_i r C;cases h;refine ⟨⟨fun p d=>List.mem_cons_of_mem _ d,fun _ _ h=>h,fun _ h=>List.mem_cons_of_mem _ h⟩,fun g cm L c => ?_⟩;have:=c.vs (j,.d (.list r.t) (r.l.getD i [])) (by simp);simp only at this;rw [SV.ev,this];have q:i < r.l.length:=hg (i,r.l.length) (by simp only [rowG,C];simp);obtain ⟨e,n,w,y⟩:=zuI C;exact zfn.lend (zBN n w e (by rw [y];simp) q) (.inr ⟨zdX f i,by rw [ze1 w];exact c.ln f (by simp)⟩)
    ·cases h
  ·refine hnd_v (tys:=tys) (j:=j) ?_;cases x<;>first | exact h | exact absurd (.inl ⟨_,rfl⟩) v | exact absurd (.inr (.inl ⟨_,_,rfl⟩)) v | exact absurd (.inr (.inr ⟨_,_,_,rfl⟩)) v
 | .own i,x,(vs,ids,ln),acc',hg,h=>by
  cases x<;>simp only [hnd,reduceCtorEq] at h
  case own o=>
   split at h
   ·rename_i A q;cases h;obtain ⟨e,n⟩:=zkF q;exact ⟨⟨fun _ h=>h,n,fun _ h=>h⟩,fun g cm L c=>zfn.ren (zyB (zph (c.ids i o e)))⟩
   ·cases h
 | .ptr i a,x,(vs,ids,ln),acc',hg,h=>by
  cases x<;>simp only [hnd,reduceCtorEq] at h
  case ptr o b=>
   have D:=(zad h).1;replace h:=(zad h).2;have:=Nat.eq_of_beq_eq_true D;subst this;split at h
   ·rename_i A q;cases h;obtain ⟨e,n⟩:=zkF q;exact ⟨⟨fun _ h=>h,n,fun _ h=>h⟩,fun g cm L c=>zfn.ren (zyC (zph (c.ids i o e)))⟩
   ·cases h
 | .addr j,x,(vs,ids,ln),acc',hg,h=>by
  by_cases v:(∃ t a,x = .addr t a)\/∃ o,x = .ptr o 0
  ·rcases v with ⟨t,a,rfl⟩ | ⟨o,rfl⟩
   ·simp only [hnd,Option.some.injEq] at h;subst h;refine ⟨⟨fun p d=>List.mem_cons_of_mem _ d,fun _ _ h=>h,fun _ h=>h⟩,fun g cm L c => ?_⟩;have:=c.vs (j,.d t a) (by simp);simp only at this;rw [SV.ev,this];exact zfn.ren zCH
   ·simp only [hnd] at h;split at h
    ·rename_i T cs z;split at h
     ·rename_i t I;split at h
      ·rename_i a H d;cases h;have F:=zqS d;refine ⟨⟨fun p d=>List.mem_cons_of_mem _ d,fun _ _ h=>h,fun i q=>F i (List.mem_cons_of_mem _ q)⟩,fun g cm L c => ?_⟩;have:=c.vs (j,.d t a) (by simp);simp only at this;rw [SV.ev,this];obtain ⟨l1,e,n⟩:=zww d L c.ln;rw [List.append_nil] at e;subst e;obtain ⟨w,y⟩:=n.get;exact zfn.lendBox (zbw z) (LN.mem (c.ln o (F o (by simp)))) w y
      ·cases h
     ·cases h
    ·cases h
  ·exfalso;cases x with
   | ptr o k=>
    cases k with
    | zero=>exact v (.inr ⟨o,rfl⟩)
    | succ k=>simp only [hnd,reduceCtorEq] at h
   | addr t a=>exact v (.inl ⟨t,a,rfl⟩)
   | _=>simp only [hnd,reduceCtorEq] at h
 | .fn f l,x,acc,acc',hg,h=>by
  cases x<;>simp only [hnd,reduceCtorEq] at h
  case fn g' m=>
   have D:=(zad h).1;replace h:=(zad h).2;have:=Nat.eq_of_beq_eq_true D;subst this;obtain ⟨e,n⟩:=zon (by simpa only [rowG] using hg) h;refine ⟨e,fun g cm L c => ?_⟩;rw [SV.ev];obtain ⟨w,y⟩:=(n g cm L c).rel;exact zfn.fn w fun i q=>y i (by omega)
 | .agg l,x,acc,acc',hg,h=>by
  cases x<;>simp only [hnd,reduceCtorEq] at h
  case agg m=>
   obtain ⟨e,n⟩:=zon (by simpa only [rowG] using hg) h;refine ⟨e,fun g cm L c => ?_⟩;rw [SV.ev];obtain ⟨w,y⟩:=(n g cm L c).rel;exact zfn.agg w fun i q=>y i (by omega)
 | .nil,x,acc,acc',hg,h=>by
  cases x<;>simp only [hnd,reduceCtorEq,Option.some.injEq] at h
  case nil=>subst h;exact ⟨MonoA.refl _,fun _ _ _ _=>zfn.ren rfl⟩
 | .any,x,acc,acc',hg,h=>by
  have:some acc=some acc':=by cases x<;>exact h
  cases this;exact ⟨MonoA.refl _,fun _ _ _ _=>zfn.any⟩
theorem zon {s:ESt} {tys:List Ty}:∀ {l:List SV} {m:List EV} {acc acc':Vs×Ids×List Nat},zvA (zu2 s m)->hndL s tys l m acc=some acc'->MonoA acc acc'/\∀ g cm L,AgrA acc' g cm L->ztp s.st cm ⟨L⟩ (EV.avL m) (EV.avL (SV.evL g id l))
 | [],m,acc,acc',hg,h=>by
  cases m<;>simp only [hndL,reduceCtorEq,Option.some.injEq] at h;subst h;exact ⟨MonoA.refl _,fun _ _ _ _=>rfl⟩
 | x::l,m,acc,acc',hg,h=>by
  cases m<;>simp only [hndL,reduceCtorEq] at h;rename_i y m;split at h
  ·rename_i d f;have a:zvA (rowG s y++zu2 s m):=by simpa only [zu2] using hg
   obtain ⟨i,j⟩:=zCm (fun p b=>a p (List.mem_append_left _ b)) f;obtain ⟨e,k⟩:=zon (fun p b=>a p (List.mem_append_right _ b)) h;refine ⟨i.trans e,fun g cm L c => ?_⟩;rw [SV.evL,EV.avL,EV.avL];exact ⟨j g cm L (c.mono e),k g cm L c⟩
  ·cases h
end
def Ty.flat:Ty->Bool
 | .list _=>false
 | .tree _=>false
 | .pair a b=>a.flat && b.flat
 | _=>true
theorem zkI:∀ {t:Ty},t.flat=true->∀ (x:t.den),∀ c∈(encD t x).cells,∃ v,c = .lit v
 | .int _,_,_,c,hc=>by have:c=_:=List.mem_singleton.1 hc;exact ⟨_,this⟩
 | .bool,_,_,c,hc=>by have:c=_:=List.mem_singleton.1 hc;exact ⟨_,this⟩
 | .str,_,_,c,hc=>by have:c=_:=List.mem_singleton.1 hc;exact ⟨_,this⟩
 | .list _,h,_,_,_=>by cases h
 | .tree _,h,_,_,_=>by cases h
 | .unit,_,_,c,hc=>by cases hc
 | .pair a b,h,x,c,hc=>by
  simp only [Ty.flat,Bool.and_eq_true] at h;rcases List.mem_append.1 hc with hc | hc
  ·exact zkI h.1 x.1 c hc
  ·exact zkI h.2 x.2 c hc
theorem zwn {w:World} {S S':Nat->Prop} {v:Value} {u:Value} (h:DRel w S (.lit v) u):DRel w S' (.lit v) u:=by
 cases h with
 | lit _ h=>exact .lit _ h
theorem zCi {t:Ty} (h:t.flat=true) (x:t.den) {w:World} {S S':Nat->Prop} {v:Value} (a:DRel w S (encD t x) v):DRel w S' (encD t x) v:=by
 have b:=zkI h x;cases f:t.agg with
 | false=>
  rw [ziq f] at b;obtain ⟨u,d⟩:=b (encD t x) (by simp);rw [d] at a ⊢;exact zwn a
 | true=>
  rw [zfi f] at a ⊢;generalize (encD t x).cells=l at b a;cases a with
  | agg _ cs hs g=>
   refine .agg l cs hs fun i c => ?_
   obtain ⟨u,d⟩:=b l[i] (List.getElem_mem c);have e:l.getD i default = .lit u:=by rw [<- d];simp [List.getD_eq_getElem?_getD,c]
   have:=g i c;rw [e] at this ⊢;exact zwn this
def zsG (tys:List Ty):SV->Bool
 | .v j=>match tys[j]? with
  | some t=>t.flat
  | none=>false
 | .own _=>true
 | .ptr _ _=>true
 | .nil=>true
 | .any=>true
 | _=>false
def zvC (tys:List Ty):SE->Bool
 | .arr _ j=>match tys[j]? with
  | some (.list t)=>t.flat
  | _=>false
 | .box _ c=>c.all (zsG tys)
 | .out _ _ _ j=>match tys[j]? with
  | some (.list (.list t))=>t.flat
  | _=>false
theorem zij:∀ {ts:List Ty} (X:Tup ts) {j:Nat} {t:Ty},ts[j]? =some t->∃ x:t.den,Tup.get ts X j = .d t x
 | [],_,_,_,h=>by simp at h
 | [u],X,0,t,h=>by simp at h;subst h;exact ⟨X,rfl⟩
 | [_],_,_+1,_,h=>by simp at h
 | u::v::r,X,0,t,h=>by simp at h;subst h;exact ⟨X.1,rfl⟩
 | u::v::r,X,j+1,t,h=>zij (ts:=v::r) X.2 (by simpa using h)
theorem zuz {tys:List Ty} (X:Tup tys) {ρ:Nat->Nat} {c:SV} (h:zsG tys c=true):zAm (c.ev (Tup.get tys X) ρ).av:=by
 cases c with
 | v j=>
  simp only [zsG] at h;split at h
  ·rename_i t e;obtain ⟨x,f⟩:=zij X e;rw [SV.ev,f];intro w S S' H v a;cases a with
   | d _ _ g=>exact .d _ _ (zCi h x g)
  ·cases h
 | own id=>intro w S S' H v a;cases a with | own _ _ h hs=>exact .own _ _ h hs
 | ptr id off=>intro w S S' H v a;cases a with | ptr _ _ b h=>exact .ptr _ _ b h
 | nil=>intro w S S' H v a;cases a;exact .nil
 | any=>intro w S S' H v a;exact .any v
 | _=>cases h
theorem zBS {tys:List Ty} (X:Tup tys) {ρ:Nat->Nat} {c:SV} {b:Nat} {l:List D} (h:zsG tys c=true) (a:(c.ev (Tup.get tys X) ρ).av = .d (.sl b l)):False:=by
 cases c with
 | v j=>
  simp only [zsG] at h;split at h
  ·rename_i t d;obtain ⟨x,e⟩:=zij X d;rw [SV.ev,e] at a;have a:AV.d (encD t x) = .d (.sl b l):=a;injection a with a
   obtain ⟨u,f⟩:=zkI h x (.sl b l) (by rw [a];simp [D.cells]);cases f
  ·cases h
 | own id=>cases a
 | ptr id off=>cases a
 | nil=>cases a
 | any=>cases a
 | _=>cases h
theorem zDh {t:Ty} (h:t.flat=true) (E:Nat) (x:List t.den):zwK (Ent.arrOf E x):=by
 intro w S S' H v n;cases n with
 | arr _ _ _ _ _ xs j c k l d=>
  refine .arr _ _ _ _ _ xs j c k l fun i m e b => ?_
  have f:=d i m e b;have g:i < x.length:=by simpa using m
  have o:(x.map (enc:t.den->D)).getD i default=encD t x[i]:=by simp [List.getD_eq_getElem?_getD,g,zAN]
  rw [o] at f ⊢;have a:e < (encD t x[i]).cells.length:=by rw [zbg];exact b
  obtain ⟨u,q⟩:=zkI h x[i] (encD t x[i]).cells[e] (List.getElem_mem a);have p:(encD t x[i]).cells.getD e default = .lit u:=by rw [<- q];simp [List.getD_eq_getElem?_getD,a]
  rw [p] at f ⊢;exact zwn f
theorem zyG {tys:List Ty} (X:Tup tys) {ρ:Nat->Nat} {l:List (Nat×SE)} (h:l.all (fun p=>zvC tys p.2)=true) {k:Nat} {e:Ent} (a:zbi (zdY (Tup.get tys X) ρ l) k=some e):zwK e:=by
 unfold zbi at a;split at a
 ·split at a
  ·rename_i r d;have c:=zaN d;unfold zdY at c;obtain ⟨⟨i,m⟩,hp,b⟩:=List.mem_filterMap.1 c;have hs:=List.all_eq_true.1 h _ hp;cases m with
   | arr=>cases b
   | box=>cases b
   | out f E E1 j=>
    simp only [zvC] at hs;split at hs
    ·rename_i t g;obtain ⟨x,n⟩:=zij X g;simp only [SE.rw,n,Option.some.injEq,Prod.mk.injEq] at b;obtain ⟨_,b⟩:=b;cases b;unfold RW.ent at a;simp only at a;rw [if_neg (by simp)] at a;obtain ⟨y,_,rfl⟩:=Option.map_eq_some_iff.1 a;exact zDh hs _ _
    ·cases hs
  ·cases a
 ·cases a
theorem zyH {tys:List Ty} (X:Tup tys) {ρ:Nat->Nat} {y:SE} {e:EEnt} (h:zvC tys y=true) (n:y.ee (Tup.get tys X) ρ=some e) (rs:List (Nat×Option RW)):zwK (e.ent rs):=by
 cases y with
 | out f E E1 j=>
  rw [SE.ee] at n;split at n
  ·cases n;intro w S S' H v q;cases q with
   | out _ _ _ _ xs l p d=>
    refine .out _ _ _ _ xs l p fun j m => ?_
    have o:=d j m;have g:j < rlen rs (ρ f):=by simpa [famA] using m
    have A:(famA (ρ f) (rlen rs (ρ f))).getD j default = .own (rid (ρ f) j):=by simp [famA,List.getD_eq_getElem?_getD,g]
    rw [A] at o ⊢;cases o with | own _ _ h hs=>exact .own _ _ h hs
  ·cases n
 | arr E j=>
  simp only [zvC] at h;split at h
  ·rename_i t M;obtain ⟨x,O⟩:=zij X M;rw [SE.ee,O] at n;cases n;intro w S S' H v q;cases q with
   | arr _ _ _ _ _ xs C l p a d=>
    refine .arr _ _ _ _ _ xs C l p a fun i L s g => ?_
    have o:=d i L s g;have B:i < x.length:=by simpa using L
    have A:(x.map (enc:t.den->D)).getD i default=encD t x[i]:=by simp [List.getD_eq_getElem?_getD,B,zAN]
    rw [A] at o ⊢;have k:s < (encD t x[i]).cells.length:=by rw [zbg];exact g
    obtain ⟨u,P⟩:=zkI h x[i] (encD t x[i]).cells[s] (List.getElem_mem k);have N:(encD t x[i]).cells.getD s default = .lit u:=by rw [<- P];simp [List.getD_eq_getElem?_getD,k]
    rw [N] at o ⊢;exact zwn o
  ·cases h
 | box T c=>
  rw [SE.ee] at n;cases n;simp only [zvC] at h;intro w S S' H v q;generalize a:EEnt.ent rs (EEnt.box T (SV.evL (Tup.get tys X) ρ c))=e at q ⊢;cases q with
  | arr=>cases a
  | out=>cases a
  | mp Q V W ks vs b Y F=>
   exfalso;injection a with hT a
   cases c with
   | nil=>cases a
   | cons x c=>
    rw [SV.evL,EV.avL] at a;injection a with h0 _
    simp only [List.all_cons,Bool.and_eq_true] at h;exact zBS X h.1 h0
  | box Q R b I U hs d=>
   cases a;refine .box _ _ b I U hs fun j m => ?_
   have o:=d j m;have k:∀ c:List SV,(EV.avL (SV.evL (Tup.get tys X) ρ c)).length=c.length:=by
    intro c;induction c with
    | nil=>rfl
    | cons x c J=>rw [SV.evL,EV.avL,List.length_cons,J];rfl
   have r:∀ (c:List SV) (j:Nat),j < c.length->c.all (zsG tys)=true->zAm ((EV.avL (SV.evL (Tup.get tys X) ρ c)).getD j default):=by
    intro c;induction c with
    | nil=>intro j m;simp at m
    | cons x c J=>
     intro j m z;simp only [List.all_cons,Bool.and_eq_true] at z;cases j with
     | zero=>exact zuz X z.1
     | succ j=>exact J j (by simpa using m) z.2
   have g:j < (EV.avL (SV.evL (Tup.get tys X) ρ c)).length:=m;rw [k] at g;exact r c j g h _ _ _ _ _ o
end
end Go.Ab
