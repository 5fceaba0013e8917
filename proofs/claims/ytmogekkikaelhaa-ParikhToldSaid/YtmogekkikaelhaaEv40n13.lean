import Derived.Test.YtmogekkikaelhaaEv40n12
set_option linter.unusedVariables false
set_option linter.unusedSimpArgs false
set_option linter.unusedSectionVars false
namespace Go.Ab
noncomputable section
open Enc (enc)
variable {R:Type}
theorem zho {β:Type}:∀ {l:List (Nat×β)} {p:Nat×β},za0 (l.map (·.1))=true->p∈l->look l p.1=some p.2
 | (k,v)::r,p,h,hp=>by
  have hn:=zee h;rw [List.map_cons,List.nodup_cons] at hn;rw [zae];rcases List.mem_cons.1 hp with rfl | hp
  ·rw [if_pos rfl]
  ·have:k≠p.1:=fun e=>hn.1 (List.mem_map.2 ⟨p,hp,e.symm⟩)
   rw [if_neg this];simp only [List.map_cons,za0,Bool.and_eq_true] at h;exact zho h.2 hp
def finV (tys:List Ty) (vs:Vs):Option (Tup tys):=bif za0 (vs.map (·.1)) && vs.all (fun p=>Nat.blt p.1 tys.length) then Tup.mk? tys (look vs) 0 else none
theorem ziz {tys:List Ty} {vs:Vs} {X:Tup tys} (h:finV tys vs=some X):∀ p∈vs,Tup.get tys X p.1=p.2:=by
 unfold finV at h;have hb:=(zaa h).1;replace h:=(zaa h).2;simp only [Bool.and_eq_true] at hb;intro p hp;have h1:=zho hb.1 hp;have h2:p.1 < tys.length:=by simpa using List.all_eq_true.1 hb.2 p hp
 have h3:=mk?_spec h p.1 h2;rw [Nat.zero_add,h1] at h3;exact (Option.some.inj h3).symm
mutual
def zoh (ks:List Nat):SV->Bool
 | .own i=>ks.contains i
 | .ptr i _=>ks.contains i
 | .fn _ c=>zmm ks c
 | .agg c=>zmm ks c
 | _=>true
def zmm (ks:List Nat):List SV->Bool
 | []=>true
 | x::r=>zoh ks x && zmm ks r
end
def zqA (tys:List Ty) (ks:List Nat):SE->Bool
 | .arr _ j=>match tys[j]? with
  | some (.list _)=>true
  | _=>false
 | .box _ c=>zmm ks c
 | .out f _ _ j=>ks.contains f && (match tys[j]? with
  | some (.list (.list _))=>true
  | _=>false)
def fams (l:List (Nat×SE)):List Nat:=l.filterMap fun p=>match p.2 with
 | .out f _ _ _=>some f
 | _=>none
def zfQ (sh:Shape):List Nat:=sh.ents.map (·.1)++fams sh.ents
def rho (nxt:Nat) (ids:Ids) (i:Nat):Nat:=bif Nat.ble LIM i then (match look ids i with
 | some o=>o
 | none=>0) else nxt+i
def zuA (l:List Nat):Nat:=(l.filter fun i=>Nat.blt i LIM).foldl (fun a i=>max a (i+1)) 0
def ze3 (out:Shape) (ρ:Nat->Nat):List (Nat×Option Nat):=(zfQ out).map fun i=>(ρ i,some i)
def zrZ (out:Shape) (nxt:Nat) (ids:Ids):Bool:=
 let ks:=zfQ out
 let mp:=ze3 out (rho nxt ids)
 zlW ids nxt (nxt+zuA ks) mp && za0 (mp.map (·.1)) && za0 ks && out.slots.all (fun p=>zoh ks p.2) && out.ents.all (fun p=>zqA out.tys ks p.2) && ks.all (fun k=>Nat.blt k RB) && mp.all (fun p=>Nat.blt p.1 RB)
def inOK (c:CE) (ids:Ids) (ln:List Nat):Bool:=
 cmOK ids && ids.all (fun p => !(ln.contains p.2)) && ln.all (fun i=>Nat.blt i RB) && za0 (c.sig.ents.map (·.1)) &&
  (ln.isEmpty || (c.out.slots.all (fun p=>zj0 c.out.tys p.2) && c.out.ents.all (fun p=>zmk c.out.tys p.2)))
def znU (s:ESt) (out:Shape) (ids:Ids):Bool:=
 s.low && s.heap.all fun p=>match p.2 with
  | some (.out f _)=>(ids.map (·.2)).contains p.1 || !(((fams out.ents).map (rho s.nxt ids)++ids.map (·.2)).contains f)
  | _=>true
def zkK (s:ESt) (c:CE) (ids:Ids) (d:Nat) (Y:Tup c.out.tys):ESt:=
 ⟨s.n,(d,retE (c.out.slots.map fun p=>p.2.ev (Tup.get c.out.tys Y) (rho s.nxt ids)))::s.slots,
  zcG (Tup.get c.out.tys Y) (rho s.nxt ids) c.out.ents++(ids.map fun p=>(p.2,none))++s.heap,s.nxt+zuA (zfQ c.out),
  zbr (Tup.get c.out.tys Y) (rho s.nxt ids) c.out.ents++(ids.map fun p=>(p.2,none))++s.rws⟩
def zfH (s:ESt) (c:CE) (vals:List EV) (d:Nat) (K:ESt->Option R):Option (Option R):=
 match hndL s c.sig.tys (c.sig.slots.map (·.2)) vals ([],[],[]) with
 | none=>none
 | some (vs,ids,ln)=>match mchE s c.sig.ents (vs,ids) with
  | none=>none
  | some (vs,ids)=>match finV c.sig.tys vs with
   | none=>none
   | some X=>bif inOK c ids ln && zrZ c.out s.nxt ids && znU s c.out ids then some ((c.den X).bind fun Y=>K (zkK s c ids d Y)) else none
theorem zqn {g:Nat->EV} {ρ:Nat->Nat}:∀ {l:List (Nat×SE)} {p:Nat×SE},za0 (l.map fun p=>ρ p.1)=true->p∈l->look (zcG g ρ l) (ρ p.1)=some (p.2.ee g ρ)
 | l,p,h,hp=>by
  have:look (zcG g ρ l) ((ρ p.1,p.2.ee g ρ):Nat×Option EEnt).1=some ((ρ p.1,p.2.ee g ρ):Nat×Option EEnt).2:=zho (by
   have:(zcG g ρ l).map (·.1)=l.map fun p=>ρ p.1:=by unfold zcG;rw [List.map_map];rfl
   rw [this];exact h) (List.mem_map.2 ⟨p,hp,rfl⟩)
  exact this
theorem zjy {tys:List Ty} {ks:List Nat} {se:SE} (X:Tup tys) (ρ:Nat->Nat) (h:zqA tys ks se=true):∃ e,se.ee (Tup.get tys X) ρ=some e:=by
 cases se with
 | arr E j=>
  simp only [zqA] at h;split at h
  ·rename_i t ht;obtain ⟨x,hx⟩:=zcK X ht;exact ⟨.arr E t x,by rw [SE.ee,hx]⟩
  ·cases h
 | box T c=>exact ⟨_,rfl⟩
 | out f E E1 j=>
  simp only [zqA,Bool.and_eq_true] at h;obtain ⟨_,h⟩:=h;split at h
  ·rename_i t ht;obtain ⟨x,hx⟩:=zcK X ht;exact ⟨.out (ρ f) E,by rw [SE.ee,hx]⟩
  ·cases h
theorem zcX {g:Nat->EV} {ρ:Nat->Nat}:∀ {l:List (Nat×SE)} {i f E E1 j:Nat} {t:Ty} {x:List (List t.den)},za0 ((fams l).map ρ)=true->(i,SE.out f E E1 j)∈l->g j = .d (.list (.list t)) x->look (zbr g ρ l) (ρ f)=some (some ⟨E1,t,x,none⟩)
 | y::l,i,f,E,E1,j,t,x,hn,hp,hg=>by
  have hk:∀ {l:List (Nat×SE)} {k:Nat} {q:Option RW},look (zbr g ρ l) k=some q->k∈(fams l).map ρ:=by
   intro l k q h;have hm:=zak h;unfold zbr at hm;obtain ⟨⟨i,se⟩,hp,hr⟩:=List.mem_filterMap.1 hm;cases se with
   | arr=>cases hr
   | box=>cases hr
   | out f2 E E1 j=>
    simp only [SE.rw] at hr;split at hr
    ·cases hr;refine List.mem_map.2 ⟨f2,List.mem_filterMap.2 ⟨_,hp,rfl⟩,rfl⟩
    ·cases hr
  rcases List.mem_cons.1 hp with rfl | hp2
  ·unfold zbr;rw [List.filterMap_cons];simp only [SE.rw,hg];rw [zae,if_pos rfl]
  ·have hfm:f∈fams l:=List.mem_filterMap.2 ⟨_,hp2,rfl⟩;unfold zbr;rw [List.filterMap_cons];obtain ⟨yi,yse⟩:=y;cases yse with
   | arr=>simp only [SE.rw];exact zcX (by simpa [fams] using hn) hp2 hg
   | box=>simp only [SE.rw];exact zcX (by simpa [fams] using hn) hp2 hg
   | out f2 E2 E3 j2=>
    have hn':=zee hn;have e:fams ((yi,SE.out f2 E2 E3 j2)::l)=f2::fams l:=rfl;rw [e,List.map_cons,List.nodup_cons] at hn';have hne:ρ f2≠ρ f:=fun h=>hn'.1 (List.mem_map.2 ⟨f,hfm,h.symm⟩)
    have hn2:za0 ((fams l).map ρ)=true:=by
     rw [e,List.map_cons] at hn;simp only [za0,Bool.and_eq_true] at hn;exact hn.2
    have ih:=zcX hn2 hp2 hg;unfold zbr at ih;simp only [SE.rw];split
    ·rename_i z hz;split at hz
     ·exact ih
     ·exact ih
    ·rename_i z hz;split at hz
     ·cases hz;rw [zae,if_neg hne];exact ih
     ·cases hz
theorem zhw {rs:List (Nat×Option RW)} {k:Nat} {e:Ent} (h:zar rs k=some e):∃ E,∃ t:Ty,∃ l:List t.den,e=Ent.arrOf E l:=by
 unfold zar at h;split at h
 ·split at h
  ·rename_i r _;unfold RW.ent at h;split at h
   ·cases h
   ·obtain ⟨l,_,rfl⟩:=Option.map_eq_some_iff.1 h;exact ⟨r.E,r.t,l,rfl⟩
  ·cases h
 ·cases h
theorem zi8 {rs:List (Nat×Option RW)} {k:Nat} {e:Ent} (h:zar rs k=some e):RB<=k:=by
 unfold zar at h;split at h
 ·assumption
 ·cases h
mutual
theorem zoi {ks:List Nat} {mp:List (Nat×Option Nat)} {ρ:Nat->Nat} (hm:∀ i∈ks,look mp (ρ i)=some (some i)) {ts:List Ty} (X:Tup ts):∀ {sv:SV},zoh ks sv=true->ren false mp (sv.ev (Tup.get ts X) ρ).av=some (sv.ev (Tup.get ts X) id).av
 | .v j,_=>by
  rw [SV.ev,SV.ev];have:∀ (ts:List Ty) (X:Tup ts) (j:Nat),(∃ t x,Tup.get ts X j = .d t x)\/Tup.get ts X j = .any:=by
   intro ts X j;cases h:ts[j]? with
   | some t=>obtain ⟨x,hx⟩:=zcK X h;exact .inl ⟨t,x,hx⟩
   | none=>
    right;clear hm;induction ts generalizing j with
    | nil=>rfl
    | cons u r ih=>
     cases r with
     | nil=>cases j with
      | zero=>simp at h
      | succ j=>rfl
     | cons v r=>cases j with
      | zero=>simp at h
      | succ j=>exact ih X.2 j (by simpa using h)
  rcases this ts X j with ⟨t,x,hx⟩ | hx<;>rw [hx]<;>rfl
 | .own i,h=>by
  simp only [zoh] at h;exact zo9 (hm i (by simpa using h))
 | .ptr i k,h=>by
  simp only [zoh] at h;exact zpa (hm i (by simpa using h))
 | .addr j,_=>by
  rw [SV.ev,SV.ev];cases Tup.get ts X j<;>rfl
 | .fn f c,h=>by
  simp only [zoh] at h;rw [SV.ev,SV.ev];exact zr7 (zhy hm X h)
 | .agg c,h=>by
  simp only [zoh] at h;rw [SV.ev,SV.ev];exact zpU (zhy hm X h)
 | .nil,_=>rfl
 | .any,_=>rfl
theorem zhy {ks:List Nat} {mp:List (Nat×Option Nat)} {ρ:Nat->Nat} (hm:∀ i∈ks,look mp (ρ i)=some (some i)) {ts:List Ty} (X:Tup ts):∀ {l:List SV},zmm ks l=true->renL false mp (EV.avL (SV.evL (Tup.get ts X) ρ l))=some (EV.avL (SV.evL (Tup.get ts X) id l))
 | [],_=>rfl
 | x::r,h=>by
  simp only [zmm,Bool.and_eq_true] at h;rw [SV.evL,SV.evL,EV.avL,EV.avL,renL,zoi hm X h.1,zhy hm X h.2]
end
theorem zoa {ks:List Nat} {mp:List (Nat×Option Nat)} {ρ:Nat->Nat} (hm:∀ i∈ks,look mp (ρ i)=some (some i)) {ts:List Ty} (X:Tup ts):∀ {l:List (Nat×SV)},l.all (fun p=>zoh ks p.2)=true->
  renL false mp (EV.avL (l.map fun p=>p.2.ev (Tup.get ts X) ρ))=some (EV.avL (l.map fun p=>p.2.ev (Tup.get ts X) id))
 | [],_=>rfl
 | p::l,h=>by
  simp only [List.all_cons,Bool.and_eq_true] at h;rw [List.map_cons,List.map_cons,EV.avL,EV.avL,renL,zoi hm X h.1,zoa hm X h.2]
theorem zt9 {mp:List (Nat×Option Nat)} {l m:List EV} (h:renL false mp (EV.avL l)=some (EV.avL m)):ren false mp (retE l).av=some (retE m).av:=by
 have hl:=(zdw h).1;rw [zb2,zb2] at hl
 match l,m,hl with
 | [],[],_=>rfl
 | [x],[y],_=>
  show ren false mp x.av=some y.av;cases hx:ren false mp x.av with
  | none=>simp [EV.avL,renL,hx] at h
  | some z=>simp [EV.avL,renL,hx] at h;rw [h]
 | x::y::r,x'::y'::r',_=>
  show ren false mp (.tup (EV.avL (x::y::r)))=some (.tup (EV.avL (x'::y'::r')));simp only [ren,h]
section
variable {P:Program} {F:Fr} {s:ESt} {o:Oper} {K:ESt->Option R} {q:R}
theorem zk9 {cm:Ids} {g:Nat->EV} {l:List (Nat×SE)} (hlow:s.low=true) (hcm:CmOK cm) {acc acc':Vs×Ids} (h:mchE s l acc=some acc') (ha:Agr acc' g false (toMp cm)) (hids:acc'.2=cm) (hn:za0 (l.map (·.1))=true):
  zhj cm s.st (hpSt (zcG g id l) (zbr g id l)):=by
 have hk:∀ k q,look (toMp cm) k=some q->k < RB:=fun k q hq=>by
  rw [zcn] at hq;cases hl:look cm k with
  | none=>rw [hl] at hq;cases hq
  | some o=>exact (hcm.key k o hl).2.1
 intro k e' he;unfold hpSt at he;split at he
 ·rename_i q hq;obtain ⟨p,hp,hpe⟩:=List.mem_map.1 (zak hq);obtain ⟨o,e,e0,h1,h2,h3,h4⟩:=zfm h g false (toMp cm) ha hk p hp;cases hpe;rw [h3] at he;cases he;refine ⟨o,e.ent s.rws,zti (by rw [<- hids];exact h1),zat h2,h4 _ fun f E E1 j f' hpo hf => ?_⟩;obtain ⟨pi,pse⟩:=p;cases hpo;exact zrQ h ha hp hf
 ·obtain ⟨f,f',x,rfl,h1,h2,h3,h4⟩:=zsK h ha he;refine ⟨rid f' x,e',zpJ (zlh h2 ?_ (by rw [zcn,<- hids,h1];rfl)),by rw [zgd hlow (zaP _ _)];exact h4,?_⟩
  ·cases hl:look (toMp cm) (rid f x) with
   | none=>rfl
   | some q=>have:=hk _ q hl;have:=zaP f x;omega
  ·obtain ⟨E,t,l',rfl⟩:=zhw h4;rfl
theorem zbg {β:Type} {l:List (Nat×β)} {k:Nat} (h:∀ p∈l,p.1≠k):look l k=none:=by
 cases hl:look l k with
 | none=>rfl
 | some v=>exact absurd rfl (h _ (zak hl))
theorem zhW {out:Shape} {ρ:Nat->Nat} (hn:za0 ((ze3 out ρ).map (·.1))=true):∀ i∈zfQ out,look (ze3 out ρ) (ρ i)=some (some i):=fun i hi=>
 zho (p:=(ρ i,some i)) hn (List.mem_map.2 ⟨i,hi,rfl⟩)
theorem ziy {l:List (Nat×SE)} {i f E E1 j:Nat} (h:(i,SE.out f E E1 j)∈l):f∈fams l:=List.mem_filterMap.2 ⟨_,h,rfl⟩
theorem zgR:∀ {a b:List Nat},za0 (a++b)=true->za0 b=true
 | [],b,h=>h
 | x::a,b,h=>by
  rw [List.cons_append] at h;simp only [za0,Bool.and_eq_true] at h;exact zgR h.2
theorem zlm:∀ {a b:List Nat},za0 (a++b)=true->za0 a=true
 | [],b,h=>rfl
 | x::a,b,h=>by
  rw [List.cons_append] at h;simp only [za0,Bool.and_eq_true,Bool.not_eq_true'] at h ⊢;refine ⟨?_,zlm h.2⟩;have:=h.1;rw [List.contains_eq_mem] at this ⊢;simp only [List.mem_append,decide_eq_false_iff_not,not_or] at this ⊢;exact this.1
theorem zov {out:Shape} {ρ:Nat->Nat} (Y:Tup out.tys) (hmk:za0 ((ze3 out ρ).map (·.1))=true) (hkn:za0 (zfQ out)=true) (hse:out.ents.all (fun p=>zqA out.tys (zfQ out) p.2)=true)
  (hlow:(zfQ out).all (fun k=>Nat.blt k RB)=true) (hlow':(ze3 out ρ).all (fun p=>Nat.blt p.1 RB)=true):
  zkm (ze3 out ρ) (hpSt (out.heap Y) (out.rws Y)) (hpSt (zcG (Tup.get out.tys Y) ρ out.ents) (zbr (Tup.get out.tys Y) ρ out.ents)):=by
 have hmp:=zhW hmk;have hkeys:∀ k q,look (ze3 out ρ) k=some q->k < RB:=fun k q hq=>by simpa using List.all_eq_true.1 hlow' (k,q) (zak hq)
 have hks:∀ k∈zfQ out,k < RB:=fun k hk=>by simpa using List.all_eq_true.1 hlow k hk
 have hfn:za0 ((fams out.ents).map id)=true:=by rw [List.map_id];exact zgR hkn
 have hfr:za0 ((fams out.ents).map ρ)=true:=by
  have e:(ze3 out ρ).map (·.1)=out.ents.map (fun p=>ρ p.1)++(fams out.ents).map ρ:=by
   unfold ze3 zfQ;rw [List.map_map,List.map_append,List.map_map];rfl
  rw [e] at hmk;exact zgR hmk
 have hen:za0 (out.ents.map fun p=>id p.1)=true:=zlm hkn;have hget:∀ {p:Nat×SE} {f E E1 j:Nat} {t:Ty} {x:List (List t.den)},p∈out.ents->p.2 = .out f E E1 j->Tup.get out.tys Y j = .d (.list (.list t)) x->
   look (zbr (Tup.get out.tys Y) ρ out.ents) (ρ f)=some (some ⟨E1,t,x,none⟩)/\look (zbr (Tup.get out.tys Y) id out.ents) f=some (some ⟨E1,t,x,none⟩):=by
  intro p f E E1 j t x hp hpe hg;obtain ⟨pi,pse⟩:=p;cases hpe;exact ⟨zcX hfr hp hg,zcX (ρ:=id) hfn hp hg⟩
 intro k e'' he;unfold hpSt at he;split at he
 ·rename_i q hq;obtain ⟨p,hp,hpe⟩:=List.mem_map.1 (zak hq);have hs:=List.all_eq_true.1 hse p hp;obtain ⟨e,he1⟩:=zjy Y ρ hs;obtain ⟨e',he2⟩:=zjy Y id hs;have hkp:k=ρ p.1:=(congrArg Prod.fst hpe).symm;have hqe:q=p.2.ee (Tup.get out.tys Y) ρ:=(congrArg Prod.snd hpe).symm;subst hkp;rw [hqe,he1] at he;cases he;have hpn:p.1∈zfQ out:=List.mem_append.2 (.inl (List.mem_map.2 ⟨p,hp,rfl⟩));refine ⟨p.1,e'.ent (out.rws Y),ziN (hmp p.1 hpn),?_,?_⟩
  ·have h5:look (zcG (Tup.get out.tys Y) id out.ents) (id p.1)=some (p.2.ee (Tup.get out.tys Y) id):=zqn hen hp;simp only [id] at h5;show hpSt (out.heap Y) (out.rws Y) p.1=_;unfold hpSt Shape.heap;rw [h5,he2];rfl
  ·obtain ⟨pi,pse⟩:=p;cases pse with
   | arr E j=>
    rw [SE.ee] at he1 he2;split at he1
    ·rename_i t l hg;rw [hg] at he2;cases he1;cases he2;rfl
    ·cases he1
   | box T c2=>
    rw [SE.ee] at he1 he2;cases he1;cases he2;simp only [zqA] at hs;simp only [EEnt.ent,renE,zhy hmp Y hs]
   | out f E E1 j=>
    rw [SE.ee] at he1 he2;split at he1
    ·rename_i t l hg;rw [hg] at he2;cases he1;cases he2;have hfm:f∈zfQ out:=List.mem_append.2 (.inr (ziy hp));obtain ⟨k1,k2⟩:=hget hp rfl hg;have e1:rlen (zbr (Tup.get out.tys Y) ρ out.ents) (ρ f)=l.length:=by unfold rlen;rw [k1]
     have e2:rlen (out.rws Y) f=l.length:=by unfold rlen Shape.rws;rw [k2]
     have hρf:ρ f < RB:=hkeys _ _ (hmp f hfm);simp only [EEnt.ent,renE,e1];show (match renL false (ze3 out ρ) (famA (ρ f) l.length) with | some c=>some (Ent.out E 24 c) | none=>none)=some (Ent.out E 24 (famA f (rlen (out.rws Y) f)));rw [e2,zmR hkeys hρf (.inl (hmp f hfm))]
    ·cases he1
 ·rename_i hnone;have hR:=zi8 he;have he0:=he;unfold zar at he;rw [if_pos hR] at he;split at he
  ·rename_i r hr;have hm:=zak hr;unfold zbr at hm;obtain ⟨⟨i,se⟩,hp,hq⟩:=List.mem_filterMap.1 hm;cases se with
   | arr=>cases hq
   | box=>cases hq
   | out f E E1 j=>
    simp only [SE.rw] at hq;split at hq
    ·rename_i t l hg;simp only [Option.some.injEq,Prod.mk.injEq] at hq;obtain ⟨hq1,hq2⟩:=hq;have hfm:f∈zfQ out:=List.mem_append.2 (.inr (ziy hp));have hf:f < RB:=hks f hfm;obtain ⟨k1,k2⟩:=hget hp rfl hg;have e1:k=rid (ρ f) (k / RB - 1):=by rw [hq1];exact zfw hR
     have hρf:ρ f < RB:=hkeys _ _ (hmp f hfm);refine ⟨rid f (k / RB - 1),e'',?_,?_,?_⟩
     ·rw [e1];have hn:look (ze3 out ρ) (rid (ρ f) (k / RB - 1))=none:=by
       cases hl:look (ze3 out ρ) (rid (ρ f) (k / RB - 1)) with
       | none=>rfl
       | some q=>have:=hkeys _ q hl;have:=zaP (ρ f) (k / RB - 1);omega
      have:=zlh hρf hn (hmp f hfm);rw [this,zdI hρf]
     ·show hpSt (out.heap Y) (out.rws Y) _=_;unfold hpSt;have hnone':look (out.heap Y) (rid f (k / RB - 1))=none:=by
       cases hl:look (out.heap Y) (rid f (k / RB - 1)) with
       | none=>rfl
       | some q=>
        obtain ⟨p,hp,hpe⟩:=List.mem_map.1 (zak hl);have h1:p.1=rid f (k / RB - 1):=congrArg Prod.fst hpe;have h2:=hks p.1 (List.mem_append.2 (.inl (List.mem_map.2 ⟨p,hp,rfl⟩)));have:=zaP f (k / RB - 1);omega
      rw [hnone'];simp only;unfold zar;rw [if_pos (zaP _ _),zbc hf];unfold Shape.rws;rw [k2];simp only;rw [zdI hf];rw [<- hq1,k1] at hr;cases hr;exact he
     ·obtain ⟨E',t',l',rfl⟩:=zhw he0;rfl
    ·cases hq
  ·cases he
theorem zm1 {cm:Ids} {L:List Nat}:∀ {ops:List Operand} {vals:List EV} {xs:List AV},zjl s ops=some vals->zkF s.st cm ⟨L⟩ (EV.avL vals) xs->zop s.st cm ⟨L⟩ ops xs
 | [],vals,xs,h,hc=>by cases h;exact hc
 | x::ops,vals,xs,h,hc=>by
  simp only [zjl] at h;split at h
  ·rename_i v h1;split at h
   ·rename_i m h2;cases h;cases xs with
    | nil=>exact hc.elim
    | cons y ys=>exact ⟨⟨_,zah h1,hc.1⟩,zm1 h2 hc.2⟩
   ·cases h
  ·cases h
theorem zia {cm:Ids} {L:LN}:∀ {as bs:List AV} {xs:List AV},zkF s.st cm L (as++bs) xs->∃ ys zs,xs=ys++zs/\zkF s.st cm L as ys/\zkF s.st cm L bs zs
 | [],bs,xs,h=>⟨[],xs,rfl,rfl,h⟩
 | a::as,bs,xs,h=>by
  cases xs with
  | nil=>exact h.elim
  | cons x xs=>
   obtain ⟨ys,zs,rfl,h1,h2⟩:=zia h.2;exact ⟨x::ys,zs,rfl,⟨h.1,h1⟩,h2⟩
theorem zmL (g:Nat->EV) (ρ:Nat->Nat):∀ (l:List (Nat×SV)),SV.evL g ρ (l.map (·.2))=l.map fun p=>p.2.ev g ρ
 | []=>rfl
 | p::l=>by rw [List.map_cons,SV.evL,zmL g ρ l];rfl
theorem zhJ {c:CE} (hc:c.ok P) {f:Operand} {args:Array Operand} {ts:Array TypeId} {d:Nat} {vals caps:List EV} (hd:o.dst=some d) (hlt:Nat.blt d s.n=true)
  (ho:o.op = .call { callee := .value f,args:=args,argTypes:=ts }) (hf:s.ev f=some (.fn c.f caps)) (hargs:zjl s args.toList=some vals) (hrg:zmi (zlR s (vals++caps)))
  (h:zfH s c (vals++caps) d K=some (some q)):
  ∀ (a:Act) (w:World),Rel F s.st a w->o.wp P a w (fun a' w'=>((∃ u,a'=a.put o.dst u)/\(c.sig.ents=[]->Ext w w'))/\∃ σ',(∃ s',σ'=s'.st/\Sfx s s'/\K s'=some q)/\Rel F σ' a' w') (fun _ _ _=>False):=by
 unfold zfH at h;split at h
 ·cases h
 ·rename_i vs0 ids0 ln h1;split at h
  ·cases h
  ·rename_i vs ids h2;split at h
   ·cases h
   ·rename_i X h3;have hb:=(zaa h).1;replace h:=(zaa h).2;simp only [Option.some.injEq] at h;obtain ⟨Y,hY,hK⟩:=Option.bind_eq_some_iff.1 h;simp only [Bool.and_eq_true] at hb;obtain ⟨⟨hin,hout⟩,hleft⟩:=hb;simp only [inOK,Bool.and_eq_true] at hin;obtain ⟨⟨⟨⟨hcm,hdis⟩,hlnr⟩,hnd⟩,hflat⟩:=hin;simp only [zrZ,Bool.and_eq_true] at hout;obtain ⟨⟨⟨⟨⟨⟨hback,hmpk⟩,hkn⟩,hsl⟩,hen⟩,hks⟩,hks'⟩:=hout;simp only [znU,Bool.and_eq_true] at hleft;obtain ⟨hlow,hleft⟩:=hleft;have hvs:=ziz h3;have hmono:=zco h2;obtain ⟨_,hnd1⟩:=zgG hrg h1;have hagr:AgrA (vs0,ids0,ln) (Tup.get c.sig.tys X) ids ln:=⟨fun p hp=>hvs p (hmono.vs p hp),fun i o ho=>hmono.ids i o ho,fun _ h=>h⟩;have hC:=hnd1 _ ids ln hagr;rw [zmL,zc9] at hC;obtain ⟨ys,zs,hyz,hC1,hC2⟩:=zia hC;have hagrE:Agr (vs,ids) (Tup.get c.sig.tys X) false (toMp ids):=⟨hvs,fun i o ho => .inl (zhq ho)⟩;have hF:=hc.fc X Y hY;have hmp:=zhW hmpk;refine fun a w rl=>Oper.wp_mono2 (fun a' w' hh => ?_) (fun _ _ _ h=>h) (zuN (post:=fun σ'=>∃ s',σ'=s'.st/\Sfx s s'/\K s'=some q) ids ⟨ln⟩ hd hlt ho (zah hf) hc.call (fun i o hi => ?_) hcm (zm1 hargs hC1) hC2 (h:=hpSt (c.sig.heap X) (c.sig.rws X)) (zk9 hlow (zbW hcm) h2 hagrE rfl hnd) (R:=fun r h=>r=(retE (c.out.vals Y)).av/\h=hpSt (c.out.heap Y) (c.out.rws Y)) (by rw [<- hyz];exact hF) ?_ a w rl)
    ·refine ⟨⟨hh.1.1,fun he=>hh.1.2 fun i => ?_⟩,hh.2⟩;unfold hpSt Shape.heap Shape.rws zcG zbr;rw [he];simp only [List.map_nil,List.filterMap_nil];show zar [] i=none;unfold zar;split
     ·rfl
     ·rfl
    ·obtain ⟨_,o',g1,g2,⟨g3,rfl⟩ | ⟨g3,rfl⟩⟩:=zgM (zbW hcm) hi
     ·rintro (hm | ⟨hm,_⟩)
      ·have:=List.all_eq_true.1 hdis (_,o) (zak g1);simp at this;exact this hm
      ·have:=((zbW hcm).key _ _ g1).2.2;omega
     ·rintro (hm | ⟨_,hm⟩)
      ·have:rid o' (i / RB - 1) < RB:=by simpa using List.all_eq_true.1 hlnr _ hm
       have:=zaP o' (i / RB - 1);omega
      ·rw [zbc (((zbW hcm).key _ _ g1).2.2)] at hm;have:=List.all_eq_true.1 hdis (_,o') (zak g1);simp at this;exact this hm
    ·rintro r' h' ⟨rfl,rfl⟩;refine ⟨fun hln => ?_,ze3 c.out (rho s.nxt ids),s.nxt+zuA (zfQ c.out),(retE (c.out.slots.map fun p=>p.2.ev (Tup.get c.out.tys Y) (rho s.nxt ids))).av,hpSt (zcG (Tup.get c.out.tys Y) (rho s.nxt ids) c.out.ents) (zbr (Tup.get c.out.tys Y) (rho s.nxt ids) c.out.ents),hback,zov Y hmpk hkn hen hks hks',zt9 (zoa hmp Y hsl),(zkK s c ids d Y).st,?_,?_⟩
     ·rcases Bool.or_eq_true_iff.1 hflat with h | h
      ·exfalso;apply hln;simpa using h
      ·simp only [Bool.and_eq_true] at h;constructor
       ·have:∀ l:List (Nat×SV),l.all (fun p=>zj0 c.out.tys p.2)=true->∀ x∈EV.avL (l.map fun p=>p.2.ev (Tup.get c.out.tys Y) id),zqH x:=by
         intro l;induction l with
         | nil=>intro _ x hx;cases hx
         | cons p l ih=>
          intro ha x hx;simp only [List.all_cons,Bool.and_eq_true] at ha;rcases List.mem_cons.1 hx with rfl | hx
          ·exact zlA Y ha.1
          ·exact ih ha.2 x hx
        have hall:=this c.out.slots h.1;rw [zpb];unfold Shape.vals;generalize EV.avL (c.out.slots.map fun p=>p.2.ev (Tup.get c.out.tys Y) id)=L at hall
        match L with
        | []=>intro w S S' H v hv;cases hv with | tup _ cs hs h=>exact .tup _ cs hs fun i hi=>by simp at hi
        | [x]=>exact hall x (by simp)
        | x::y::r=>
         intro w S S' H v hv;cases hv with
         | tup _ cs hs h=>
          refine .tup _ cs hs fun i hi => ?_
          have hm:(x::y::r).getD i default∈x::y::r:=by
           rw [List.getD_eq_getElem?_getD,List.getElem?_eq_getElem hi];exact List.getElem_mem hi
          exact hall _ hm _ _ _ _ _ (h i hi)
       ·intro j e he;have he:hpSt (c.out.heap Y) (c.out.rws Y) j=some e:=he;unfold hpSt at he;split at he
        ·rename_i q hl;obtain ⟨p,hp,hpe⟩:=List.mem_map.1 (zak hl);cases hpe;cases hee:p.2.ee (Tup.get c.out.tys Y) id with
         | none=>rw [hee] at he;cases he
         | some e1=>
          rw [hee] at he;cases he;exact zpe Y (List.all_eq_true.1 h.2 p hp) hee _
        ·exact zpd Y h.2 he
     ·refine ⟨rfl,rfl,fun k x hx => ?_,fun k e he => ?_⟩
      ·exact hx
      ·rw [zao] at he;have hgoal:(match hpSt (zcG (Tup.get c.out.tys Y) (rho s.nxt ids) c.out.ents) (zbr (Tup.get c.out.tys Y) (rho s.nxt ids) c.out.ents) k with
         | some e=>some e
         | none=>if (ids.any fun p=>Nat.beq p.2 (bs k))=true then none else s.st.ent k)=some e := ?_
       ·exact hgoal
       unfold zkK at he;simp only [zag] at he;cases h1:look (zcG (Tup.get c.out.tys Y) (rho s.nxt ids) c.out.ents) k with
       | some q=>
        rw [h1] at he;simp only [Option.some_or] at he;obtain ⟨p,hp,hpe⟩:=List.mem_map.1 (zak h1);have hs:=List.all_eq_true.1 hen p hp;obtain ⟨e0,he0⟩:=zjy Y (rho s.nxt ids) hs;have hqe:q=p.2.ee (Tup.get c.out.tys Y) (rho s.nxt ids):=(congrArg Prod.snd hpe).symm;rw [he0] at hqe;subst hqe;simp only [Option.map_some] at he;have hsame:EEnt.ent (zbr (Tup.get c.out.tys Y) (rho s.nxt ids) c.out.ents++(ids.map fun p=>(p.2,none))++s.rws) e0=EEnt.ent (zbr (Tup.get c.out.tys Y) (rho s.nxt ids) c.out.ents) e0:=by
         obtain ⟨pi,pse⟩:=p;cases pse with
         | arr E j=>rw [SE.ee] at he0;split at he0<;>cases he0;rfl
         | box T c2=>rw [SE.ee] at he0;cases he0;rfl
         | out f E E1 j=>
          rw [SE.ee] at he0;split at he0
          ·rename_i t l hg;cases he0;obtain ⟨q',hq'⟩:=zfx (g:=Tup.get c.out.tys Y) (ρ:=rho s.nxt ids) hp (f:=rho s.nxt ids f) (q:=some ⟨E1,t,l,none⟩) (by simp only [SE.rw,hg]);have:rlen (zbr (Tup.get c.out.tys Y) (rho s.nxt ids) c.out.ents++(ids.map fun p=>(p.2,none))++s.rws) (rho s.nxt ids f)=rlen (zbr (Tup.get c.out.tys Y) (rho s.nxt ids) c.out.ents) (rho s.nxt ids f):=by
            unfold rlen;rw [zag,zag,hq'];rfl
           simp only [EEnt.ent,this]
          ·cases he0
        rw [hsame] at he;unfold hpSt;rw [h1];simp only [Option.map_some];exact he
       | none=>
        rw [h1] at he;simp only [Option.none_or] at he;cases h2:look (ids.map fun p=>(p.2,(none:Option EEnt))) k with
        | some q=>
         rw [h2] at he;obtain ⟨p,_,hpe⟩:=List.mem_map.1 (zak h2);cases hpe;cases he
        | none=>
         rw [h2] at he;simp only [Option.none_or] at he;have hnk:∀ p∈ids,p.2≠k:=fun p hp hpk=>by
          have:=zbg (k:=k) (l:=ids.map fun p=>(p.2,(none:Option EEnt)));have key:∀ (l:List (Nat×Nat)),p∈l->look (l.map fun p=>(p.2,(none:Option EEnt))) k≠none:=by
           intro l;induction l with
           | nil=>intro h;cases h
           | cons y l ih=>
            intro h hn;rw [List.map_cons,zae] at hn;by_cases hy:y.2=k
            ·rw [if_pos hy] at hn;cases hn
            ·rw [if_neg hy] at hn;rcases List.mem_cons.1 h with rfl | h
             ·exact hy hpk
             ·exact ih h hn
          exact key ids hp h2
         cases h3:look s.heap k with
         | some q=>
          have hkR:k < RB:=by
           have:=List.all_eq_true.1 hlow (k,q) (zak h3);simpa using this
          rw [h3] at he;simp only at he;have e1:hpSt (zcG (Tup.get c.out.tys Y) (rho s.nxt ids) c.out.ents) (zbr (Tup.get c.out.tys Y) (rho s.nxt ids) c.out.ents) k=none:=by
           unfold hpSt;rw [h1];simp only;unfold zar;rw [if_neg (by omega)]
          rw [e1];simp only;rw [if_neg fun hany=>by
           obtain ⟨p,hp,hpb⟩:=List.any_eq_true.1 hany;have:=Nat.eq_of_beq_eq_true hpb;rw [zlI hkR] at this;exact hnk p hp this]
          cases q with
          | none=>cases he
          | some e0=>
           simp only [Option.map_some,Option.some.injEq] at he;have hent:s.ent k=some e0:=by unfold ESt.ent;rw [h3]
           rw [zat hent,<- he];cases e0 with
           | arr=>rfl
           | box=>rfl
           | outs=>rfl
           | out f E=>
            have hl:=List.all_eq_true.1 hleft (k,some (.out f E)) (zak h3);simp only [Bool.or_eq_true,Bool.not_eq_true'] at hl;rcases hl with hl | hl
            ·exfalso;have hl:k∈ids.map (·.2):=by simpa using hl
             obtain ⟨p,hp,hpk⟩:=List.mem_map.1 hl;exact hnk p hp hpk
            ·have hl:f∉(fams c.out.ents).map (rho s.nxt ids)++ids.map (·.2):=fun hm=>by
              rw [List.contains_eq_mem] at hl;simp [hm] at hl
             have e2:rlen (zbr (Tup.get c.out.tys Y) (rho s.nxt ids) c.out.ents++(ids.map fun p=>(p.2,none))++s.rws) f=rlen s.rws f:=by
              unfold rlen;have n1:look (zbr (Tup.get c.out.tys Y) (rho s.nxt ids) c.out.ents) f=none:=zbg fun p hp hpf=>by
               unfold zbr at hp;obtain ⟨⟨i,se⟩,hp2,hr⟩:=List.mem_filterMap.1 hp;cases se with
               | arr=>cases hr
               | box=>cases hr
               | out f2 E2 E3 j2=>
                simp only [SE.rw] at hr;split at hr
                ·cases hr;exact hl (List.mem_append.2 (.inl (List.mem_map.2 ⟨f2,ziy hp2,hpf⟩)))
                ·cases hr
              have n2:look (ids.map fun p=>(p.2,(none:Option RW))) f=none:=zbg fun p hp hpf=>by
               obtain ⟨p0,hp0,rfl⟩:=List.mem_map.1 hp;exact hl (List.mem_append.2 (.inr (List.mem_map.2 ⟨p0,hp0,hpf⟩)))
              rw [zag,zag,n1,n2];rfl
             simp only [EEnt.ent,e2]
         | none=>
          rw [h3] at he;simp only at he;have hR:=zi8 he;have he0:=he;unfold zar at he;rw [if_pos hR] at he;rw [zag,zag] at he;unfold hpSt;rw [h1];simp only;cases n1:look (zbr (Tup.get c.out.tys Y) (rho s.nxt ids) c.out.ents) (k % RB) with
          | some q=>
           rw [n1] at he;simp only [Option.some_or] at he;have:zar (zbr (Tup.get c.out.tys Y) (rho s.nxt ids) c.out.ents) k=some e:=by
            unfold zar;rw [if_pos hR,n1];exact he
           rw [this]
          | none=>
           rw [n1] at he;simp only [Option.none_or] at he;have:zar (zbr (Tup.get c.out.tys Y) (rho s.nxt ids) c.out.ents) k=none:=by
            unfold zar;rw [if_pos hR,n1]
           rw [this];simp only;cases n2:look (ids.map fun p=>(p.2,(none:Option RW))) (k % RB) with
           | some q=>
            rw [n2] at he;obtain ⟨p0,_,hpe⟩:=List.mem_map.1 (zak n2);have hq:(none:Option RW)=q:=congrArg Prod.snd hpe;rw [<- hq] at he;cases he
           | none=>
            rw [n2] at he;simp only [Option.none_or] at he;have hbs:bs k=k % RB:=by unfold bs;rw [if_pos hR]
            rw [if_neg fun hany=>by
             obtain ⟨p,hp,hpb⟩:=List.any_eq_true.1 hany;have hpk:=Nat.eq_of_beq_eq_true hpb;rw [hbs] at hpk;have key:∀ (l:List (Nat×Nat)),p∈l->look (l.map fun p=>(p.2,(none:Option RW))) (k % RB)≠none:=by
              intro l;induction l with
              | nil=>intro h;cases h
              | cons y l ih=>
               intro h hn;rw [List.map_cons,zae] at hn;by_cases hy:y.2=k % RB
               ·rw [if_pos hy] at hn;cases hn
               ·rw [if_neg hy] at hn;rcases List.mem_cons.1 h with rfl | h
                ·exact hy hpk
                ·exact ih h hn
             exact key ids hp n2]
            rw [zgd hlow hR];unfold zar;rw [if_pos hR];exact he
     ·exact ⟨zkK s c ids d Y,rfl,⟨⟨[_],rfl⟩,⟨_,rfl⟩,⟨_,rfl⟩,Nat.le_add_right _ _,rfl⟩,hK⟩
end
end
end Go.Ab
