import Derived.Test.YtajabcfngklacaaEv40n12
set_option linter.unusedVariables false
set_option linter.unusedSimpArgs false
set_option linter.unusedSectionVars false
namespace Go.Ab
noncomputable section
open Enc (enc)
variable {R:Type}
theorem zpf {β:Type}:∀ {l:List (Nat×β)} {p:Nat×β},zcV (l.map (·.1))=true->p∈l->look l p.1=some p.2
 | (k,v)::r,p,h,hp=>by
  have a:=zni h;rw [List.map_cons,List.nodup_cons] at a;rw [zan];rcases List.mem_cons.1 hp with rfl | hp
  ·rw [if_pos rfl]
  ·have:k≠p.1:=fun e=>a.1 (List.mem_map.2 ⟨p,hp,e.symm⟩)
   rw [if_neg this];simp only [List.map_cons,zcV,Bool.and_eq_true] at h;exact zpf h.2 hp
def finV (tys:List Ty) (vs:Vs):Option (Tup tys):=bif zcV (vs.map (·.1)) && vs.all (fun p=>Nat.blt p.1 tys.length) then Tup.mk? tys (look vs) 0 else none
theorem zqD {tys:List Ty} {vs:Vs} {X:Tup tys} (h:finV tys vs=some X):∀ p∈vs,Tup.get tys X p.1=p.2:=by
 unfold finV at h;have a:=(zad h).1;replace h:=(zad h).2;simp only [Bool.and_eq_true] at a;intro p b;have d:=zpf a.1 b;have e:p.1 < tys.length:=by simpa using List.all_eq_true.1 a.2 p b
 have c:=mk?_spec h p.1 e;rw [Nat.zero_add,d] at c;exact (Option.some.inj c).symm
mutual
def zxx (ks:List Nat):SV->Bool
 | .own i=>ks.contains i
 | .ptr i _=>ks.contains i
 | .fn _ c=>zvE ks c
 | .agg c=>zvE ks c
 | _=>true
def zvE (ks:List Nat):List SV->Bool
 | []=>true
 | x::r=>zxx ks x && zvE ks r
end
def zAf (tys:List Ty) (ks:List Nat):SE->Bool
 | .arr _ j=>match tys[j]? with
  | some (.list _)=>true
  | _=>false
 | .box _ c=>zvE ks c
 | .out f _ _ j=>ks.contains f && (match tys[j]? with
  | some (.list (.list _))=>true
  | _=>false)
def fams (l:List (Nat×SE)):List Nat:=l.filterMap fun p=>match p.2 with
 | .out f _ _ _=>some f
 | _=>none
def znh (sh:Shape):List Nat:=sh.ents.map (·.1)++fams sh.ents
def rho (nxt:Nat) (a:Ids) (i:Nat):Nat:=bif Nat.ble LIM i then (match look a i with
 | some o=>o
 | none=>0) else nxt+i
def zEw (l:List Nat):Nat:=(l.filter fun i=>Nat.blt i LIM).foldl (fun a i=>max a (i+1)) 0
def zmn (out:Shape) (ρ:Nat->Nat):List (Nat×Option Nat):=(znh out).map fun i=>(ρ i,some i)
def zBw (out:Shape) (nxt:Nat) (a:Ids):Bool:=
 let ks:=znh out
 let mp:=zmn out (rho nxt a)
 zu9 a nxt (nxt+zEw ks) mp && zcV (mp.map (·.1)) && zcV ks && out.slots.all (fun p=>zxx ks p.2) && out.ents.all (fun p=>zAf out.tys ks p.2) && ks.all (fun k=>Nat.blt k RB) && mp.all (fun p=>Nat.blt p.1 RB)
def inOK (c:CE) (a:Ids) (ln:List Nat):Bool:=
 cmOK a && a.all (fun p => !(ln.contains p.2)) && ln.all (fun i=>Nat.blt i RB) && zcV (c.sig.ents.map (·.1)) &&
  (ln.isEmpty || (c.out.slots.all (fun p=>zsG c.out.tys p.2) && c.out.ents.all (fun p=>zvC c.out.tys p.2)))
def zxd (s:ESt) (out:Shape) (a:Ids):Bool:=
 s.low && s.heap.all fun p=>match p.2 with
  | some (.out f _)=>(a.map (·.2)).contains p.1 || !(((fams out.ents).map (rho s.nxt a)++a.map (·.2)).contains f)
  | _=>true
def ztt (s:ESt) (c:CE) (a:Ids) (d:Nat) (Y:Tup c.out.tys):ESt:=
 ⟨s.n,(d,retE (c.out.slots.map fun p=>p.2.ev (Tup.get c.out.tys Y) (rho s.nxt a)))::s.slots,
  zh0 (Tup.get c.out.tys Y) (rho s.nxt a) c.out.ents++(a.map fun p=>(p.2,none))++s.heap,s.nxt+zEw (znh c.out),
  zdY (Tup.get c.out.tys Y) (rho s.nxt a) c.out.ents++(a.map fun p=>(p.2,none))++s.rws⟩
def znc (s:ESt) (c:CE) (vals:List EV) (d:Nat) (K:ESt->Option R):Option (Option R):=
 match hndL s c.sig.tys (c.sig.slots.map (·.2)) vals ([],[],[]) with
 | none=>none
 | some (vs,ids,ln)=>match mchE s c.sig.ents (vs,ids) with
  | none=>none
  | some (vs,ids)=>match finV c.sig.tys vs with
   | none=>none
   | some X=>bif inOK c ids ln && zBw c.out s.nxt ids && zxd s c.out ids then some ((c.den X).bind fun Y=>K (ztt s c ids d Y)) else none
theorem zzU {g:Nat->EV} {ρ:Nat->Nat}:∀ {l:List (Nat×SE)} {p:Nat×SE},zcV (l.map fun p=>ρ p.1)=true->p∈l->look (zh0 g ρ l) (ρ p.1)=some (p.2.ee g ρ)
 | l,p,h,hp=>by
  have:look (zh0 g ρ l) ((ρ p.1,p.2.ee g ρ):Nat×Option EEnt).1=some ((ρ p.1,p.2.ee g ρ):Nat×Option EEnt).2:=zpf (by
   have:(zh0 g ρ l).map (·.1)=l.map fun p=>ρ p.1:=by unfold zh0;rw [List.map_map];rfl
   rw [this];exact h) (List.mem_map.2 ⟨p,hp,rfl⟩)
  exact this
theorem zrR {tys:List Ty} {ks:List Nat} {a:SE} (X:Tup tys) (ρ:Nat->Nat) (h:zAf tys ks a=true):∃ e,a.ee (Tup.get tys X) ρ=some e:=by
 cases a with
 | arr E j=>
  simp only [zAf] at h;split at h
  ·rename_i t b;obtain ⟨x,d⟩:=zij X b;exact ⟨.arr E t x,by rw [SE.ee,d]⟩
  ·cases h
 | box T c=>exact ⟨_,rfl⟩
 | out f E E1 j=>
  simp only [zAf,Bool.and_eq_true] at h;obtain ⟨_,h⟩:=h;split at h
  ·rename_i t b;obtain ⟨x,d⟩:=zij X b;exact ⟨.out (ρ f) E,by rw [SE.ee,d]⟩
  ·cases h
theorem ziA {g:Nat->EV} {ρ:Nat->Nat}:∀ {l:List (Nat×SE)} {i f E E1 j:Nat} {t:Ty} {x:List (List t.den)},zcV ((fams l).map ρ)=true->(i,SE.out f E E1 j)∈l->g j = .d (.list (.list t)) x->look (zdY g ρ l) (ρ f)=some (some ⟨E1,t,x,none⟩)
 | y::l,i,f,E,E1,j,t,x,hn,hp,hg=>by
  have B:∀ {l:List (Nat×SE)} {k:Nat} {q:Option RW},look (zdY g ρ l) k=some q->k∈(fams l).map ρ:=by
   intro l k q h;have r:=zaN h;unfold zdY at r;obtain ⟨⟨i,s⟩,hp,hr⟩:=List.mem_filterMap.1 r;cases s with
   | arr=>cases hr
   | box=>cases hr
   | out c E E1 j=>
    simp only [SE.rw] at hr;split at hr
    ·cases hr;refine List.mem_map.2 ⟨c,List.mem_filterMap.2 ⟨_,hp,rfl⟩,rfl⟩
    ·cases hr
  rcases List.mem_cons.1 hp with rfl | hp2
  ·unfold zdY;rw [List.filterMap_cons];simp only [SE.rw,hg];rw [zan,if_pos rfl]
  ·have m:f∈fams l:=List.mem_filterMap.2 ⟨_,hp2,rfl⟩;unfold zdY;rw [List.filterMap_cons];obtain ⟨u,p⟩:=y;cases p with
   | arr=>simp only [SE.rw];exact ziA (by simpa [fams] using hn) hp2 hg
   | box=>simp only [SE.rw];exact ziA (by simpa [fams] using hn) hp2 hg
   | out c v w A=>
    have b:=zni hn;have e:fams ((u,SE.out c v w A)::l)=c::fams l:=rfl;rw [e,List.map_cons,List.nodup_cons] at b;have n:ρ c≠ρ f:=fun h=>b.1 (List.mem_map.2 ⟨f,m,h.symm⟩)
    have o:zcV ((fams l).map ρ)=true:=by
     rw [e,List.map_cons] at hn;simp only [zcV,Bool.and_eq_true] at hn;exact hn.2
    have d:=ziA o hp2 hg;unfold zdY at d;simp only [SE.rw];split
    ·rename_i z a;split at a
     ·exact d
     ·exact d
    ·rename_i z a;split at a
     ·cases a;rw [zan,if_neg n];exact d
     ·cases a
theorem zpj {rs:List (Nat×Option RW)} {k:Nat} {e:Ent} (h:zbi rs k=some e):∃ E,∃ t:Ty,∃ l:List t.den,e=Ent.arrOf E l:=by
 unfold zbi at h;split at h
 ·split at h
  ·rename_i r _;unfold RW.ent at h;split at h
   ·cases h
   ·obtain ⟨l,_,rfl⟩:=Option.map_eq_some_iff.1 h;exact ⟨r.E,r.t,l,rfl⟩
  ·cases h
 ·cases h
theorem zq9 {rs:List (Nat×Option RW)} {k:Nat} {e:Ent} (h:zbi rs k=some e):RB<=k:=by
 unfold zbi at h;split at h
 ·assumption
 ·cases h
mutual
theorem zxy {ks:List Nat} {mp:List (Nat×Option Nat)} {ρ:Nat->Nat} (a:∀ i∈ks,look mp (ρ i)=some (some i)) {ts:List Ty} (X:Tup ts):∀ {sv:SV},zxx ks sv=true->ren false mp (sv.ev (Tup.get ts X) ρ).av=some (sv.ev (Tup.get ts X) id).av
 | .v j,_=>by
  rw [SV.ev,SV.ev];have:∀ (ts:List Ty) (X:Tup ts) (j:Nat),(∃ t x,Tup.get ts X j = .d t x)\/Tup.get ts X j = .any:=by
   intro ts X j;cases h:ts[j]? with
   | some t=>obtain ⟨x,b⟩:=zij X h;exact .inl ⟨t,x,b⟩
   | none=>
    right;clear a;induction ts generalizing j with
    | nil=>rfl
    | cons u r d=>
     cases r with
     | nil=>cases j with
      | zero=>simp at h
      | succ j=>rfl
     | cons v r=>cases j with
      | zero=>simp at h
      | succ j=>exact d X.2 j (by simpa using h)
  rcases this ts X j with ⟨t,x,b⟩ | b<;>rw [b]<;>rfl
 | .own i,h=>by
  simp only [zxx] at h;exact zyB (a i (by simpa using h))
 | .ptr i k,h=>by
  simp only [zxx] at h;exact zyC (a i (by simpa using h))
 | .addr j,_=>by
  rw [SV.ev,SV.ev];cases Tup.get ts X j<;>rfl
 | .fn f c,h=>by
  simp only [zxx] at h;rw [SV.ev,SV.ev];exact zBL (zpl a X h)
 | .agg c,h=>by
  simp only [zxx] at h;rw [SV.ev,SV.ev];exact zzn (zpl a X h)
 | .nil,_=>rfl
 | .any,_=>rfl
theorem zpl {ks:List Nat} {mp:List (Nat×Option Nat)} {ρ:Nat->Nat} (a:∀ i∈ks,look mp (ρ i)=some (some i)) {ts:List Ty} (X:Tup ts):∀ {l:List SV},zvE ks l=true->renL false mp (EV.avL (SV.evL (Tup.get ts X) ρ l))=some (EV.avL (SV.evL (Tup.get ts X) id l))
 | [],_=>rfl
 | x::r,h=>by
  simp only [zvE,Bool.and_eq_true] at h;rw [SV.evL,SV.evL,EV.avL,EV.avL,renL,zxy a X h.1,zpl a X h.2]
end
theorem zxu {ks:List Nat} {mp:List (Nat×Option Nat)} {ρ:Nat->Nat} (a:∀ i∈ks,look mp (ρ i)=some (some i)) {ts:List Ty} (X:Tup ts):∀ {l:List (Nat×SV)},l.all (fun p=>zxx ks p.2)=true->
  renL false mp (EV.avL (l.map fun p=>p.2.ev (Tup.get ts X) ρ))=some (EV.avL (l.map fun p=>p.2.ev (Tup.get ts X) id))
 | [],_=>rfl
 | p::l,h=>by
  simp only [List.all_cons,Bool.and_eq_true] at h;rw [List.map_cons,List.map_cons,EV.avL,EV.avL,renL,zxy a X h.1,zxu a X h.2]
theorem zD2 {mp:List (Nat×Option Nat)} {l m:List EV} (h:renL false mp (EV.avL l)=some (EV.avL m)):ren false mp (retE l).av=some (retE m).av:=by
 have a:=(zjy h).1;rw [zhe,zhe] at a
 match l,m,a with
 | [],[],_=>rfl
 | [x],[y],_=>
  show ren false mp x.av=some y.av;cases b:ren false mp x.av with
  | none=>simp [EV.avL,renL,b] at h
  | some z=>simp [EV.avL,renL,b] at h;rw [h]
 | x::y::r,x'::y'::r',_=>
  show ren false mp (.tup (EV.avL (x::y::r)))=some (.tup (EV.avL (x'::y'::r')));simp only [ren,h]
section
variable {P:Program} {F:Fr} {s:ESt} {o:Oper} {K:ESt->Option R} {q:R}
theorem ztR {cm:Ids} {g:Nat->EV} {l:List (Nat×SE)} (c:s.low=true) (r:CmOK cm) {u a:Vs×Ids} (h:mchE s l u=some a) (v:Agr a g false (toMp cm)) (b:a.2=cm) (J:zcV (l.map (·.1))=true):
  zpa cm s.st (hpSt (zh0 g id l) (zdY g id l)):=by
 have C:∀ k q,look (toMp cm) k=some q->k < RB:=fun k q d=>by
  rw [zhr] at d;cases m:look cm k with
  | none=>rw [m] at d;cases d
  | some o=>exact (r.key k o m).2.1
 intro k e' i;unfold hpSt at i;split at i
 ·rename_i q d;obtain ⟨p,D,y⟩:=List.mem_map.1 (zaN d);obtain ⟨o,e,e0,z,A,F,n⟩:=zmw h g false (toMp cm) v C p D;cases y;rw [F] at i;cases i;refine ⟨o,e.ent s.rws,zC2 (by rw [<- b];exact z),zbw A,n _ fun f E E1 j B w H => ?_⟩;obtain ⟨L,I⟩:=p;cases w;exact zBn h v D H
 ·obtain ⟨f,B,x,rfl,z,A,F,n⟩:=zCs h v i;refine ⟨rid B x,e',zza (zt0 A ?_ (by rw [zhr,<- b,z];rfl)),by rw [zoI c (zdX _ _)];exact n,?_⟩
  ·cases m:look (toMp cm) (rid f x) with
   | none=>rfl
   | some q=>have:=C _ q m;have:=zdX f x;omega
  ·obtain ⟨E,t,M,rfl⟩:=zpj n;rfl
theorem zd9 {β:Type} {l:List (Nat×β)} {k:Nat} (h:∀ p∈l,p.1≠k):look l k=none:=by
 cases a:look l k with
 | none=>rfl
 | some v=>exact absurd rfl (h _ (zaN a))
theorem zpW {out:Shape} {ρ:Nat->Nat} (a:zcV ((zmn out ρ).map (·.1))=true):∀ i∈znh out,look (zmn out ρ) (ρ i)=some (some i):=fun i b=>
 zpf (p:=(ρ i,some i)) a (List.mem_map.2 ⟨i,b,rfl⟩)
theorem zqC {l:List (Nat×SE)} {i f E E1 j:Nat} (h:(i,SE.out f E E1 j)∈l):f∈fams l:=List.mem_filterMap.2 ⟨_,h,rfl⟩
theorem zov:∀ {a b:List Nat},zcV (a++b)=true->zcV b=true
 | [],b,h=>h
 | x::a,b,h=>by
  rw [List.cons_append] at h;simp only [zcV,Bool.and_eq_true] at h;exact zov h.2
theorem zt6:∀ {a b:List Nat},zcV (a++b)=true->zcV a=true
 | [],b,h=>rfl
 | x::a,b,h=>by
  rw [List.cons_append] at h;simp only [zcV,Bool.and_eq_true,Bool.not_eq_true'] at h ⊢;refine ⟨?_,zt6 h.2⟩;have:=h.1;rw [List.contains_eq_mem] at this ⊢;simp only [List.mem_append,decide_eq_false_iff_not,not_or] at this ⊢;exact this.1
theorem zxP {out:Shape} {ρ:Nat->Nat} (Y:Tup out.tys) (z:zcV ((zmn out ρ).map (·.1))=true) (B:zcV (znh out)=true) (I:out.ents.all (fun p=>zAf out.tys (znh out) p.2)=true)
  (C:(znh out).all (fun k=>Nat.blt k RB)=true) (A:(zmn out ρ).all (fun p=>Nat.blt p.1 RB)=true):
  zs9 (zmn out ρ) (hpSt (out.heap Y) (out.rws Y)) (hpSt (zh0 (Tup.get out.tys Y) ρ out.ents) (zdY (Tup.get out.tys Y) ρ out.ents)):=by
 have n:=zpW z;have b:∀ k q,look (zmn out ρ) k=some q->k < RB:=fun k q s=>by simpa using List.all_eq_true.1 A (k,q) (zaN s)
 have D:∀ k∈znh out,k < RB:=fun k hk=>by simpa using List.all_eq_true.1 C k hk
 have N:zcV ((fams out.ents).map id)=true:=by rw [List.map_id];exact zov B
 have O:zcV ((fams out.ents).map ρ)=true:=by
  have e:(zmn out ρ).map (·.1)=out.ents.map (fun p=>ρ p.1)++(fams out.ents).map ρ:=by
   unfold zmn znh;rw [List.map_map,List.map_append,List.map_map];rfl
  rw [e] at z;exact zov z
 have P:zcV (out.ents.map fun p=>id p.1)=true:=zt6 B;have y:∀ {p:Nat×SE} {f E E1 j:Nat} {t:Ty} {x:List (List t.den)},p∈out.ents->p.2 = .out f E E1 j->Tup.get out.tys Y j = .d (.list (.list t)) x->
   look (zdY (Tup.get out.tys Y) ρ out.ents) (ρ f)=some (some ⟨E1,t,x,none⟩)/\look (zdY (Tup.get out.tys Y) id out.ents) f=some (some ⟨E1,t,x,none⟩):=by
  intro p f E E1 j t x h m v;obtain ⟨pi,F⟩:=p;cases m;exact ⟨ziA O h v,ziA (ρ:=id) N h v⟩
 intro k J u;unfold hpSt at u;split at u
 ·rename_i q s;obtain ⟨p,h,m⟩:=List.mem_map.1 (zaN s);have hs:=List.all_eq_true.1 I p h;obtain ⟨e,a⟩:=zrR Y ρ hs;obtain ⟨e',d⟩:=zrR Y id hs;have Q:k=ρ p.1:=(congrArg Prod.fst m).symm;have R:q=p.2.ee (Tup.get out.tys Y) ρ:=(congrArg Prod.snd m).symm;subst Q;rw [R,a] at u;cases u;have hpn:p.1∈znh out:=List.mem_append.2 (.inl (List.mem_map.2 ⟨p,h,rfl⟩));refine ⟨p.1,e'.ent (out.rws Y),zqL (n p.1 hpn),?_,?_⟩
  ·have Z:look (zh0 (Tup.get out.tys Y) id out.ents) (id p.1)=some (p.2.ee (Tup.get out.tys Y) id):=zzU P h;simp only [id] at Z;show hpSt (out.heap Y) (out.rws Y) p.1=_;unfold hpSt Shape.heap;rw [Z,d];rfl
  ·obtain ⟨pi,F⟩:=p;cases F with
   | arr E j=>
    rw [SE.ee] at a d;split at a
    ·rename_i t l v;rw [v] at d;cases a;cases d;rfl
    ·cases a
   | box T c2=>
    rw [SE.ee] at a d;cases a;cases d;simp only [zAf] at hs;simp only [EEnt.ent,renE,zpl n Y hs]
   | out f E E1 j=>
    rw [SE.ee] at a d;split at a
    ·rename_i t l v;rw [v] at d;cases a;cases d;have o:f∈znh out:=List.mem_append.2 (.inr (zqC h));obtain ⟨W,X⟩:=y h rfl v;have S:rlen (zdY (Tup.get out.tys Y) ρ out.ents) (ρ f)=l.length:=by unfold rlen;rw [W]
     have e2:rlen (out.rws Y) f=l.length:=by unfold rlen Shape.rws;rw [X]
     have g:ρ f < RB:=b _ _ (n f o);simp only [EEnt.ent,renE,S];show (match renL false (zmn out ρ) (famA (ρ f) l.length) with | some c=>some (Ent.out E 24 c) | none=>none)=some (Ent.out E 24 (famA f (rlen (out.rws Y) f)));rw [e2,zv9 b g (.inl (n f o))]
    ·cases a
 ·rename_i L;have hR:=zq9 u;have U:=u;unfold zbi at u;rw [if_pos hR] at u;split at u
  ·rename_i r M;have hm:=zaN M;unfold zdY at hm;obtain ⟨⟨i,se⟩,h,s⟩:=List.mem_filterMap.1 hm;cases se with
   | arr=>cases s
   | box=>cases s
   | out f E E1 j=>
    simp only [SE.rw] at s;split at s
    ·rename_i t l v;simp only [Option.some.injEq,Prod.mk.injEq] at s;obtain ⟨H,hq2⟩:=s;have o:f∈znh out:=List.mem_append.2 (.inr (zqC h));have hf:f < RB:=D f o;obtain ⟨W,X⟩:=y h rfl v;have S:k=rid (ρ f) (k / RB - 1):=by rw [H];exact zoH hR
     have g:ρ f < RB:=b _ _ (n f o);refine ⟨rid f (k / RB - 1),J,?_,?_,?_⟩
     ·rw [S];have hn:look (zmn out ρ) (rid (ρ f) (k / RB - 1))=none:=by
       cases V:look (zmn out ρ) (rid (ρ f) (k / RB - 1)) with
       | none=>rfl
       | some q=>have:=b _ q V;have:=zdX (ρ f) (k / RB - 1);omega
      have:=zt0 g hn (n f o);rw [this,zjU g]
     ·show hpSt (out.heap Y) (out.rws Y) _=_;unfold hpSt;have w:look (out.heap Y) (rid f (k / RB - 1))=none:=by
       cases V:look (out.heap Y) (rid f (k / RB - 1)) with
       | none=>rfl
       | some q=>
        obtain ⟨p,h,m⟩:=List.mem_map.1 (zaN V);have h1:p.1=rid f (k / RB - 1):=congrArg Prod.fst m;have h2:=D p.1 (List.mem_append.2 (.inl (List.mem_map.2 ⟨p,h,rfl⟩)));have:=zdX f (k / RB - 1);omega
      rw [w];simp only;unfold zbi;rw [if_pos (zdX _ _),ze1 hf];unfold Shape.rws;rw [X];simp only;rw [zjU hf];rw [<- H,W] at M;cases M;exact u
     ·obtain ⟨E',t',l',rfl⟩:=zpj U;rfl
    ·cases s
  ·cases u
theorem zwg {cm:Ids} {L:List Nat}:∀ {ops:List Operand} {vals:List EV} {xs:List AV},zrv s ops=some vals->ztp s.st cm ⟨L⟩ (EV.avL vals) xs->zxJ s.st cm ⟨L⟩ ops xs
 | [],vals,xs,h,hc=>by cases h;exact hc
 | x::ops,vals,xs,h,hc=>by
  simp only [zrv] at h;split at h
  ·rename_i v a;split at h
   ·rename_i m b;cases h;cases xs with
    | nil=>exact hc.elim
    | cons y ys=>exact ⟨⟨_,za0 a,hc.1⟩,zwg b hc.2⟩
   ·cases h
  ·cases h
theorem zp8 {cm:Ids} {L:LN}:∀ {as bs:List AV} {xs:List AV},ztp s.st cm L (as++bs) xs->∃ ys b,xs=ys++b/\ztp s.st cm L as ys/\ztp s.st cm L bs b
 | [],bs,xs,h=>⟨[],xs,rfl,rfl,h⟩
 | a::as,bs,xs,h=>by
  cases xs with
  | nil=>exact h.elim
  | cons x xs=>
   obtain ⟨ys,b,rfl,c,d⟩:=zp8 h.2;exact ⟨x::ys,b,rfl,⟨h.1,c⟩,d⟩
theorem zv0 (g:Nat->EV) (ρ:Nat->Nat):∀ (l:List (Nat×SV)),SV.evL g ρ (l.map (·.2))=l.map fun p=>p.2.ev g ρ
 | []=>rfl
 | p::l=>by rw [List.map_cons,SV.evL,zv0 g ρ l];rfl
theorem zpC {c:CE} (hc:c.ok P) {f:Operand} {args:Array Operand} {ts:Array TypeId} {d:Nat} {vals I:List EV} (hd:o.dst=some d) (hlt:Nat.blt d s.n=true)
  (ho:o.op = .call { callee := .value f,args:=args,argTypes:=ts }) (hf:s.ev f=some (.fn c.f I)) (a2:zrv s args.toList=some vals) (hrg:zvA (zu2 s (vals++I)))
  (h:znc s c (vals++I) d K=some (some q)):
  ∀ (a:Act) (w:World),Rel F s.st a w->o.wp P a w (fun a' w'=>((∃ u,a'=a.put o.dst u)/\(c.sig.ents=[]->Ext w w'))/\∃ σ',(∃ s',σ'=s'.st/\Sfx s s'/\K s'=some q)/\Rel F σ' a' w') (fun _ _ _=>False):=by
 unfold znc at h;split at h
 ·cases h
 ·rename_i vs0 ids0 ln W;split at h
  ·cases h
  ·rename_i vs b h2;split at h
   ·cases h
   ·rename_i X h3;have hb:=(zad h).1;replace h:=(zad h).2;simp only [Option.some.injEq] at h;obtain ⟨Y,hY,hK⟩:=Option.bind_eq_some_iff.1 h;simp only [Bool.and_eq_true] at hb;obtain ⟨⟨hin,Z⟩,A⟩:=hb;simp only [inOK,Bool.and_eq_true] at hin;obtain ⟨⟨⟨⟨U,a0⟩,hlnr⟩,hnd⟩,hflat⟩:=hin;simp only [zBw,Bool.and_eq_true] at Z;obtain ⟨⟨⟨⟨⟨⟨hback,a1⟩,hkn⟩,hsl⟩,hen⟩,hks⟩,hks'⟩:=Z;simp only [zxd,Bool.and_eq_true] at A;obtain ⟨V,A⟩:=A;have hvs:=zqD h3;have O:=zhs h2;obtain ⟨_,hnd1⟩:=zon hrg W;have hagr:AgrA (vs0,ids0,ln) (Tup.get c.sig.tys X) b ln:=⟨fun p z=>hvs p (O.vs p z),fun i o ho=>O.ids i o ho,fun _ h=>h⟩;have hC:=hnd1 _ b ln hagr;rw [zv0,zi2] at hC;obtain ⟨ys,zs,hyz,hC1,hC2⟩:=zp8 hC;have hagrE:Agr (vs,b) (Tup.get c.sig.tys X) false (toMp b):=⟨hvs,fun i o ho => .inl (zph ho)⟩;have hF:=hc.fc X Y hY;have hmp:=zpW a1;refine fun a w rl=>Oper.wp_mono2 (fun a' w' hh => ?_) (fun _ _ _ h=>h) (zEO (post:=fun σ'=>∃ s',σ'=s'.st/\Sfx s s'/\K s'=some q) b ⟨ln⟩ hd hlt ho (za0 hf) hc.call (fun i o hi => ?_) U (zwg a2 hC1) hC2 (h:=hpSt (c.sig.heap X) (c.sig.rws X)) (ztR V (zfY U) h2 hagrE rfl hnd) (R:=fun r h=>r=(retE (c.out.vals Y)).av/\h=hpSt (c.out.heap Y) (c.out.rws Y)) (by rw [<- hyz];exact hF) ?_ a w rl)
    ·refine ⟨⟨hh.1.1,fun m=>hh.1.2 fun i => ?_⟩,hh.2⟩;unfold hpSt Shape.heap Shape.rws zh0 zdY;rw [m];simp only [List.map_nil,List.filterMap_nil];show zbi [] i=none;unfold zbi;split
     ·rfl
     ·rfl
    ·obtain ⟨_,o',g1,g2,⟨g3,rfl⟩ | ⟨g3,rfl⟩⟩:=zor (zfY U) hi
     ·rintro (M | ⟨M,_⟩)
      ·have:=List.all_eq_true.1 a0 (_,o) (zaN g1);simp at this;exact this M
      ·have:=((zfY U).key _ _ g1).2.2;omega
     ·rintro (M | ⟨_,M⟩)
      ·have:rid o' (i / RB - 1) < RB:=by simpa using List.all_eq_true.1 hlnr _ M
       have:=zdX o' (i / RB - 1);omega
      ·rw [ze1 (((zfY U).key _ _ g1).2.2)] at M;have:=List.all_eq_true.1 a0 (_,o') (zaN g1);simp at this;exact this M
    ·rintro r' h' ⟨rfl,rfl⟩;refine ⟨fun hln => ?_,zmn c.out (rho s.nxt b),s.nxt+zEw (znh c.out),(retE (c.out.slots.map fun p=>p.2.ev (Tup.get c.out.tys Y) (rho s.nxt b))).av,hpSt (zh0 (Tup.get c.out.tys Y) (rho s.nxt b) c.out.ents) (zdY (Tup.get c.out.tys Y) (rho s.nxt b) c.out.ents),hback,zxP Y a1 hkn hen hks hks',zD2 (zxu hmp Y hsl),(ztt s c b d Y).st,?_,?_⟩
     ·rcases Bool.or_eq_true_iff.1 hflat with h | h
      ·exfalso;apply hln;simpa using h
      ·simp only [Bool.and_eq_true] at h;constructor
       ·have:∀ l:List (Nat×SV),l.all (fun p=>zsG c.out.tys p.2)=true->∀ x∈EV.avL (l.map fun p=>p.2.ev (Tup.get c.out.tys Y) id),zAm x:=by
         intro l;induction l with
         | nil=>intro _ x hx;cases hx
         | cons p l ih=>
          intro ha x hx;simp only [List.all_cons,Bool.and_eq_true] at ha;rcases List.mem_cons.1 hx with rfl | hx
          ·exact zuz Y ha.1
          ·exact ih ha.2 x hx
        have Q:=this c.out.slots h.1;rw [zyD];unfold Shape.vals;generalize EV.avL (c.out.slots.map fun p=>p.2.ev (Tup.get c.out.tys Y) id)=L at Q
        match L with
        | []=>intro w S S' H v hv;cases hv with | tup _ cs hs h=>exact .tup _ cs hs fun i hi=>by simp at hi
        | [x]=>exact Q x (by simp)
        | x::y::r=>
         intro w S S' H v hv;cases hv with
         | tup _ cs hs h=>
          refine .tup _ cs hs fun i hi => ?_
          have M:(x::y::r).getD i default∈x::y::r:=by
           rw [List.getD_eq_getElem?_getD,List.getElem?_eq_getElem hi];exact List.getElem_mem hi
          exact Q _ M _ _ _ _ _ (h i hi)
       ·intro j e m;have m:hpSt (c.out.heap Y) (c.out.rws Y) j=some e:=m;unfold hpSt at m;split at m
        ·rename_i q C;obtain ⟨p,z,B⟩:=List.mem_map.1 (zaN C);cases B;cases hee:p.2.ee (Tup.get c.out.tys Y) id with
         | none=>rw [hee] at m;cases m
         | some e1=>
          rw [hee] at m;cases m;exact zyH Y (List.all_eq_true.1 h.2 p z) hee _
        ·exact zyG Y h.2 m
     ·refine ⟨rfl,rfl,fun k x hx => ?_,fun k e m => ?_⟩
      ·exact hx
      ·rw [zbC] at m;have hgoal:(match hpSt (zh0 (Tup.get c.out.tys Y) (rho s.nxt b) c.out.ents) (zdY (Tup.get c.out.tys Y) (rho s.nxt b) c.out.ents) k with
         | some e=>some e
         | none=>if (b.any fun p=>Nat.beq p.2 (bs k))=true then none else s.st.ent k)=some e := ?_
       ·exact hgoal
       unfold ztt at m;simp only [zao] at m;cases W:look (zh0 (Tup.get c.out.tys Y) (rho s.nxt b) c.out.ents) k with
       | some q=>
        rw [W] at m;simp only [Option.some_or] at m;obtain ⟨p,z,B⟩:=List.mem_map.1 (zaN W);have hs:=List.all_eq_true.1 hen p z;obtain ⟨e0,n⟩:=zrR Y (rho s.nxt b) hs;have hqe:q=p.2.ee (Tup.get c.out.tys Y) (rho s.nxt b):=(congrArg Prod.snd B).symm;rw [n] at hqe;subst hqe;simp only [Option.map_some] at m;have hsame:EEnt.ent (zdY (Tup.get c.out.tys Y) (rho s.nxt b) c.out.ents++(b.map fun p=>(p.2,none))++s.rws) e0=EEnt.ent (zdY (Tup.get c.out.tys Y) (rho s.nxt b) c.out.ents) e0:=by
         obtain ⟨pi,pse⟩:=p;cases pse with
         | arr E j=>rw [SE.ee] at n;split at n<;>cases n;rfl
         | box T c2=>rw [SE.ee] at n;cases n;rfl
         | out f E E1 j=>
          rw [SE.ee] at n;split at n
          ·rename_i t l hg;cases n;obtain ⟨q',hq'⟩:=zmT (g:=Tup.get c.out.tys Y) (ρ:=rho s.nxt b) z (f:=rho s.nxt b f) (q:=some ⟨E1,t,l,none⟩) (by simp only [SE.rw,hg]);have:rlen (zdY (Tup.get c.out.tys Y) (rho s.nxt b) c.out.ents++(b.map fun p=>(p.2,none))++s.rws) (rho s.nxt b f)=rlen (zdY (Tup.get c.out.tys Y) (rho s.nxt b) c.out.ents) (rho s.nxt b f):=by
            unfold rlen;rw [zao,zao,hq'];rfl
           simp only [EEnt.ent,this]
          ·cases n
        rw [hsame] at m;unfold hpSt;rw [W];simp only [Option.map_some];exact m
       | none=>
        rw [W] at m;simp only [Option.none_or] at m;cases h2:look (b.map fun p=>(p.2,(none:Option EEnt))) k with
        | some q=>
         rw [h2] at m;obtain ⟨p,_,B⟩:=List.mem_map.1 (zaN h2);cases B;cases m
        | none=>
         rw [h2] at m;simp only [Option.none_or] at m;have hnk:∀ p∈b,p.2≠k:=fun p z D=>by
          have:=zd9 (k:=k) (l:=b.map fun p=>(p.2,(none:Option EEnt)));have key:∀ (l:List (Nat×Nat)),p∈l->look (l.map fun p=>(p.2,(none:Option EEnt))) k≠none:=by
           intro l;induction l with
           | nil=>intro h;cases h
           | cons y l ih=>
            intro h N;rw [List.map_cons,zan] at N;by_cases hy:y.2=k
            ·rw [if_pos hy] at N;cases N
            ·rw [if_neg hy] at N;rcases List.mem_cons.1 h with rfl | h
             ·exact hy D
             ·exact ih h N
          exact key b z h2
         cases h3:look s.heap k with
         | some q=>
          have hkR:k < RB:=by
           have:=List.all_eq_true.1 V (k,q) (zaN h3);simpa using this
          rw [h3] at m;simp only at m;have e1:hpSt (zh0 (Tup.get c.out.tys Y) (rho s.nxt b) c.out.ents) (zdY (Tup.get c.out.tys Y) (rho s.nxt b) c.out.ents) k=none:=by
           unfold hpSt;rw [W];simp only;unfold zbi;rw [if_neg (by omega)]
          rw [e1];simp only;rw [if_neg fun J=>by
           obtain ⟨p,z,hpb⟩:=List.any_eq_true.1 J;have:=Nat.eq_of_beq_eq_true hpb;rw [zuP hkR] at this;exact hnk p z this]
          cases q with
          | none=>cases m
          | some e0=>
           simp only [Option.map_some,Option.some.injEq] at m;have hent:s.ent k=some e0:=by unfold ESt.ent;rw [h3]
           rw [zbw hent,<- m];cases e0 with
           | arr=>rfl
           | box=>rfl
           | outs=>rfl
           | out f E=>
            have C:=List.all_eq_true.1 A (k,some (.out f E)) (zaN h3);simp only [Bool.or_eq_true,Bool.not_eq_true'] at C;rcases C with C | C
            ·exfalso;have C:k∈b.map (·.2):=by simpa using C
             obtain ⟨p,z,D⟩:=List.mem_map.1 C;exact hnk p z D
            ·have C:f∉(fams c.out.ents).map (rho s.nxt b)++b.map (·.2):=fun M=>by
              rw [List.contains_eq_mem] at C;simp [M] at C
             have e2:rlen (zdY (Tup.get c.out.tys Y) (rho s.nxt b) c.out.ents++(b.map fun p=>(p.2,none))++s.rws) f=rlen s.rws f:=by
              unfold rlen;have n1:look (zdY (Tup.get c.out.tys Y) (rho s.nxt b) c.out.ents) f=none:=zd9 fun p z hpf=>by
               unfold zdY at z;obtain ⟨⟨i,se⟩,hp2,hr⟩:=List.mem_filterMap.1 z;cases se with
               | arr=>cases hr
               | box=>cases hr
               | out f2 E2 E3 j2=>
                simp only [SE.rw] at hr;split at hr
                ·cases hr;exact C (List.mem_append.2 (.inl (List.mem_map.2 ⟨f2,zqC hp2,hpf⟩)))
                ·cases hr
              have n2:look (b.map fun p=>(p.2,(none:Option RW))) f=none:=zd9 fun p z hpf=>by
               obtain ⟨p0,hp0,rfl⟩:=List.mem_map.1 z;exact C (List.mem_append.2 (.inr (List.mem_map.2 ⟨p0,hp0,hpf⟩)))
              rw [zao,zao,n1,n2];rfl
             simp only [EEnt.ent,e2]
         | none=>
          rw [h3] at m;simp only at m;have hR:=zq9 m;have n:=m;unfold zbi at m;rw [if_pos hR] at m;rw [zao,zao] at m;unfold hpSt;rw [W];simp only;cases n1:look (zdY (Tup.get c.out.tys Y) (rho s.nxt b) c.out.ents) (k % RB) with
          | some q=>
           rw [n1] at m;simp only [Option.some_or] at m;have:zbi (zdY (Tup.get c.out.tys Y) (rho s.nxt b) c.out.ents) k=some e:=by
            unfold zbi;rw [if_pos hR,n1];exact m
           rw [this]
          | none=>
           rw [n1] at m;simp only [Option.none_or] at m;have:zbi (zdY (Tup.get c.out.tys Y) (rho s.nxt b) c.out.ents) k=none:=by
            unfold zbi;rw [if_pos hR,n1]
           rw [this];simp only;cases n2:look (b.map fun p=>(p.2,(none:Option RW))) (k % RB) with
           | some q=>
            rw [n2] at m;obtain ⟨p0,_,B⟩:=List.mem_map.1 (zaN n2);have hq:(none:Option RW)=q:=congrArg Prod.snd B;rw [<- hq] at m;cases m
           | none=>
            rw [n2] at m;simp only [Option.none_or] at m;have hbs:bs k=k % RB:=by unfold bs;rw [if_pos hR]
            rw [if_neg fun J=>by
             obtain ⟨p,z,hpb⟩:=List.any_eq_true.1 J;have D:=Nat.eq_of_beq_eq_true hpb;rw [hbs] at D;have key:∀ (l:List (Nat×Nat)),p∈l->look (l.map fun p=>(p.2,(none:Option RW))) (k % RB)≠none:=by
              intro l;induction l with
              | nil=>intro h;cases h
              | cons y l ih=>
               intro h N;rw [List.map_cons,zan] at N;by_cases hy:y.2=k % RB
               ·rw [if_pos hy] at N;cases N
               ·rw [if_neg hy] at N;rcases List.mem_cons.1 h with rfl | h
                ·exact hy D
                ·exact ih h N
             exact key b z n2]
            rw [zoI V hR];unfold zbi;rw [if_pos hR];exact m
     ·exact ⟨ztt s c b d Y,rfl,⟨⟨[_],rfl⟩,⟨_,rfl⟩,⟨_,rfl⟩,Nat.le_add_right _ _,rfl⟩,hK⟩
end
end
end Go.Ab
