import Derived.Test.YtmogekkikaelhaaEv40n10
set_option linter.unusedVariables false
set_option linter.unusedSimpArgs false
namespace Go.Ab
noncomputable section
open Enc (enc)
theorem zo9 {mp:List (Nat×Option Nat)} {idf:Bool} {i o:Nat} (h:look mp i=some (some o)):ren idf mp (.own i)=some (.own o):=by simp only [ren,ziN h]
theorem zpa {mp:List (Nat×Option Nat)} {idf:Bool} {i o k:Nat} (h:look mp i=some (some o)):ren idf mp (.ptr i k)=some (.ptr o k):=by simp only [ren,ziN h]
theorem zr7 {mp:List (Nat×Option Nat)} {idf:Bool} {f:Nat} {l m:List AV} (h:renL idf mp l=some m):ren idf mp (.fn f l)=some (.fn f m):=by simp only [ren,h]
theorem zpU {mp:List (Nat×Option Nat)} {idf:Bool} {l m:List AV} (h:renL idf mp l=some m):ren idf mp (.agg l)=some (.agg m):=by simp only [ren,h]
theorem zvd {mp:List (Nat×Option Nat)} {idf:Bool} {x:D}:ren idf mp (.d x)=some (.d x):=rfl
theorem zsT {mp:List (Nat×Option Nat)} {idf:Bool} {x:D}:ren idf mp (.addr x)=some (.addr x):=rfl
structure Mono (a b:Vs×Ids):Prop where
 vs:∀ p∈a.1,p∈b.1
 ids:∀ i o,look a.2 i=some o->look b.2 i=some o
theorem Mono.refl (a:Vs×Ids):Mono a a:=⟨fun _ h=>h,fun _ _ h=>h⟩
theorem Mono.trans {a b c:Vs×Ids} (h:Mono a b) (k:Mono b c):Mono a c:=⟨fun p hp=>k.vs p (h.vs p hp),fun i o ho=>k.ids i o (h.ids i o ho)⟩
def zms (idf:Bool) (mp:List (Nat×Option Nat)) (i o:Nat):Prop:=look mp i=some (some o)\/(idf=true/\pinB i=true/\o=i/\lk mp i=none)
theorem zms.own {idf:Bool} {mp:List (Nat×Option Nat)} {i o:Nat} (h:zms idf mp i o):ren idf mp (.own i)=some (.own o):=by
 rcases h with h | ⟨rfl,h1,rfl,h2⟩
 ·exact zo9 h
 ·simp only [ren,h2,h1,Bool.and_self,cond_true]
theorem zms.ptr {idf:Bool} {mp:List (Nat×Option Nat)} {i o k:Nat} (h:zms idf mp i o):ren idf mp (.ptr i k)=some (.ptr o k):=by
 rcases h with h | ⟨rfl,h1,rfl,h2⟩
 ·exact zpa h
 ·simp only [ren,h2,h1,Bool.and_self,cond_true]
theorem zmR {idf:Bool} {mp:List (Nat×Option Nat)} {f f':Nat} (hk:∀ k q,look mp k=some q->k < RB) (hf:f < RB) (h:zms idf mp f f') (n:Nat):renL idf mp (famA f n)=some (famA f' n):=by
 unfold famA;generalize List.range n=l;induction l with
 | nil=>rfl
 | cons x l ih=>
  have hn:look mp (rid f x)=none:=by
   cases hl:look mp (rid f x) with
   | none=>rfl
   | some q=>have:=hk _ q hl;have:=zaP f x;omega
  have e:ren idf mp (.own (rid f x))=some (.own (rid f' x)):=by
   rcases h with h | ⟨rfl,h1,rfl,h2⟩
   ·simp only [ren,zlh hf hn h]
   ·have e1:lk mp (rid f' x)=none:=by
     rw [zlg hf] at h2;unfold lk;rw [hn];simp only;rw [if_pos (zaP f' x),zbc hf,h2]
    have e2:pinB (rid f' x)=true:=ziZ.2 (by rw [zjG hf];exact zeK h1);simp only [ren,e1,e2,Bool.and_self,cond_true]
  rw [List.map_cons,List.map_cons,renL,e,ih]
structure Agr (acc:Vs×Ids) (g:Nat->EV) (idf:Bool) (mp:List (Nat×Option Nat)):Prop where
 vs:∀ p∈acc.1,g p.1=p.2
 ids:∀ i o,look acc.2 i=some o->zms idf mp i o
theorem Agr.mono {a b:Vs×Ids} {g:Nat->EV} {idf:Bool} {mp:List (Nat×Option Nat)} (h:Agr b g idf mp) (m:Mono a b):Agr a g idf mp:=
 ⟨fun p hp=>h.vs p (m.vs p hp),fun i o ho=>h.ids i o (m.ids i o ho)⟩
mutual
theorem zm7:∀ {sv:SV} {x:EV} {acc acc':Vs×Ids},mch sv x acc=some acc'->Mono acc acc'/\∀ g mp idf,Agr acc' g idf mp->ren idf mp (sv.ev g id).av=some x.av
 | .v j,x,(vs,ids),acc',h=>by
  cases x<;>simp only [mch,reduceCtorEq,Option.some.injEq] at h
  case d t x=>
   subst h;refine ⟨⟨fun p hp=>List.mem_cons_of_mem _ hp,fun _ _ h=>h⟩,fun g mp idf ha => ?_⟩;have:=ha.vs (j,.d t x) (by simp);simp only at this;rw [SV.ev,this];rfl
 | .own i,x,(vs,ids),acc',h=>by
  cases x<;>simp only [mch,reduceCtorEq] at h
  case own o=>
   split at h
   ·rename_i ids' hi;cases h;obtain ⟨h1,h2⟩:=zdX hi;exact ⟨⟨fun _ h=>h,h2⟩,fun g mp idf ha=>(ha.ids i o h1).own⟩
   ·cases h
 | .ptr i a,x,(vs,ids),acc',h=>by
  cases x<;>simp only [mch,reduceCtorEq] at h
  case ptr o b=>
   have hb:=(zaa h).1;replace h:=(zaa h).2;have:=Nat.eq_of_beq_eq_true hb;subst this;split at h
   ·rename_i ids' hi;cases h;obtain ⟨h1,h2⟩:=zdX hi;exact ⟨⟨fun _ h=>h,h2⟩,fun g mp idf ha=>(ha.ids i o h1).ptr⟩
   ·cases h
 | .addr j,x,(vs,ids),acc',h=>by
  cases x<;>simp only [mch,reduceCtorEq,Option.some.injEq] at h
  case addr t x=>
   subst h;refine ⟨⟨fun p hp=>List.mem_cons_of_mem _ hp,fun _ _ h=>h⟩,fun g mp idf ha => ?_⟩;have:=ha.vs (j,.d t x) (by simp);simp only at this;rw [SV.ev,this];rfl
 | .fn f l,x,acc,acc',h=>by
  cases x<;>simp only [mch,reduceCtorEq] at h
  case fn g' m=>
   have hb:=(zaa h).1;replace h:=(zaa h).2;have:=Nat.eq_of_beq_eq_true hb;subst this;obtain ⟨h1,h2⟩:=zgO h;exact ⟨h1,fun g mp idf ha=>by rw [SV.ev];exact zr7 (h2 g mp idf ha)⟩
 | .agg l,x,acc,acc',h=>by
  cases x<;>simp only [mch,reduceCtorEq] at h
  case agg m=>
   obtain ⟨h1,h2⟩:=zgO h;exact ⟨h1,fun g mp idf ha=>by rw [SV.ev];exact zpU (h2 g mp idf ha)⟩
 | .nil,x,acc,acc',h=>by
  cases x<;>simp only [mch,reduceCtorEq,Option.some.injEq] at h
  case nil=>subst h;exact ⟨Mono.refl _,fun _ _ _ _=>rfl⟩
 | .any,x,acc,acc',h=>by cases x<;>simp only [mch,reduceCtorEq] at h
theorem zgO:∀ {l:List SV} {m:List EV} {acc acc':Vs×Ids},mchL l m acc=some acc'->Mono acc acc'/\∀ g mp idf,Agr acc' g idf mp->renL idf mp (EV.avL (SV.evL g id l))=some (EV.avL m)
 | [],m,acc,acc',h=>by
  cases m<;>simp only [mchL,reduceCtorEq,Option.some.injEq] at h;subst h;exact ⟨Mono.refl _,fun _ _ _ _=>rfl⟩
 | x::l,m,acc,acc',h=>by
  cases m<;>simp only [mchL,reduceCtorEq] at h;rename_i y m;split at h
  ·rename_i acc1 h1;obtain ⟨g1,g2⟩:=zm7 h1;obtain ⟨k1,k2⟩:=zgO h;refine ⟨g1.trans k1,fun g mp idf ha => ?_⟩;rw [SV.evL,EV.avL,EV.avL,renL,g2 g mp idf (ha.mono k1),k2 g mp idf ha]
  ·cases h
end
theorem zco {s:ESt}:∀ {l:List (Nat×SE)} {acc acc':Vs×Ids},mchE s l acc=some acc'->Mono acc acc'
 | [],acc,acc',h=>by simp only [mchE,Option.some.injEq] at h;subst h;exact Mono.refl _
 | (i,.arr E j)::r,(vs,ids),acc',h=>by
  simp only [mchE] at h;split at h
  ·split at h
   ·replace h:=(zaa h).2
    have hm:=zco h;exact ⟨fun p hp=>hm.vs p (List.mem_cons_of_mem _ hp),hm.ids⟩
   ·cases h
  ·cases h
 | (i,.box T c)::r,(vs,ids),acc',h=>by
  simp only [mchE] at h;split at h
  ·split at h
   ·replace h:=(zaa h).2
    split at h
    ·rename_i acc1 h1;exact (zgO h1).1.trans (zco h)
    ·cases h
   ·cases h
  ·cases h
 | (i,.out f E E1 j)::r,(vs,ids),acc',h=>by
  simp only [mchE] at h;split at h
  ·split at h
   ·split at h
    ·replace h:=(zaa h).2
     split at h
     ·rename_i ids' hi;have hm:=zco h;obtain ⟨h1,h2⟩:=zdX hi;exact ⟨fun p hp=>hm.vs p (List.mem_cons_of_mem _ hp),fun i o ho=>hm.ids i o (h2 i o ho)⟩
     ·cases h
    ·cases h
   ·cases h
  ·cases h
theorem zcS {s:ESt}:∀ {l:List (Nat×SE)} {acc acc':Vs×Ids},mchE s l acc=some acc'->∀ {i f E E1 j:Nat},(i,SE.out f E E1 j)∈l->
  ∃ o f' t ls,look acc'.2 i=some o/\s.ent o=some (.out f' E)/\look acc'.2 f=some f'/\look s.rws f'=some (some ⟨E1,t,ls,none⟩)/\((j,.d (.list (.list t)) ls):Nat×EV)∈acc'.1/\f < RB/\f' < RB
 | [],_,_,_,_,_,_,_,_,hp=>by cases hp
 | (i',.arr E' j')::r,(vs,ids),acc',h,i,f,E,E1,j,hp=>by
  simp only [mchE] at h;split at h
  ·split at h
   ·replace h:=(zaa h).2
    rcases List.mem_cons.1 hp with hp | hp
    ·cases hp
    ·exact zcS h hp
   ·cases h
  ·cases h
 | (i',.box T' c')::r,(vs,ids),acc',h,i,f,E,E1,j,hp=>by
  simp only [mchE] at h;split at h
  ·split at h
   ·replace h:=(zaa h).2
    split at h
    ·rcases List.mem_cons.1 hp with hp | hp
     ·cases hp
     ·exact zcS h hp
    ·cases h
   ·cases h
  ·cases h
 | (i',.out f2 E2 E3 j2)::r,(vs,ids),acc',h,i,f,E,E1,j,hp=>by
  simp only [mchE] at h;split at h
  ·rename_i o ho;split at h
   ·rename_i f' E' he;split at h
    ·rename_i E1' t ls hr;have hb:=(zaa h).1;replace h:=(zaa h).2;simp only [Bool.and_eq_true] at hb;obtain ⟨⟨⟨b1,b2⟩,b3⟩,b4⟩:=hb;have e1:=Nat.eq_of_beq_eq_true b1;have e2:=Nat.eq_of_beq_eq_true b2;subst e1;subst e2;split at h
     ·rename_i ids' hi;obtain ⟨h1,h2⟩:=zdX hi;have hm:=zco h;rcases List.mem_cons.1 hp with hp | hp
      ·cases hp;exact ⟨o,f',t,ls,hm.ids _ _ (h2 _ _ ho),he,hm.ids _ _ h1,hr,hm.vs _ (by simp),by simpa using b4,by simpa using b3⟩
      ·exact zcS h hp
     ·cases h
    ·cases h
   ·cases h
  ·cases h
theorem zpM {s:ESt} {l:List (Nat×SE)} {acc acc':Vs×Ids} (h:mchE s l acc=some acc') {g:Nat->EV} {idf:Bool} {mp:List (Nat×Option Nat)} (ha:Agr acc' g idf mp) {f:Nat} {q:Option RW} (hq:look (zbr g id l) f=some q):
  ∃ f',look acc'.2 f=some f'/\look s.rws f'=some q/\f < RB/\f' < RB:=by
 have hm:=zak hq;unfold zbr at hm;obtain ⟨⟨i,se⟩,hp,hr⟩:=List.mem_filterMap.1 hm;cases se with
 | arr=>cases hr
 | box=>cases hr
 | out f2 E E1 j=>
  obtain ⟨o,f',t,ls,g1,g2,g3,g4,g5,g6,g7⟩:=zcS h hp;have h1:=ha.vs _ g5;simp only at h1;simp only [SE.rw,h1,id,Option.some.injEq,Prod.mk.injEq] at hr;obtain ⟨rfl,rfl⟩:=hr;exact ⟨f',g3,g4,g6,g7⟩
theorem zfx {g:Nat->EV} {ρ:Nat->Nat}:∀ {l:List (Nat×SE)} {p:Nat×SE} {f:Nat} {q:Option RW},p∈l->p.2.rw g ρ=some (f,q)->∃ q',look (zbr g ρ l) f=some q'
 | y::l,p,f,q,hp,hq=>by
  unfold zbr;rw [List.filterMap_cons];cases hy:y.2.rw g ρ with
  | none=>
   rcases List.mem_cons.1 hp with rfl | hp
   ·rw [hy] at hq;cases hq
   ·exact zfx hp hq
  | some z=>
   obtain ⟨zf,zq⟩:=z;simp only;rw [zae];by_cases hz:zf=f
   ·rw [if_pos hz];exact ⟨_,rfl⟩
   ·rw [if_neg hz];rcases List.mem_cons.1 hp with rfl | hp
    ·rw [hy] at hq;cases hq;exact absurd rfl hz
    ·exact zfx hp hq
theorem zrQ {s:ESt} {l:List (Nat×SE)} {acc acc':Vs×Ids} (h:mchE s l acc=some acc') {g:Nat->EV} {idf:Bool} {mp:List (Nat×Option Nat)} (ha:Agr acc' g idf mp) {i f E E1 j:Nat} (hp:(i,SE.out f E E1 j)∈l) {f':Nat} (hf:look acc'.2 f=some f'):
  rlen (zbr g id l) f=rlen s.rws f':=by
 obtain ⟨o,f2,t,ls,g1,g2,g3,g4,g5,g6,g7⟩:=zcS h hp;rw [hf] at g3;cases g3;have h1:=ha.vs _ g5;simp only at h1;obtain ⟨q',hq⟩:=zfx (g:=g) (ρ:=id) hp (f:=f) (q:=some ⟨E1,t,ls,none⟩) (by simp only [SE.rw,h1,id]);obtain ⟨f3,k1,k2,_⟩:=zpM h ha hq;rw [hf] at k1;cases k1;unfold rlen;rw [hq,k2]
theorem zsK {s:ESt} {l:List (Nat×SE)} {acc acc':Vs×Ids} (h:mchE s l acc=some acc') {g:Nat->EV} {idf:Bool} {mp:List (Nat×Option Nat)} (ha:Agr acc' g idf mp) {k:Nat} {e:Ent} (hk:zar (zbr g id l) k=some e):
  ∃ f f' x,k=rid f x/\look acc'.2 f=some f'/\f < RB/\f' < RB/\zar s.rws (rid f' x)=some e:=by
 unfold zar at hk;split at hk
 ·rename_i hR;split at hk
  ·rename_i r hr;obtain ⟨f',h1,h2,h3,h4⟩:=zpM h ha hr;refine ⟨k % RB,f',k / RB - 1,zfw hR,h1,h3,h4,?_⟩;unfold zar;rw [if_pos (zaP _ _),zbc h4,h2];simp only;rw [zdI h4];exact hk
  ·cases hk
 ·cases hk
theorem zfm {s:ESt}:∀ {l:List (Nat×SE)} {acc acc':Vs×Ids},mchE s l acc=some acc'->∀ g idf mp,Agr acc' g idf mp->(∀ k q,look mp k=some q->k < RB)->∀ p∈l,
  ∃ o e e',look acc'.2 p.1=some o/\s.ent o=some e/\p.2.ee g id=some e'/\∀ rs,(∀ f E E1 j f',p.2 = .out f E E1 j->look acc'.2 f=some f'->rlen rs f=rlen s.rws f')->renE idf mp (e'.ent rs)=some (e.ent s.rws)
 | [],_,_,_,_,_,_,_,_,p,hp=>by cases hp
 | (i,.arr E j)::r,(vs,ids),acc',h,g,idf,mp,ha,hk,p,hp=>by
  simp only [mchE] at h;split at h
  ·rename_i o ho;split at h
   ·rename_i E' t l he;have hb:=(zaa h).1;replace h:=(zaa h).2;have:=Nat.eq_of_beq_eq_true hb;subst this;have hm:=zco h;rcases List.mem_cons.1 hp with rfl | hp
    ·have h1:=ha.vs _ (hm.vs (j,.d (.list t) l) (by simp));simp only at h1;exact ⟨o,_,.arr E t l,hm.ids i o ho,he,by rw [SE.ee,h1],fun _ _=>rfl⟩
    ·exact zfm h g idf mp ha hk p hp
   ·cases h
  ·cases h
 | (i,.box T c)::r,(vs,ids),acc',h,g,idf,mp,ha,hk,p,hp=>by
  simp only [mchE] at h;split at h
  ·rename_i o ho;split at h
   ·rename_i T' c' he;have hb:=(zaa h).1;replace h:=(zaa h).2;have:=Nat.eq_of_beq_eq_true hb;subst this;split at h
    ·rename_i acc1 h1;have hm:=zco h;obtain ⟨g1,g2⟩:=zgO h1;rcases List.mem_cons.1 hp with rfl | hp
     ·refine ⟨o,_,.box T (SV.evL g id c),hm.ids i o (g1.ids i o ho),he,rfl,fun _ _ => ?_⟩;simp only [EEnt.ent,renE,g2 g mp idf (ha.mono hm)]
     ·exact zfm h g idf mp ha hk p hp
    ·cases h
   ·cases h
  ·cases h
 | (i,.out f E E1 j)::r,(vs,ids),acc',h0,g,idf,mp,ha,hk,p,hp=>by
  have h:=h0;simp only [mchE] at h;split at h
  ·split at h
   ·split at h
    ·replace h:=(zaa h).2
     split at h
     ·rcases List.mem_cons.1 hp with rfl | hp
      ·obtain ⟨o,f',t,ls,g1,g2,g3,g4,g5,g6,g7⟩:=zcS h0 (i:=i) (f:=f) (E:=E) (E1:=E1) (j:=j) (by simp);have h1:=ha.vs _ g5;simp only at h1;refine ⟨o,_,.out f E,g1,g2,by rw [SE.ee,h1];rfl,fun rs hrs => ?_⟩;have e:=hrs f E E1 j f' rfl g3;simp only [EEnt.ent,renE,e,zmR hk g6 (ha.ids f f' g3)]
      ·exact zfm h g idf mp ha hk p hp
     ·cases h
    ·cases h
   ·cases h
  ·cases h
structure MonoA (a b:Vs×Ids×List Nat):Prop where
 vs:∀ p∈a.1,p∈b.1
 ids:∀ i o,look a.2.1 i=some o->look b.2.1 i=some o
 ln:∀ i∈a.2.2,i∈b.2.2
theorem MonoA.refl (a:Vs×Ids×List Nat):MonoA a a:=⟨fun _ h=>h,fun _ _ h=>h,fun _ h=>h⟩
theorem MonoA.trans {a b c:Vs×Ids×List Nat} (h:MonoA a b) (k:MonoA b c):MonoA a c:=⟨fun p hp=>k.vs p (h.vs p hp),fun i o ho=>k.ids i o (h.ids i o ho),fun i hi=>k.ln i (h.ln i hi)⟩
theorem znV {s:ESt} {cm:List (Nat×Nat)} {ln:LN} {oid f E:Nat} {r:RW} (he:s.ent oid=some (.out f E)) (hw:zeT s f=some r) (h1':oid∈ln) (h2':f∈ln.l):zbH s.st cm ln (.own oid) (.d (encD (.list (.list r.t)) r.l)):=by
 obtain ⟨h1,h2,h3,h4⟩:=zbU hw;have e:encD (.list (.list r.t)) r.l = .sl 24 ((r.l.map fun x=>x.map (enc:r.t.den->D)).map (.sl r.t.bts)):=by
  rw [List.map_map];rfl
 rw [e];have hrow:∀ j,(r.l.map fun x=>x.map (enc:r.t.den->D)).getD j default=(r.l.getD j []).map enc:=fun j=>by
  simp only [List.getD_eq_getElem?_getD,List.getElem?_map];cases r.l[j]? <;>rfl
 refine zbH.lendOut (Er:=r.E) (sz:=r.t.sz) (m:=r.l.length) (zic he h1) h1' (zbj _ _) (by simp) fun k hk=>⟨rid f k,zbA hk,.inr ⟨zaP f k,by rw [zbc h3];exact h2'⟩,?_⟩
 rw [hrow];exact zcW h2 h3 h1 (by rw [h4];simp) hk
theorem ziV {s:ESt}:∀ {t:Ty} {l l2:List EV} {ln ln2:List Nat} {x:t.den},zbQ s t l ln=some (x,l2,ln2)->∀ i∈ln,i∈ln2:=by
 intro t;induction t with
 | unit=>intro l l2 ln ln2 x h;simp only [zbQ,Option.some.injEq,Prod.mk.injEq] at h;intro i hi;rw [<- h.2.2];exact hi
 | pair a b iha ihb=>
  intro l l2 ln ln2 x h;simp only [zbQ] at h;split at h
  ·rename_i y l1 ln1 h1;split at h
   ·rename_i z l3 ln3 h3;cases h;exact fun i hi=>ihb h3 i (iha h1 i hi)
   ·cases h
  ·cases h
 | list u _=>
  intro l l2 ln ln2 x h;cases l with
  | nil=>cases h
  | cons c l=>
   cases c<;>simp only [zbQ] at h
   case own id=>
    split at h
    ·split at h
     ·cases h;exact fun i hi=>List.mem_cons_of_mem _ hi
     ·cases h
    ·split at h
     ·split at h
      ·cases h;exact fun i hi=>List.mem_cons_of_mem _ (List.mem_cons_of_mem _ hi)
      ·cases h
     ·cases h
    ·cases h
   all_goals (split at h<;>first | (cases h;exact fun i hi=>hi) | cases h)
 | int k=>intro l l2 ln ln2 x h;cases l with
  | nil=>cases h
  | cons c l=>cases c<;>simp only [zbQ] at h<;>(split at h<;>first | (cases h;exact fun i hi=>hi) | cases h)
 | bool=>intro l l2 ln ln2 x h;cases l with
  | nil=>cases h
  | cons c l=>cases c<;>simp only [zbQ] at h<;>(split at h<;>first | (cases h;exact fun i hi=>hi) | cases h)
 | str=>intro l l2 ln ln2 x h;cases l with
  | nil=>cases h
  | cons c l=>cases c<;>simp only [zbQ] at h<;>(split at h<;>first | (cases h;exact fun i hi=>hi) | cases h)
 | tree u _=>intro l l2 ln ln2 x h;cases l with
  | nil=>cases h
  | cons c l=>cases c<;>simp only [zbQ] at h<;>(split at h<;>first | (cases h;exact fun i hi=>hi) | cases h)
def zj8 (σ:St) (ln:List Nat):List AV->List D->Prop
 | [],ds=>ds=[]
 | x::xs,d::ds=>zim σ ⟨ln⟩ x d/\zj8 σ ln xs ds
 | _::_,[]=>False
theorem zj8.append {σ:St} {ln:List Nat}:∀ {as:List AV} {ds:List D} {bs:List AV} {es:List D},zj8 σ ln as ds->zj8 σ ln bs es->zj8 σ ln (as++bs) (ds++es)
 | [],ds,_,_,h,k=>by have:ds=[]:=h;subst this;exact k
 | _::_,_::_,_,_,h,k=>⟨h.1,zj8.append h.2 k⟩
 | _::_,[],_,_,h,_=>h.elim
theorem zj8.get {σ:St} {ln:List Nat}:∀ {as:List AV} {ds:List D},zj8 σ ln as ds->as.length=ds.length/\∀ i,i < as.length->zim σ ⟨ln⟩ (as.getD i default) (ds.getD i default)
 | [],ds,h=>by have:ds=[]:=h;subst this;exact ⟨rfl,by simp⟩
 | _::_,_::_,h=>by
  obtain ⟨h1,h2⟩:=zj8.get h.2;refine ⟨by simp [h1],fun i hi => ?_⟩;cases i with
  | zero=>exact h.1
  | succ i=>simpa using h2 i (by simpa using hi)
 | _::_,[],h=>h.elim
theorem znd {s:ESt}:∀ {t:Ty} {l l2:List EV} {ln ln2:List Nat} {x:t.den},zbQ s t l ln=some (x,l2,ln2)->∀ L:List Nat,(∀ i∈ln2,i∈L)->∃ l1,l=l1++l2/\zj8 s.st L (EV.avL l1) (encD t x).cells:=by
 have one:∀ {t:Ty} {c:EV} {l l2:List EV} {ln ln2:List Nat} {x:t.den} {L:List Nat},t.agg=false->(match c.as1 t with | some x=>some (x,l,ln) | none=>none)=some (x,l2,ln2)->∃ l1,c::l=l1++l2/\zj8 s.st L (EV.avL l1) (encD t x).cells:=by
  intro t c l l2 ln ln2 x L ht h;split at h
  ·rename_i y hy;cases h;refine ⟨[c],rfl,?_⟩;rw [zca ht];rcases zmt hy with e | ⟨rfl,u,rfl,hu⟩
   ·exact ⟨.inl e,rfl⟩
   ·rw [hu];exact ⟨.inr (.inl ⟨rfl,_,rfl⟩),rfl⟩
  ·cases h
 intro t;induction t with
 | unit=>intro l l2 ln ln2 x h L hL;simp only [zbQ,Option.some.injEq,Prod.mk.injEq] at h;exact ⟨[],by rw [h.2.1];rfl,rfl⟩
 | pair a b iha ihb=>
  intro l l2 ln ln2 x h L hL;simp only [zbQ] at h;split at h
  ·rename_i y l1 ln1 h1;split at h
   ·rename_i z l3 ln3 h3;cases h;obtain ⟨m1,rfl,k1⟩:=iha h1 L (fun i hi=>hL i (ziV h3 i hi));obtain ⟨m2,rfl,k2⟩:=ihb h3 L hL;refine ⟨m1++m2,by rw [List.append_assoc],?_⟩;rw [zc9];exact zj8.append k1 k2
   ·cases h
  ·cases h
 | list u _=>
  intro l l2 ln ln2 x h L hL;cases l with
  | nil=>cases h
  | cons c l=>
   by_cases hc:∃ id,c = .own id
   ·obtain ⟨id,rfl⟩:=hc;simp only [zbQ] at h;split at h
    ·rename_i E te xs he;split at h
     ·rename_i y hy;cases h;obtain ⟨e,rfl⟩:=zaz hy;cases e;refine ⟨[.own id],rfl,⟨.inr (.inr (.inl ⟨id,E,_,_,_,rfl,LN.mem (hL id (by simp)),zat he,rfl⟩)),rfl⟩⟩
     ·cases h
    ·rename_i f E he;split at h
     ·rename_i r hw;split at h
      ·rename_i y hy;cases h;obtain ⟨e,rfl⟩:=zaz hy;cases e;exact ⟨[.own id],rfl,⟨.inr (.inr (.inr (znV he hw (LN.mem (hL id (by simp))) (hL f (by simp))))),rfl⟩⟩
      ·cases h
     ·cases h
    ·cases h
   ·refine one (t := .list u) (ln:=ln) (ln2:=ln2) rfl ?_;cases c<;>first | exact h | exact absurd ⟨_,rfl⟩ hc
 | int k=>intro l l2 ln ln2 x h L hL;cases l with
  | nil=>cases h
  | cons c l=>exact one (t := .int k) (ln:=ln) (ln2:=ln2) rfl (by cases c<;>exact h)
 | bool=>intro l l2 ln ln2 x h L hL;cases l with
  | nil=>cases h
  | cons c l=>exact one (t := .bool) (ln:=ln) (ln2:=ln2) rfl (by cases c<;>exact h)
 | str=>intro l l2 ln ln2 x h L hL;cases l with
  | nil=>cases h
  | cons c l=>exact one (t := .str) (ln:=ln) (ln2:=ln2) rfl (by cases c<;>exact h)
 | tree u _=>intro l l2 ln ln2 x h L hL;cases l with
  | nil=>cases h
  | cons c l=>exact one (t := .tree u) (ln:=ln) (ln2:=ln2) rfl (by cases c<;>exact h)
end
end Go.Ab
