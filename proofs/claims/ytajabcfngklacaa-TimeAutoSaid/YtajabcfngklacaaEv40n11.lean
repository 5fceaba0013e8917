import Derived.Test.YtajabcfngklacaaEv40n10
set_option linter.unusedVariables false
set_option linter.unusedSimpArgs false
namespace Go.Ab
noncomputable section
open Enc (enc)
theorem zyB {mp:List (Nat×Option Nat)} {a:Bool} {i o:Nat} (h:look mp i=some (some o)):ren a mp (.own i)=some (.own o):=by simp only [ren,zqL h]
theorem zyC {mp:List (Nat×Option Nat)} {a:Bool} {i o k:Nat} (h:look mp i=some (some o)):ren a mp (.ptr i k)=some (.ptr o k):=by simp only [ren,zqL h]
theorem zBL {mp:List (Nat×Option Nat)} {a:Bool} {f:Nat} {l m:List AV} (h:renL a mp l=some m):ren a mp (.fn f l)=some (.fn f m):=by simp only [ren,h]
theorem zzn {mp:List (Nat×Option Nat)} {a:Bool} {l m:List AV} (h:renL a mp l=some m):ren a mp (.agg l)=some (.agg m):=by simp only [ren,h]
theorem zFe {mp:List (Nat×Option Nat)} {a:Bool} {x:D}:ren a mp (.d x)=some (.d x):=rfl
theorem zCH {mp:List (Nat×Option Nat)} {a:Bool} {x:D}:ren a mp (.addr x)=some (.addr x):=rfl
structure Mono (a b:Vs×Ids):Prop where
 vs:∀ p∈a.1,p∈b.1
 ids:∀ i o,look a.2 i=some o->look b.2 i=some o
theorem Mono.refl (a:Vs×Ids):Mono a a:=⟨fun _ h=>h,fun _ _ h=>h⟩
theorem Mono.trans {a b c:Vs×Ids} (h:Mono a b) (k:Mono b c):Mono a c:=⟨fun p d=>k.vs p (h.vs p d),fun i o e=>k.ids i o (h.ids i o e)⟩
def zvI (a:Bool) (mp:List (Nat×Option Nat)) (i o:Nat):Prop:=look mp i=some (some o)\/(a=true/\pinB i=true/\o=i/\lk mp i=none)
theorem zvI.own {a:Bool} {mp:List (Nat×Option Nat)} {i o:Nat} (h:zvI a mp i o):ren a mp (.own i)=some (.own o):=by
 rcases h with h | ⟨rfl,h1,rfl,h2⟩
 ·exact zyB h
 ·simp only [ren,h2,h1,Bool.and_self,cond_true]
theorem zvI.ptr {a:Bool} {mp:List (Nat×Option Nat)} {i o k:Nat} (h:zvI a mp i o):ren a mp (.ptr i k)=some (.ptr o k):=by
 rcases h with h | ⟨rfl,h1,rfl,h2⟩
 ·exact zyC h
 ·simp only [ren,h2,h1,Bool.and_self,cond_true]
theorem zv9 {a:Bool} {mp:List (Nat×Option Nat)} {f b:Nat} (g:∀ k q,look mp k=some q->k < RB) (c:f < RB) (h:zvI a mp f b) (n:Nat):renL a mp (famA f n)=some (famA b n):=by
 unfold famA;generalize List.range n=l;induction l with
 | nil=>rfl
 | cons x l o=>
  have d:look mp (rid f x)=none:=by
   cases m:look mp (rid f x) with
   | none=>rfl
   | some q=>have:=g _ q m;have:=zdX f x;omega
  have e:ren a mp (.own (rid f x))=some (.own (rid b x)):=by
   rcases h with h | ⟨rfl,h1,rfl,h2⟩
   ·simp only [ren,zt0 c d h]
   ·have i:lk mp (rid b x)=none:=by
     rw [ztZ c] at h2;unfold lk;rw [d];simp only;rw [if_pos (zdX b x),ze1 c,h2]
    have j:pinB (rid b x)=true:=zqU.2 (by rw [ztw c];exact znl h1);simp only [ren,i,j,Bool.and_self,cond_true]
  rw [List.map_cons,List.map_cons,renL,e,o]
structure Agr (acc:Vs×Ids) (g:Nat->EV) (idf:Bool) (mp:List (Nat×Option Nat)):Prop where
 vs:∀ p∈acc.1,g p.1=p.2
 ids:∀ i o,look acc.2 i=some o->zvI idf mp i o
theorem Agr.mono {a b:Vs×Ids} {g:Nat->EV} {c:Bool} {mp:List (Nat×Option Nat)} (h:Agr b g c mp) (m:Mono a b):Agr a g c mp:=
 ⟨fun p d=>h.vs p (m.vs p d),fun i o e=>h.ids i o (m.ids i o e)⟩
mutual
theorem zwo:∀ {sv:SV} {x:EV} {acc acc':Vs×Ids},mch sv x acc=some acc'->Mono acc acc'/\∀ g mp c,Agr acc' g c mp->ren c mp (sv.ev g id).av=some x.av
 | .v j,x,(vs,ids),acc',h=>by
  cases x<;>simp only [mch,reduceCtorEq,Option.some.injEq] at h
  case d t x=>
   subst h;refine ⟨⟨fun p r=>List.mem_cons_of_mem _ r,fun _ _ h=>h⟩,fun g mp c e => ?_⟩;have:=e.vs (j,.d t x) (by simp);simp only at this;rw [SV.ev,this];rfl
 | .own i,x,(vs,ids),acc',h=>by
  cases x<;>simp only [mch,reduceCtorEq] at h
  case own o=>
   split at h
   ·rename_i q s;cases h;obtain ⟨k,n⟩:=zkF s;exact ⟨⟨fun _ h=>h,n⟩,fun g mp c e=>(e.ids i o k).own⟩
   ·cases h
 | .ptr i a,x,(vs,ids),acc',h=>by
  cases x<;>simp only [mch,reduceCtorEq] at h
  case ptr o b=>
   have u:=(zad h).1;replace h:=(zad h).2;have:=Nat.eq_of_beq_eq_true u;subst this;split at h
   ·rename_i q s;cases h;obtain ⟨k,n⟩:=zkF s;exact ⟨⟨fun _ h=>h,n⟩,fun g mp c e=>(e.ids i o k).ptr⟩
   ·cases h
 | .addr j,x,(vs,ids),acc',h=>by
  cases x<;>simp only [mch,reduceCtorEq,Option.some.injEq] at h
  case addr t x=>
   subst h;refine ⟨⟨fun p r=>List.mem_cons_of_mem _ r,fun _ _ h=>h⟩,fun g mp c e => ?_⟩;have:=e.vs (j,.d t x) (by simp);simp only at this;rw [SV.ev,this];rfl
 | .fn f l,x,acc,acc',h=>by
  cases x<;>simp only [mch,reduceCtorEq] at h
  case fn g' m=>
   have u:=(zad h).1;replace h:=(zad h).2;have:=Nat.eq_of_beq_eq_true u;subst this;obtain ⟨k,n⟩:=zos h;exact ⟨k,fun g mp c e=>by rw [SV.ev];exact zBL (n g mp c e)⟩
 | .agg l,x,acc,acc',h=>by
  cases x<;>simp only [mch,reduceCtorEq] at h
  case agg m=>
   obtain ⟨k,n⟩:=zos h;exact ⟨k,fun g mp c e=>by rw [SV.ev];exact zzn (n g mp c e)⟩
 | .nil,x,acc,acc',h=>by
  cases x<;>simp only [mch,reduceCtorEq,Option.some.injEq] at h
  case nil=>subst h;exact ⟨Mono.refl _,fun _ _ _ _=>rfl⟩
 | .any,x,acc,acc',h=>by cases x<;>simp only [mch,reduceCtorEq] at h
theorem zos:∀ {l:List SV} {m:List EV} {acc acc':Vs×Ids},mchL l m acc=some acc'->Mono acc acc'/\∀ g mp a,Agr acc' g a mp->renL a mp (EV.avL (SV.evL g id l))=some (EV.avL m)
 | [],m,acc,acc',h=>by
  cases m<;>simp only [mchL,reduceCtorEq,Option.some.injEq] at h;subst h;exact ⟨Mono.refl _,fun _ _ _ _=>rfl⟩
 | x::l,m,acc,acc',h=>by
  cases m<;>simp only [mchL,reduceCtorEq] at h;rename_i y m;split at h
  ·rename_i c e;obtain ⟨f,i⟩:=zwo e;obtain ⟨d,j⟩:=zos h;refine ⟨f.trans d,fun g mp a b => ?_⟩;rw [SV.evL,EV.avL,EV.avL,renL,i g mp a (b.mono d),j g mp a b]
  ·cases h
end
theorem zhs {s:ESt}:∀ {l:List (Nat×SE)} {acc acc':Vs×Ids},mchE s l acc=some acc'->Mono acc acc'
 | [],acc,acc',h=>by simp only [mchE,Option.some.injEq] at h;subst h;exact Mono.refl _
 | (i,.arr E j)::r,(vs,ids),acc',h=>by
  simp only [mchE] at h;split at h
  ·split at h
   ·replace h:=(zad h).2
    have a:=zhs h;exact ⟨fun p b=>a.vs p (List.mem_cons_of_mem _ b),a.ids⟩
   ·cases h
  ·cases h
 | (i,.box T c)::r,(vs,ids),acc',h=>by
  simp only [mchE] at h;split at h
  ·split at h
   ·replace h:=(zad h).2
    split at h
    ·rename_i d e;exact (zos e).1.trans (zhs h)
    ·cases h
   ·cases h
  ·cases h
 | (i,.out f E E1 j)::r,(vs,ids),acc',h=>by
  simp only [mchE] at h;split at h
  ·split at h
   ·split at h
    ·replace h:=(zad h).2
     split at h
     ·rename_i g m;have a:=zhs h;obtain ⟨e,n⟩:=zkF m;exact ⟨fun p b=>a.vs p (List.mem_cons_of_mem _ b),fun i o k=>a.ids i o (n i o k)⟩
     ·cases h
    ·cases h
   ·cases h
  ·cases h
theorem ziu {s:ESt}:∀ {l:List (Nat×SE)} {acc acc':Vs×Ids},mchE s l acc=some acc'->∀ {i f E E1 j:Nat},(i,SE.out f E E1 j)∈l->
  ∃ o a t b,look acc'.2 i=some o/\s.ent o=some (.out a E)/\look acc'.2 f=some a/\look s.rws a=some (some ⟨E1,t,b,none⟩)/\((j,.d (.list (.list t)) b):Nat×EV)∈acc'.1/\f < RB/\a < RB
 | [],_,_,_,_,_,_,_,_,hp=>by cases hp
 | (i',.arr k j')::r,(vs,ids),acc',h,i,f,E,E1,j,hp=>by
  simp only [mchE] at h;split at h
  ·split at h
   ·replace h:=(zad h).2
    rcases List.mem_cons.1 hp with hp | hp
    ·cases hp
    ·exact ziu h hp
   ·cases h
  ·cases h
 | (i',.box T' c')::r,(vs,ids),acc',h,i,f,E,E1,j,hp=>by
  simp only [mchE] at h;split at h
  ·split at h
   ·replace h:=(zad h).2
    split at h
    ·rcases List.mem_cons.1 hp with hp | hp
     ·cases hp
     ·exact ziu h hp
    ·cases h
   ·cases h
  ·cases h
 | (i',.out f2 E2 E3 j2)::r,(vs,ids),acc',h,i,f,E,E1,j,hp=>by
  simp only [mchE] at h;split at h
  ·rename_i o g;split at h
   ·rename_i a k m;split at h
    ·rename_i n t b p;have e:=(zad h).1;replace h:=(zad h).2;simp only [Bool.and_eq_true] at e;obtain ⟨⟨⟨w,x⟩,b3⟩,b4⟩:=e;have u:=Nat.eq_of_beq_eq_true w;have v:=Nat.eq_of_beq_eq_true x;subst u;subst v;split at h
     ·rename_i d q;obtain ⟨y,z⟩:=zkF q;have c:=zhs h;rcases List.mem_cons.1 hp with hp | hp
      ·cases hp;exact ⟨o,a,t,b,c.ids _ _ (z _ _ g),m,c.ids _ _ y,p,c.vs _ (by simp),by simpa using b4,by simpa using b3⟩
      ·exact ziu h hp
     ·cases h
    ·cases h
   ·cases h
  ·cases h
theorem zzd {s:ESt} {l:List (Nat×SE)} {c a:Vs×Ids} (h:mchE s l c=some a) {g:Nat->EV} {d:Bool} {mp:List (Nat×Option Nat)} (m:Agr a g d mp) {f:Nat} {q:Option RW} (n:look (zdY g id l) f=some q):
  ∃ b,look a.2 f=some b/\look s.rws b=some q/\f < RB/\b < RB:=by
 have e:=zaN n;unfold zdY at e;obtain ⟨⟨i,p⟩,hp,hr⟩:=List.mem_filterMap.1 e;cases p with
 | arr=>cases hr
 | box=>cases hr
 | out B E E1 j=>
  obtain ⟨o,b,t,y,z,A,r,u,v,w,x⟩:=ziu h hp;have k:=m.vs _ v;simp only at k;simp only [SE.rw,k,id,Option.some.injEq,Prod.mk.injEq] at hr;obtain ⟨rfl,rfl⟩:=hr;exact ⟨b,r,u,w,x⟩
theorem zmT {g:Nat->EV} {ρ:Nat->Nat}:∀ {l:List (Nat×SE)} {p:Nat×SE} {f:Nat} {q:Option RW},p∈l->p.2.rw g ρ=some (f,q)->∃ c,look (zdY g ρ l) f=some c
 | y::l,p,f,q,hp,hq=>by
  unfold zdY;rw [List.filterMap_cons];cases b:y.2.rw g ρ with
  | none=>
   rcases List.mem_cons.1 hp with rfl | hp
   ·rw [b] at hq;cases hq
   ·exact zmT hp hq
  | some z=>
   obtain ⟨d,e⟩:=z;simp only;rw [zan];by_cases a:d=f
   ·rw [if_pos a];exact ⟨_,rfl⟩
   ·rw [if_neg a];rcases List.mem_cons.1 hp with rfl | hp
    ·rw [b] at hq;cases hq;exact absurd rfl a
    ·exact zmT hp hq
theorem zBn {s:ESt} {l:List (Nat×SE)} {b a:Vs×Ids} (h:mchE s l b=some a) {g:Nat->EV} {c:Bool} {mp:List (Nat×Option Nat)} (d:Agr a g c mp) {i f E E1 j:Nat} (e:(i,SE.out f E E1 j)∈l) {k:Nat} (m:look a.2 f=some k):
  rlen (zdY g id l) f=rlen s.rws k:=by
 obtain ⟨o,y,t,v,z,A,p,B,w,C,D⟩:=ziu h e;rw [m] at p;cases p;have n:=d.vs _ w;simp only at n;obtain ⟨F,r⟩:=zmT (g:=g) (ρ:=id) e (f:=f) (q:=some ⟨E1,t,v,none⟩) (by simp only [SE.rw,n,id]);obtain ⟨H,u,x,_⟩:=zzd h d r;rw [m] at u;cases u;unfold rlen;rw [r,x]
theorem zCs {s:ESt} {l:List (Nat×SE)} {d a:Vs×Ids} (h:mchE s l d=some a) {g:Nat->EV} {i:Bool} {mp:List (Nat×Option Nat)} (m:Agr a g i mp) {k:Nat} {e:Ent} (b:zbi (zdY g id l) k=some e):
  ∃ f c x,k=rid f x/\look a.2 f=some c/\f < RB/\c < RB/\zbi s.rws (rid c x)=some e:=by
 unfold zbi at b;split at b
 ·rename_i n;split at b
  ·rename_i r o;obtain ⟨c,p,q,t,j⟩:=zzd h m o;refine ⟨k % RB,c,k / RB - 1,zoH n,p,t,j,?_⟩;unfold zbi;rw [if_pos (zdX _ _),ze1 j,q];simp only;rw [zjU j];exact b
  ·cases b
 ·cases b
theorem zmw {s:ESt}:∀ {l:List (Nat×SE)} {acc acc':Vs×Ids},mchE s l acc=some acc'->∀ g a mp,Agr acc' g a mp->(∀ k q,look mp k=some q->k < RB)->∀ p∈l,
  ∃ o e e',look acc'.2 p.1=some o/\s.ent o=some e/\p.2.ee g id=some e'/\∀ rs,(∀ f E E1 j d,p.2 = .out f E E1 j->look acc'.2 f=some d->rlen rs f=rlen s.rws d)->renE a mp (e'.ent rs)=some (e.ent s.rws)
 | [],_,_,_,_,_,_,_,_,p,hp=>by cases hp
 | (i,.arr E j)::r,(vs,ids),acc',h,g,a,mp,ha,hk,p,hp=>by
  simp only [mchE] at h;split at h
  ·rename_i o u;split at h
   ·rename_i D t l v;have w:=(zad h).1;replace h:=(zad h).2;have:=Nat.eq_of_beq_eq_true w;subst this;have m:=zhs h;rcases List.mem_cons.1 hp with rfl | hp
    ·have b:=ha.vs _ (m.vs (j,.d (.list t) l) (by simp));simp only at b;exact ⟨o,_,.arr E t l,m.ids i o u,v,by rw [SE.ee,b],fun _ _=>rfl⟩
    ·exact zmw h g a mp ha hk p hp
   ·cases h
  ·cases h
 | (i,.box T c)::r,(vs,ids),acc',h,g,a,mp,ha,hk,p,hp=>by
  simp only [mchE] at h;split at h
  ·rename_i o u;split at h
   ·rename_i F H v;have w:=(zad h).1;replace h:=(zad h).2;have:=Nat.eq_of_beq_eq_true w;subst this;split at h
    ·rename_i z b;have m:=zhs h;obtain ⟨x,y⟩:=zos b;rcases List.mem_cons.1 hp with rfl | hp
     ·refine ⟨o,_,.box T (SV.evL g id c),m.ids i o (x.ids i o u),v,rfl,fun _ _ => ?_⟩;simp only [EEnt.ent,renE,y g mp a (ha.mono m)]
     ·exact zmw h g a mp ha hk p hp
    ·cases h
   ·cases h
  ·cases h
 | (i,.out f E E1 j)::r,(vs,ids),acc',h0,g,a,mp,ha,hk,p,hp=>by
  have h:=h0;simp only [mchE] at h;split at h
  ·split at h
   ·split at h
    ·replace h:=(zad h).2
     split at h
     ·rcases List.mem_cons.1 hp with rfl | hp
      ·obtain ⟨o,d,t,I,x,y,A,J,B,C,L⟩:=ziu h0 (i:=i) (f:=f) (E:=E) (E1:=E1) (j:=j) (by simp);have b:=ha.vs _ B;simp only at b;refine ⟨o,_,.out f E,x,y,by rw [SE.ee,b];rfl,fun rs n => ?_⟩;have e:=n f E E1 j d rfl A;simp only [EEnt.ent,renE,e,zv9 hk C (ha.ids f d A)]
      ·exact zmw h g a mp ha hk p hp
     ·cases h
    ·cases h
   ·cases h
  ·cases h
structure MonoA (a b:Vs×Ids×List Nat):Prop where
 vs:∀ p∈a.1,p∈b.1
 ids:∀ i o,look a.2.1 i=some o->look b.2.1 i=some o
 ln:∀ i∈a.2.2,i∈b.2.2
theorem MonoA.refl (a:Vs×Ids×List Nat):MonoA a a:=⟨fun _ h=>h,fun _ _ h=>h,fun _ h=>h⟩
theorem MonoA.trans {a b c:Vs×Ids×List Nat} (h:MonoA a b) (k:MonoA b c):MonoA a c:=⟨fun p d=>k.vs p (h.vs p d),fun i o e=>k.ids i o (h.ids i o e),fun i f=>k.ln i (h.ln i f)⟩
theorem zxe {s:ESt} {cm:List (Nat×Nat)} {ln:LN} {a f E:Nat} {r:RW} (l:s.ent a=some (.out f E)) (n:zrj s f=some r) (c:a∈ln) (d:f∈ln.l):zfn s.st cm ln (.own a) (.d (encD (.list (.list r.t)) r.l)):=by
 obtain ⟨h,o,i,p⟩:=zuI n;have e:encD (.list (.list r.t)) r.l = .sl 24 ((r.l.map fun x=>x.map (enc:r.t.den->D)).map (.sl r.t.bts)):=by
  rw [List.map_map];rfl
 rw [e];have b:∀ j,(r.l.map fun x=>x.map (enc:r.t.den->D)).getD j default=(r.l.getD j []).map enc:=fun j=>by
  simp only [List.getD_eq_getElem?_getD,List.getElem?_map];cases r.l[j]? <;>rfl
 refine zfn.lendOut (Er:=r.E) (sz:=r.t.sz) (m:=r.l.length) (zDV l h) c (zo8 _ _) (by simp) fun k g=>⟨rid f k,zkn g,.inr ⟨zdX f k,by rw [ze1 i];exact d⟩,?_⟩
 rw [b];exact zBN o i h (by rw [p];simp) g
theorem zqS {s:ESt}:∀ {t:Ty} {l l2:List EV} {ln ln2:List Nat} {x:t.den},zfN s t l ln=some (x,l2,ln2)->∀ i∈ln,i∈ln2:=by
 intro t;induction t with
 | unit=>intro l l2 ln ln2 x h;simp only [zfN,Option.some.injEq,Prod.mk.injEq] at h;intro i d;rw [<- h.2.2];exact d
 | pair a b e f=>
  intro l l2 ln ln2 x h;simp only [zfN] at h;split at h
  ·rename_i y l1 g j;split at h
   ·rename_i z o m n;cases h;exact fun i d=>f n i (e j i d)
   ·cases h
  ·cases h
 | list u _=>
  intro l l2 ln ln2 x h;cases l with
  | nil=>cases h
  | cons c l=>
   cases c<;>simp only [zfN] at h
   case own id=>
    split at h
    ·split at h
     ·cases h;exact fun i d=>List.mem_cons_of_mem _ d
     ·cases h
    ·split at h
     ·split at h
      ·cases h;exact fun i d=>List.mem_cons_of_mem _ (List.mem_cons_of_mem _ d)
      ·cases h
     ·cases h
    ·cases h
   all_goals (split at h<;>first | (cases h;exact fun i d=>d) | cases h)
 | int k=>intro l l2 ln ln2 x h;cases l with
  | nil=>cases h
  | cons c l=>cases c<;>simp only [zfN] at h<;>(split at h<;>first | (cases h;exact fun i d=>d) | cases h)
 | bool=>intro l l2 ln ln2 x h;cases l with
  | nil=>cases h
  | cons c l=>cases c<;>simp only [zfN] at h<;>(split at h<;>first | (cases h;exact fun i d=>d) | cases h)
 | str=>intro l l2 ln ln2 x h;cases l with
  | nil=>cases h
  | cons c l=>cases c<;>simp only [zfN] at h<;>(split at h<;>first | (cases h;exact fun i d=>d) | cases h)
 | tree u _=>intro l l2 ln ln2 x h;cases l with
  | nil=>cases h
  | cons c l=>cases c<;>simp only [zfN] at h<;>(split at h<;>first | (cases h;exact fun i d=>d) | cases h)
def zsN (σ:St) (ln:List Nat):List AV->List D->Prop
 | [],ds=>ds=[]
 | x::xs,d::ds=>zqo σ ⟨ln⟩ x d/\zsN σ ln xs ds
 | _::_,[]=>False
theorem zsN.append {σ:St} {ln:List Nat}:∀ {as:List AV} {ds:List D} {bs:List AV} {es:List D},zsN σ ln as ds->zsN σ ln bs es->zsN σ ln (as++bs) (ds++es)
 | [],ds,_,_,h,k=>by have:ds=[]:=h;subst this;exact k
 | _::_,_::_,_,_,h,k=>⟨h.1,zsN.append h.2 k⟩
 | _::_,[],_,_,h,_=>h.elim
theorem zsN.get {σ:St} {ln:List Nat}:∀ {as:List AV} {ds:List D},zsN σ ln as ds->as.length=ds.length/\∀ i,i < as.length->zqo σ ⟨ln⟩ (as.getD i default) (ds.getD i default)
 | [],ds,h=>by have:ds=[]:=h;subst this;exact ⟨rfl,by simp⟩
 | _::_,_::_,h=>by
  obtain ⟨b,c⟩:=zsN.get h.2;refine ⟨by simp [b],fun i a => ?_⟩;cases i with
  | zero=>exact h.1
  | succ i=>simpa using c i (by simpa using a)
 | _::_,[],h=>h.elim
theorem zww {s:ESt}:∀ {t:Ty} {l l2:List EV} {ln ln2:List Nat} {x:t.den},zfN s t l ln=some (x,l2,ln2)->∀ L:List Nat,(∀ i∈ln2,i∈L)->∃ l1,l=l1++l2/\zsN s.st L (EV.avL l1) (encD t x).cells:=by
 have one:∀ {t:Ty} {c:EV} {l l2:List EV} {ln ln2:List Nat} {x:t.den} {L:List Nat},t.agg=false->(match c.as1 t with | some x=>some (x,l,ln) | none=>none)=some (x,l2,ln2)->∃ l1,c::l=l1++l2/\zsN s.st L (EV.avL l1) (encD t x).cells:=by
  intro t c l l2 ln ln2 x L v h;split at h
  ·rename_i y g;cases h;refine ⟨[c],rfl,?_⟩;rw [ziq v];rcases zvK g with e | ⟨rfl,u,rfl,hu⟩
   ·exact ⟨.inl e,rfl⟩
   ·rw [hu];exact ⟨.inr (.inl ⟨rfl,_,rfl⟩),rfl⟩
  ·cases h
 intro t;induction t with
 | unit=>intro l l2 ln ln2 x h L d;simp only [zfN,Option.some.injEq,Prod.mk.injEq] at h;exact ⟨[],by rw [h.2.1];rfl,rfl⟩
 | pair a b m n=>
  intro l l2 ln ln2 x h L d;simp only [zfN] at h;split at h
  ·rename_i y l1 w A;split at h
   ·rename_i z J B o;cases h;obtain ⟨D,rfl,F⟩:=m A L (fun i q=>d i (zqS o i q));obtain ⟨H,rfl,I⟩:=n o L d;refine ⟨D++H,by rw [List.append_assoc],?_⟩;rw [zi2];exact zsN.append F I
   ·cases h
  ·cases h
 | list u _=>
  intro l l2 ln ln2 x h L d;cases l with
  | nil=>cases h
  | cons c l=>
   by_cases p:∃ id,c = .own id
   ·obtain ⟨id,rfl⟩:=p;simp only [zfN] at h;split at h
    ·rename_i E M xs j;split at h
     ·rename_i y g;cases h;obtain ⟨e,rfl⟩:=zcf g;cases e;refine ⟨[.own id],rfl,⟨.inr (.inr (.inl ⟨id,E,_,_,_,rfl,LN.mem (d id (by simp)),zbw j,rfl⟩)),rfl⟩⟩
     ·cases h
    ·rename_i f E j;split at h
     ·rename_i r C;split at h
      ·rename_i y g;cases h;obtain ⟨e,rfl⟩:=zcf g;cases e;exact ⟨[.own id],rfl,⟨.inr (.inr (.inr (zxe j C (LN.mem (d id (by simp))) (d f (by simp))))),rfl⟩⟩
      ·cases h
     ·cases h
    ·cases h
   ·refine one (t := .list u) (ln:=ln) (ln2:=ln2) rfl ?_;cases c<;>first | exact h | exact absurd ⟨_,rfl⟩ p
 | int k=>intro l l2 ln ln2 x h L d;cases l with
  | nil=>cases h
  | cons c l=>exact one (t := .int k) (ln:=ln) (ln2:=ln2) rfl (by cases c<;>exact h)
 | bool=>intro l l2 ln ln2 x h L d;cases l with
  | nil=>cases h
  | cons c l=>exact one (t := .bool) (ln:=ln) (ln2:=ln2) rfl (by cases c<;>exact h)
 | str=>intro l l2 ln ln2 x h L d;cases l with
  | nil=>cases h
  | cons c l=>exact one (t := .str) (ln:=ln) (ln2:=ln2) rfl (by cases c<;>exact h)
 | tree u _=>intro l l2 ln ln2 x h L d;cases l with
  | nil=>cases h
  | cons c l=>exact one (t := .tree u) (ln:=ln) (ln2:=ln2) rfl (by cases c<;>exact h)
end
end Go.Ab
