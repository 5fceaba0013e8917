import Derived.Test.YtmogekkikaelhaaEv40n16
set_option linter.unusedVariables false
set_option linter.unusedSimpArgs false
namespace Go.Ab
noncomputable section
open Enc (enc)
theorem zlj {s:ESt}:∀ {l:List (Nat×SV)} {acc acc':Vs×Ids} {nl nl':List Nat},mchS s l acc nl=some (acc',nl')->
  Mono acc acc'/\(∀ i∈nl,i∈nl')/\∀ g mp,Agr acc' g true mp->(∀ i∈nl',look mp i=some none)->∀ p∈l,∃ x,s.get p.1=some x/\ren true mp (p.2.ev g id).av=some x.av
 | [],acc,acc',nl,nl',h=>by
  simp only [mchS,Option.some.injEq,Prod.mk.injEq] at h;obtain ⟨rfl,rfl⟩:=h;exact ⟨Mono.refl _,fun _ h=>h,fun _ _ _ _ p hp=>by cases hp⟩
 | (k,sv)::r,acc,acc',nl,nl',h=>by
  simp only [mchS] at h;split at h
  ·cases h
  ·rename_i x hx;split at h
   ·rename_i i;obtain ⟨h1,h2,h3⟩:=zlj h;refine ⟨h1,fun i hi=>h2 i (List.mem_cons_of_mem _ hi),fun g mp ha hn p hp => ?_⟩;rcases List.mem_cons.1 hp with rfl | hp
    ·refine ⟨.nil,hx,?_⟩;have:=ziN (hn i (h2 i (by simp)));simp only [SV.ev,id,EV.av,ren,this]
    ·exact h3 g mp ha hn p hp
   ·split at h
    ·rename_i acc1 h0;obtain ⟨g1,g2⟩:=zm7 h0;obtain ⟨h1,h2,h3⟩:=zlj h;refine ⟨g1.trans h1,h2,fun g mp ha hn p hp => ?_⟩;rcases List.mem_cons.1 hp with rfl | hp
     ·exact ⟨x,hx,g2 g mp true (ha.mono h1)⟩
     ·exact h3 g mp ha hn p hp
    ·cases h
def nilE (vs:Vs) (se:SE):Prop:=(∃ (E j:Nat) (t:Ty),se = .arr E j/\0 < t.sz/\((j,.d (.list t) ([]:List t.den)):Nat×EV)∈vs)\/∃ (f E E1 j:Nat) (t:Ty),se = .out f E E1 j/\((j,.d (.list (.list t)) ([]:List (List t.den))):Nat×EV)∈vs
theorem nilE.mono {vs vs':Vs} {se:SE} (h:nilE vs se) (hm:∀ p∈vs,p∈vs'):nilE vs' se:=by
 rcases h with ⟨E,j,t,h1,h2,h3⟩ | ⟨f,E,E1,j,t,h1,h2⟩
 ·exact .inl ⟨E,j,t,h1,h2,hm _ h3⟩
 ·exact .inr ⟨f,E,E1,j,t,h1,hm _ h2⟩
theorem zed {tys:List Ty} {nl:List Nat}:∀ {l l':List (Nat×SE)} {vs vs':Vs},mchN tys nl l vs=some (l',vs')->
  (∀ p∈vs,p∈vs')/\∀ p∈l,p∈l'\/(p.1∈nl/\nilE vs' p.2)
 | [],l',vs,vs',h=>by
  simp only [mchN,Option.some.injEq,Prod.mk.injEq] at h;obtain ⟨rfl,rfl⟩:=h;exact ⟨fun _ h=>h,fun p hp=>by cases hp⟩
 | (i,.arr E j)::r,l',vs,vs',h=>by
  simp only [mchN] at h;cases hc:nl.contains i with
  | true=>
   rw [hc] at h;simp only [cond_true] at h;split at h
   ·rename_i t ht;have hb:=(zaa h).1;replace h:=(zaa h).2;obtain ⟨h1,h2⟩:=zed h;refine ⟨fun p hp=>h1 p (List.mem_cons_of_mem _ hp),fun p hp => ?_⟩;rcases List.mem_cons.1 hp with rfl | hp
    ·exact .inr ⟨by simpa using hc,.inl ⟨E,j,t,rfl,by simpa using hb,h1 _ (by simp)⟩⟩
    ·exact h2 p hp
   ·cases h
  | false=>
   rw [hc] at h;simp only [cond_false] at h;split at h
   ·rename_i l1 vs1 h0;cases h;obtain ⟨h1,h2⟩:=zed h0;refine ⟨h1,fun p hp => ?_⟩;rcases List.mem_cons.1 hp with rfl | hp
    ·exact .inl (by simp)
    ·exact (h2 p hp).imp (fun h=>List.mem_cons_of_mem _ h) id
   ·cases h
 | (i,.box T c)::r,l',vs,vs',h=>by
  simp only [mchN] at h;split at h
  ·rename_i l1 vs1 h0;cases h;obtain ⟨h1,h2⟩:=zed h0;refine ⟨h1,fun p hp => ?_⟩;rcases List.mem_cons.1 hp with rfl | hp
   ·exact .inl (by simp)
   ·exact (h2 p hp).imp (fun h=>List.mem_cons_of_mem _ h) id
  ·cases h
 | (i,.out f E E1 j)::r,l',vs,vs',h=>by
  simp only [mchN] at h;cases hc:nl.contains i with
  | true=>
   rw [hc] at h;simp only [cond_true] at h;split at h
   ·rename_i t ht;obtain ⟨h1,h2⟩:=zed h;refine ⟨fun p hp=>h1 p (List.mem_cons_of_mem _ hp),fun p hp => ?_⟩;rcases List.mem_cons.1 hp with rfl | hp
    ·exact .inr ⟨by simpa using hc,.inr ⟨f,E,E1,j,t,rfl,h1 _ (by simp)⟩⟩
    ·exact h2 p hp
   ·cases h
  | false=>
   rw [hc] at h;simp only [cond_false] at h;split at h
   ·rename_i l1 vs1 h0;cases h;obtain ⟨h1,h2⟩:=zed h0;refine ⟨h1,fun p hp => ?_⟩;rcases List.mem_cons.1 hp with rfl | hp
    ·exact .inl (by simp)
    ·exact (h2 p hp).imp (fun h=>List.mem_cons_of_mem _ h) id
   ·cases h
theorem zfP {tys:List Ty} {nl:List Nat}:∀ {l l':List (Nat×SE)} {vs vs':Vs},mchN tys nl l vs=some (l',vs')->∀ p∈l',p∈l
 | [],l',vs,vs',h=>by
  simp only [mchN,Option.some.injEq,Prod.mk.injEq] at h;obtain ⟨rfl,rfl⟩:=h;exact fun p hp=>hp
 | (i,.arr E j)::r,l',vs,vs',h=>by
  simp only [mchN] at h;cases hc:nl.contains i with
  | true=>
   rw [hc] at h;simp only [cond_true] at h;split at h
   ·replace h:=(zaa h).2
    exact fun p hp=>List.mem_cons_of_mem _ (zfP h p hp)
   ·cases h
  | false=>
   rw [hc] at h;simp only [cond_false] at h;split at h
   ·rename_i l1 vs1 h0;cases h;intro p hp;rcases List.mem_cons.1 hp with rfl | hp
    ·simp
    ·exact List.mem_cons_of_mem _ (zfP h0 p hp)
   ·cases h
 | (i,.box T c)::r,l',vs,vs',h=>by
  simp only [mchN] at h;split at h
  ·rename_i l1 vs1 h0;cases h;intro p hp;rcases List.mem_cons.1 hp with rfl | hp
   ·simp
   ·exact List.mem_cons_of_mem _ (zfP h0 p hp)
  ·cases h
 | (i,.out f E E1 j)::r,l',vs,vs',h=>by
  simp only [mchN] at h;cases hc:nl.contains i with
  | true=>
   rw [hc] at h;simp only [cond_true] at h;split at h
   ·exact fun p hp=>List.mem_cons_of_mem _ (zfP h p hp)
   ·cases h
  | false=>
   rw [hc] at h;simp only [cond_false] at h;split at h
   ·rename_i l1 vs1 h0;cases h;intro p hp;rcases List.mem_cons.1 hp with rfl | hp
    ·simp
    ·exact List.mem_cons_of_mem _ (zfP h0 p hp)
   ·cases h
theorem zdd:∀ {ids:Ids} {i:Nat},i < LIM->look ((ids.filter fun p=>Nat.blt p.1 LIM).map (fun p=>(p.1,some p.2))) i=(look ids i).map some
 | [],_,_=>rfl
 | (k,o)::r,i,hi=>by
  rw [zae];by_cases hk:k=i
  ·subst hk;have:Nat.blt k LIM=true:=by simpa using hi
   rw [List.filter_cons_of_pos (by simpa using this),List.map_cons,zae,if_pos rfl,if_pos rfl];rfl
  ·rw [if_neg hk];by_cases hb:Nat.blt k LIM=true
   ·rw [List.filter_cons_of_pos (by simpa using hb),List.map_cons,zae,if_neg hk];exact zdd hi
   ·rw [List.filter_cons_of_neg (by simpa using hb)];exact zdd hi
theorem zo1:∀ {nl:List Nat} {i:Nat},i∈nl->look (nl.map (fun i=>(i,(none:Option Nat)))) i=some none
 | k::r,i,h=>by
  rw [List.map_cons,zae];by_cases hk:k=i
  ·rw [if_pos hk]
  ·rw [if_neg hk];rcases List.mem_cons.1 h with e | h
   ·exact absurd e.symm hk
   ·exact zo1 h
theorem zbO {β γ:Type} {l:List γ} {f:γ->Nat×β} {k:Nat} {v:β} (h:look (l.map f) k=some v):∃ p∈l,f p=(k,v):=by
 obtain ⟨p,hp,he⟩:=List.mem_map.1 (zak h);exact ⟨p,hp,he⟩
theorem zjC {β:Type} {l l0:List β} (h:∃ d,l=d++l0):∃ d,l=d++l0/\l.take (l.length - l0.length)=d:=by
 obtain ⟨d,rfl⟩:=h;exact ⟨d,rfl,by rw [List.length_append,Nat.add_sub_cancel,List.take_left]⟩
theorem zjf {s0 s:ESt} {j:Join} {X:Tup j.sh.tys} (h:capt s0 j s=some X) (hsf:Sfx s0 s):
  Sfx s0 (tgt s0 j X)/\∀ (F:Fr) (a:Act) (w:World),Rel F s.st a w->Rel F (tgt s0 j X).st a w:=by
 unfold capt at h;obtain ⟨hwp,hsp⟩:=zr3 j.prep s;obtain ⟨hw1,hs1⟩:=zfF j.sh.tys j.sh.slots (s.prep j.prep)
 replace hw1:=hwp.trans hw1
 replace hs1:=hsp.trans hs1
 generalize hs1e:zdg j.sh.tys (s.prep j.prep) j.sh.slots=s1 at h hw1 hs1;split at h
 ·cases h
 ·rename_i acc nl h1;split at h
  ·cases h
  ·rename_i ents vs0 h2;split at h
   ·cases h
   ·rename_i vs ids h3;split at h
    ·cases h
    ·rename_i X' h4;have hb:=(zaa h).1;replace h:=(zaa h).2;cases h;simp only [Bool.and_eq_true] at hb;obtain ⟨⟨⟨⟨⟨⟨⟨⟨⟨⟨⟨⟨⟨hok,hoffB⟩,hnx⟩,hesR,hfn⟩,hlow0⟩,hlow1⟩,hids⟩,hnl⟩,hds⟩,hdh⟩,hdr⟩,hcs⟩,hch⟩,hcr⟩:=hb;generalize hmp:mpOf ids nl j.keep=mp at hok hoffB hcs hch hcr;have hvs:=ziz h4;have hsfx:=hsf.trans hs1;obtain ⟨m1,m2,m3⟩:=zlj h1;obtain ⟨n1,n2⟩:=zed h2;have e1:=zco h3;have hmpl:∀ i,LIM<=i->look mp i=none:=by
      intro i hi;cases hl:look mp i with
      | none=>rfl
      | some q=>have:=(zib hok hl).2;omega
     have hfn':za0 ((fams j.sh.ents).map id)=true:=by rw [List.map_id];exact hfn
     have e1':=e1;have hkR:∀ k q,look mp k=some q->k < RB:=fun k q hq=>by have:=(zib hok hq).2;unfold LIM at this;unfold RB;omega
     have hlkl:∀ i,LIM<=i->i < RB->lk mp i=none:=fun i h1 h2=>by rw [zlg h2];exact hmpl i h1
     have hidr:∀ i o,look ids i=some o->zms true mp i o:=by
      intro i o ho;by_cases hi:i < LIM
      ·left;rw [<- hmp];unfold mpOf;rw [zag,zdd hi,ho];rfl
      ·right;have:=List.all_eq_true.1 hids (i,o) (zak ho);simp only [Bool.or_eq_true] at this;rcases this with h | h
       ·exact absurd (by simpa using h) hi
       ·simp only [Bool.and_eq_true] at h;have h2:i < RB:=by simpa using h.2
        exact ⟨rfl,zne (by omega) h2,(Nat.eq_of_beq_eq_true h.1).symm,hlkl i (by omega) h2⟩
     have hnlr:∀ i∈nl,look mp i=some none:=by
      intro i hi;have:=List.all_eq_true.1 hnl i hi;split at this
      ·rename_i hln;have hlt:i < LIM:=by simpa using this
       rw [<- hmp];unfold mpOf;rw [zag,zdd hlt,hln,zag,zo1 hi];rfl
      ·cases this
     have hagrE:Agr (vs,ids) (Tup.get j.sh.tys X) true mp:=⟨hvs,hidr⟩;have hagrS:Agr acc (Tup.get j.sh.tys X) true mp:=⟨fun p hp=>hvs p (e1.vs p (n1 p hp)),fun i o ho=>hidr i o (e1.ids i o ho)⟩;have hS:=m3 _ mp hagrS hnlr;have hE:=zfm h3 _ true mp hagrE hkR;obtain ⟨d1,hd1,hd1t⟩:=zjC hsfx.slots;obtain ⟨d2,hd2,hd2t⟩:=zjC hsfx.heap;obtain ⟨d3,hd3,hd3t⟩:=zjC hsfx.rws;rw [hd1t] at hds;rw [hd2t] at hdh;rw [hd3t] at hdr;have lkeys:∀ {γ:Type} (l:List (Nat×γ)) (q:Nat×γ),q∈l->look l q.1≠none:=by
      intro γ l;induction l with
      | nil=>intro q hq;cases hq
      | cons y l ih=>
       intro q hq hn;obtain ⟨yk,yv⟩:=y;rw [zae] at hn;by_cases hy:yk=q.1
       ·rw [if_pos hy] at hn;cases hn
       ·rw [if_neg hy] at hn;rcases List.mem_cons.1 hq with rfl | hq
        ·exact hy rfl
        ·exact ih q hq hn
     have hR:∀ i,i∈j.sh.ents.map (·.1)\/i∈fams j.sh.ents\/i∈j.dropE->i < RB:=fun i hi=>by
      have:=List.all_eq_true.1 hesR i (by simp only [List.mem_append];exact hi);simpa using this
     have hrow:∀ f q,look (zbr (Tup.get j.sh.tys X) id j.sh.ents) f=some q->f∈fams j.sh.ents/\((∃ f',look ids f=some f'/\look s1.rws f'=some q/\f < RB/\f' < RB)\/∃ E1,∃ t:Ty,q=some ⟨E1,t,[],none⟩):=by
      intro f q hq;have hm:=zak hq;unfold zbr at hm;obtain ⟨⟨i,se⟩,hp,hr⟩:=List.mem_filterMap.1 hm;cases se with
      | arr=>cases hr
      | box=>cases hr
      | out f2 E E1 jj=>
       have hff:f2=f:=by
        simp only [SE.rw] at hr;split at hr
        ·cases hr;rfl
        ·cases hr
       subst hff;refine ⟨ziy hp,?_⟩;rcases n2 _ hp with hp' | ⟨_,⟨E',j',t,hpa,_⟩ | ⟨f3,E3,E4,j3,t,hpa,hv⟩⟩
       ·obtain ⟨o,f',t,ls,g1,g2,g3,g4,g5,g6,g7⟩:=zcS h3 hp';have h1:=hvs _ g5;simp only at h1;simp only [SE.rw,h1,id,Option.some.injEq,Prod.mk.injEq] at hr;obtain ⟨_,rfl⟩:=hr;exact .inl ⟨f',g3,g4,g6,g7⟩
       ·cases hpa
       ·cases hpa;have hg:=hvs _ (e1.vs _ hv);simp only at hg;simp only [SE.rw,hg,id,Option.some.injEq,Prod.mk.injEq] at hr;obtain ⟨_,rfl⟩:=hr;exact .inr ⟨_,t,rfl⟩
     have hdropn:∀ {γ:Type} (i:Nat),i∈j.dropE->look (j.dropE.map fun i=>(i,(none:Option γ))) i≠none:=fun i hm=>lkeys _ (i,none) (List.mem_map.2 ⟨i,hm,rfl⟩)
     have hrw0:∀ f r,f∉fams j.sh.ents->f∉j.dropE->(f < s0.nxt\/LIM<=f)->look s0.rws f=some (some r)->look s1.rws f=some (some r):=by
      intro f q hn1 hn2 hlt hq;rw [hd3,zag,zbg (fun p hp he => ?_)]
      ·exact hq
      ·have:=List.all_eq_true.1 hdr p hp;simp only [Bool.or_eq_true,Bool.and_eq_true] at this;rw [he] at this;rcases this with ((h | h) | ⟨h,h'⟩) | ⟨_,h⟩
       ·exact hn1 (by simpa using h)
       ·exact hn2 (by simpa using h)
       ·have h1:s0.nxt<=f:=by simpa using h
        have h2:f < LIM:=by simpa using h'
        omega
       ·unfold zuY at h;rw [hq] at h;cases h
     have hrw1:∀ f r,f∉fams j.sh.ents->f∉j.dropE->(f < s0.nxt\/LIM<=f)->look s0.rws f≠some (some r)->look s1.rws f≠some (some r):=by
      intro f r hn1 hn2 hlt hq h1;rw [hd3,zag] at h1;cases hl:look d3 f with
      | none=>rw [hl,Option.none_or] at h1;exact hq h1
      | some q=>
       rw [hl,Option.some_or] at h1;cases h1;have:=List.all_eq_true.1 hdr _ (zak hl);simp only [Bool.or_eq_true,Bool.and_eq_true] at this;rcases this with ((h | h) | ⟨h,h'⟩) | ⟨h,_⟩
       ·exact hn1 (by simpa using h)
       ·exact hn2 (by simpa using h)
       ·have h1:s0.nxt<=f:=by simpa using h
        have h2:f < LIM:=by simpa using h'
        omega
       ·cases h
     have hrwsn:∀ f,f∉fams j.sh.ents->look (zbr (Tup.get j.sh.tys X) id j.sh.ents) f=none:=fun f hf=>by
      cases hl:look (zbr (Tup.get j.sh.tys X) id j.sh.ents) f with
      | none=>rfl
      | some q=>exact absurd (hrow f q hl).1 hf
     have hdn:∀ {γ:Type} (f:Nat),f∉j.dropE->look (j.dropE.map fun i=>(i,(none:Option γ))) f=none:=fun f hf=>zbg fun p hp he=>by
      obtain ⟨i,hi,rfl⟩:=List.mem_map.1 hp;exact hf (by rw [<- he];exact hi)
     refine ⟨⟨⟨_,(List.append_assoc _ _ _).symm⟩,⟨_,(List.append_assoc _ _ _).symm⟩,⟨_,(List.append_assoc _ _ _).symm⟩,(by show s0.nxt<=j.nxt;simpa using hnx),rfl⟩,fun F a w r => ?_⟩;obtain ⟨H,r⟩:=hw1.rel F a w r;refine ⟨_,SubF.relH (mp:=mp) ⟨?_,hok,fun k x' hx => ?_,fun i e' hi => ?_,fun i o hi hp => ?_⟩ r⟩
     ·show s0.n=s1.n;rw [hsfx.n]
     ·rw [zg6] at hx;obtain ⟨ex,hex,rfl⟩:=Option.map_eq_some_iff.1 hx;have hl:look ((j.sh.slots.map fun p=>(p.1,p.2.ev (Tup.get j.sh.tys X) id))++((j.drop.map fun k=>(k,EV.any))++s0.slots)) k=some ex:=hex;rw [zag] at hl;cases hA:look (j.sh.slots.map fun p=>(p.1,p.2.ev (Tup.get j.sh.tys X) id)) k with
      | some v=>
       rw [hA] at hl;cases hl;obtain ⟨p,hp,hpe⟩:=zbO hA;cases hpe;obtain ⟨x,hx1,hx2⟩:=hS p hp;exact .inr ⟨x.av,zbY hx1,.inl hx2⟩
      | none=>
       rw [hA] at hl;simp only [Option.none_or] at hl;rw [zag] at hl;cases hB:look (j.drop.map fun k=>(k,EV.any)) k with
       | some v=>
        rw [hB] at hl;cases hl;obtain ⟨p,hp,hpe⟩:=zbO hB;cases hpe;exact .inl rfl
       | none=>
        rw [hB] at hl;simp only [Option.none_or] at hl;have hk1:k∉j.sh.slots.map (·.1):=by
         intro hm;obtain ⟨p,hp,rfl⟩:=List.mem_map.1 hm;have:∃ v,look (j.sh.slots.map fun p=>(p.1,p.2.ev (Tup.get j.sh.tys X) id)) p.1=some v:=by
          cases hq:look (j.sh.slots.map fun p=>(p.1,p.2.ev (Tup.get j.sh.tys X) id)) p.1 with
          | some v=>exact ⟨v,rfl⟩
          | none=>
           exfalso;have key:∀ (l:List (Nat×EV)) (q:Nat×EV),q∈l->look l q.1≠none:=by
            intro l;induction l with
            | nil=>intro q hq;cases hq
            | cons y l ih=>
             intro q hq hn;obtain ⟨yk,yv⟩:=y;rw [zae] at hn;by_cases hy:yk=q.1
             ·rw [if_pos hy] at hn;cases hn
             ·rw [if_neg hy] at hn;rcases List.mem_cons.1 hq with rfl | hq
              ·exact hy rfl
              ·exact ih q hq hn
           exact key _ (p.1,p.2.ev (Tup.get j.sh.tys X) id) (List.mem_map.2 ⟨p,hp,rfl⟩) hq
         obtain ⟨v,hv⟩:=this;rw [hA] at hv;cases hv
        have hk2:k∉j.drop:=by
         intro hm;have key:∀ (l:List Nat),k∈l->look (l.map fun k=>(k,EV.any)) k≠none:=by
          intro l;induction l with
          | nil=>intro h;cases h
          | cons y l ih=>
           intro h hn;rw [List.map_cons,zae] at hn;by_cases hy:y=k
           ·rw [if_pos hy] at hn;cases hn
           ·rw [if_neg hy] at hn;rcases List.mem_cons.1 h with e | h
            ·exact hy e.symm
            ·exact ih h hn
         exact key _ hm hB
        have hs1k:s1.get k=some ex:=by
         unfold ESt.get;rw [hd1,zag,zbg (fun p hp he => ?_)]
         ·exact hl
         ·have:=List.all_eq_true.1 hds p hp;simp only [Bool.or_eq_true] at this;rw [he] at this;rcases this with h | h
          ·exact hk1 (by simpa using h)
          ·exact hk2 (by simpa using h)
        refine .inr ⟨ex.av,zbY hs1k,.inl (zrw (zio hcs hl ?_))⟩;intro hm;rcases List.mem_append.1 hm with h | h
        ·exact hk1 h
        ·exact hk2 h
     ·rw [zao] at hi;have hlk:look (tgt s0 j X).heap i=look (zcG (Tup.get j.sh.tys X) id j.sh.ents++((j.dropE.map fun i=>(i,none))++s0.heap)) i:=rfl;rw [hlk,zag] at hi;cases hA:look (zcG (Tup.get j.sh.tys X) id j.sh.ents) i with
      | some v=>
       rw [hA] at hi;simp only [Option.some_or] at hi;obtain ⟨p,hp,hpe⟩:=zbO hA;obtain ⟨hpi,hpv⟩:=Prod.mk.inj hpe;simp only [id] at hpi;subst hpi;cases v with
       | none=>cases hi
       | some ee=>
        simp only [Option.map_some,Option.some.injEq] at hi;subst hi;rcases n2 p hp with hp' | ⟨hin,⟨E,jj,t,hpa,hsz,hv⟩ | ⟨f,E,E1,jj,t,hpa,hv⟩⟩
        ·obtain ⟨o,e,e',g1,g2,g3,g4⟩:=hE p hp';rw [hpv] at g3;cases g3;have g5:=g4 (tgt s0 j X).rws fun f E E1 jj f' hpo hf=>by
          obtain ⟨pi,pse⟩:=p;cases hpo;obtain ⟨_,f2,t2,ls2,_,_,k3,k4,k5,k6,k7⟩:=zcS h3 hp';rw [hf] at k3;cases k3;have h1:=hvs _ k5;simp only at h1;have hq':=zcX (ρ:=id) hfn' (zfP h2 _ hp') h1;have:look (tgt s0 j X).rws f=look (zbr (Tup.get j.sh.tys X) id j.sh.ents++((j.dropE.map fun i=>(i,none))++s0.rws)) f:=rfl;unfold rlen;simp only [id] at hq';rw [this,zag,hq',k4];rfl
         unfold zjk;rcases hidr _ _ g1 with h | ⟨_,h1,rfl,h2⟩
         ·rw [ziN h];exact ⟨e.ent s1.rws,zat g2,g5⟩
         ·rw [h2];exact ⟨h1,e.ent s1.rws,zat g2,g5⟩
        ·have hg:=hvs _ (e1.vs _ hv);simp only at hg;rw [hpa,SE.ee,hg] at hpv;cases hpv;unfold zjk;rw [ziN (hnlr _ hin)];exact .inl ⟨E,t.sz,t.bts,rfl,hsz⟩
        ·have hg:=hvs _ (e1.vs _ hv);simp only at hg;rw [hpa,SE.ee,hg] at hpv;cases hpv;unfold zjk;rw [ziN (hnlr _ hin)];refine .inr ⟨E,24,?_⟩;obtain ⟨pi,pse⟩:=p;simp only at hpa;subst hpa;have hq':=zcX (ρ:=id) hfn' hp hg;simp only [id] at hq';have:look (tgt s0 j X).rws f=look (zbr (Tup.get j.sh.tys X) id j.sh.ents++((j.dropE.map fun i=>(i,none))++s0.rws)) f:=rfl;have e1:rlen (tgt s0 j X).rws f=0:=by
          unfold rlen;rw [this,zag,hq'];rfl
         show EEnt.ent (tgt s0 j X).rws (.out f E)=_;simp only [EEnt.ent,e1];rfl
      | none=>
       rw [hA] at hi;simp only [Option.none_or] at hi;rw [zag] at hi;cases hB:look (j.dropE.map fun i=>(i,(none:Option EEnt))) i with
       | some v=>
        rw [hB] at hi;obtain ⟨p,hp,hpe⟩:=zbO hB;have hv:(none:Option EEnt)=v:=congrArg Prod.snd hpe;rw [<- hv] at hi;cases hi
       | none=>
        rw [hB] at hi;simp only [Option.none_or] at hi;have hk1:i∉j.sh.ents.map (·.1):=by
         intro hm;obtain ⟨p,hp,rfl⟩:=List.mem_map.1 hm;exact lkeys _ (id p.1,p.2.ee (Tup.get j.sh.tys X) id) (List.mem_map.2 ⟨p,hp,rfl⟩) hA
        have hk2:i∉j.dropE:=fun hm=>hdropn i hm hB
        cases hC:look s0.heap i with
        | some v=>
         rw [hC] at hi;cases v with
         | none=>cases hi
         | some ee=>
          simp only [Option.map_some,Option.some.injEq] at hi;subst hi;obtain ⟨g1,g2,g3,g4⟩:=zjI hch hC (fun hm=>by
           rcases List.mem_append.1 hm with h | h
           ·exact hk1 h
           ·exact hk2 h)
          have hs1i:s1.ent i=some ee:=by
           unfold ESt.ent;rw [hd2,zag,zbg (fun p hp he => ?_)]
           ·simp only [Option.none_or,hC]
           ·have:=List.all_eq_true.1 hdh p hp;simp only [Bool.or_eq_true,Bool.and_eq_true] at this;rw [he] at this;rcases this with ((h | h) | ⟨h,h'⟩) | ⟨_,h⟩
            ·exact hk1 (by simpa using h)
            ·exact hk2 (by simpa using h)
            ·have h1:s0.nxt<=i:=by simpa using h
             have h2:i < LIM:=by simpa using h'
             omega
            ·unfold zuX at h;rw [hC] at h;cases h
          have hren:=zq7 hkR g3 (rs:=s1.rws) (rs':=(tgt s0 j X).rws) fun f E hf=>by
           subst hf;simp only [EEnt.kept,Bool.and_eq_true,Bool.or_eq_true,Bool.not_eq_true'] at g4;obtain ⟨g4,g5⟩:=g4;have hbad:f∉fams j.sh.ents++j.dropE:=fun hm=>by
            rw [List.contains_eq_mem] at g5;simp [hm] at g5
           have b1:f∉fams j.sh.ents:=fun h=>hbad (List.mem_append.2 (.inl h))
           have b2:f∉j.dropE:=fun h=>hbad (List.mem_append.2 (.inr h))
           have e1:look (tgt s0 j X).rws f=look (zbr (Tup.get j.sh.tys X) id j.sh.ents++((j.dropE.map fun i=>(i,none))++s0.rws)) f:=rfl;unfold rlen;rw [e1,zag,zag,hrwsn f b1,hdn f b2];simp only [Option.none_or];have hlt:f < s0.nxt\/LIM<=f:=by
            rcases g4 with h | h
            ·exact .inl (by simpa using h)
            ·exact .inr (by simpa using h)
           by_cases hq:∃ r,look s0.rws f=some (some r)
           ·obtain ⟨r,hq⟩:=hq;rw [hq,hrw0 f r b1 b2 hlt hq]
           ·have h0:∀ (l:List (Nat×Option RW)),(∀ r,look l f≠some (some r))->rlen l f=0:=by
             intro l h;unfold rlen;cases hl:look l f with
             | none=>rfl
             | some q=>cases q with
              | none=>rfl
              | some r=>exact absurd hl (h r)
            show rlen s0.rws f=rlen s1.rws f;rw [h0 _ (fun r hr=>hq ⟨r,hr⟩),h0 _ (fun r hr=>hrw1 f r b1 b2 hlt (fun e=>hq ⟨r,e⟩) hr)]
          unfold zjk;rcases ziC g2 with ho | ⟨_,h1,_,h2⟩
          ·rw [ziN ho];exact ⟨ee.ent s1.rws,zat hs1i,hren⟩
          ·rw [h2];exact ⟨h1,ee.ent s1.rws,zat hs1i,hren⟩
        | none=>
         rw [hC] at hi;simp only at hi;have hRi:=zi8 hi;obtain ⟨rE,rt,rl,hre⟩:=zhw hi;have hi0:=hi;unfold zar at hi;rw [if_pos hRi] at hi;have e1:look (tgt s0 j X).rws (i % RB)=look (zbr (Tup.get j.sh.tys X) id j.sh.ents++((j.dropE.map fun i=>(i,none))++s0.rws)) (i % RB):=rfl;rw [e1,zag,zag] at hi;have hlm:∀ k,LIM<=k->RB<=k->look mp k=none:=fun k h1 _=>hmpl k h1
         have hiL:LIM<=i:=by unfold RB at hRi;unfold LIM;omega
         cases hn1:look (zbr (Tup.get j.sh.tys X) id j.sh.ents) (i % RB) with
         | some q=>
          rw [hn1] at hi;simp only [Option.some_or] at hi;obtain ⟨_,hq2⟩:=hrow _ q hn1;rcases hq2 with ⟨f',m1,m2,m3,m4⟩ | ⟨E2,t3,rfl⟩
          ·have hrow1:zar s1.rws (rid f' (i / RB - 1))=some e':=by
            unfold zar;rw [if_pos (zaP _ _),zbc m4,m2,zdI m4];exact hi
           have hst:s1.st.ent (rid f' (i / RB - 1))=some e':=by rw [zgd hlow1 (zaP _ _)];exact hrow1
           unfold zjk;have hei:=zfw hRi;rcases hidr _ _ m1 with h | ⟨_,h1,rfl,h2⟩
           ·have:=zlh (mp:=mp) (x:=i / RB - 1) m3 (by rw [<- hei];exact hmpl i hiL) h;rw [<- hei] at this;rw [this];exact ⟨e',hst,by subst hre;rfl⟩
           ·have hln:lk mp i=none:=by
             rw [zlg m3] at h2;unfold lk;rw [hmpl i hiL];simp only;rw [if_pos hRi,h2]
            rw [hln];refine ⟨ziZ.2 (by unfold bs;rw [if_pos hRi];exact zeK h1),e',?_,by subst hre;rfl⟩;rw [<- hei] at hst;exact hst
          ·exfalso;unfold RW.ent at hi;simp at hi
         | none=>
          rw [hn1] at hi;simp only [Option.none_or] at hi;cases hn2:look (j.dropE.map fun i=>(i,(none:Option RW))) (i % RB) with
          | some q=>
           rw [hn2] at hi;obtain ⟨p,_,hpe⟩:=zbO hn2;have hv:(none:Option RW)=q:=congrArg Prod.snd hpe;rw [<- hv] at hi;cases hi
          | none=>
           rw [hn2] at hi;simp only [Option.none_or] at hi;cases hn3:look s0.rws (i % RB) with
           | none=>rw [hn3] at hi;cases hi
           | some q=>
            cases q with
            | none=>rw [hn3] at hi;cases hi
            | some r0=>
             rw [hn3] at hi;simp only at hi;have b1:i % RB∉fams j.sh.ents:=fun hm=>by
              obtain ⟨p,hp,hpf⟩:=List.mem_filterMap.1 hm;obtain ⟨pi,pse⟩:=p;cases pse with
              | arr=>cases hpf
              | box=>cases hpf
              | out f E E1 jj=>
               have hpf:f=i % RB:=by simpa using hpf
               have hsome:∃ q,SE.rw (Tup.get j.sh.tys X) id (.out f E E1 jj)=some (f,q):=by
                rcases n2 _ hp with hp' | ⟨_,⟨E',j',t,hpa,_⟩ | ⟨f3,E3,E4,j3,t,hpa,hv⟩⟩
                ·obtain ⟨_,_,_,_,_,_,_,_,k5,_⟩:=zcS h3 hp';have h1:=hvs _ k5;simp only at h1;exact ⟨_,by simp only [SE.rw,h1,id];rfl⟩
                ·cases hpa
                ·cases hpa;have hg:=hvs _ (e1'.vs _ hv);simp only at hg;exact ⟨_,by simp only [SE.rw,hg,id];rfl⟩
               obtain ⟨q,hq⟩:=hsome;obtain ⟨q',hq'⟩:=zfx hp hq;rw [hpf,hn1] at hq';cases hq'
             have b2:i % RB∉j.dropE:=fun hm=>hdropn _ hm hn2
             obtain ⟨g1,g2,g3⟩:=zkS hcr hn3 (fun hm=>by
              rcases List.mem_append.1 hm with h | h
              ·exact b1 h
              ·exact b2 h)
             have hr1:=hrw0 _ _ b1 b2 g1 hn3;have hrow1:zar s1.rws i=some e':=by
              unfold zar;rw [if_pos hRi,hr1];exact hi
             have hst:s1.st.ent i=some e':=by rw [zgd hlow1 hRi];exact hrow1
             unfold zjk;rcases ziC g2 with ho | ⟨_,h1,_,h2⟩
             ·have hei:=zfw hRi;have:=zlh (mp:=mp) (x:=i / RB - 1) g3 (by rw [<- hei];exact hmpl i hiL) ho;rw [<- hei] at this;rw [this];exact ⟨e',hst,by subst hre;rfl⟩
             ·have hln:lk mp i=none:=by
               rw [zlg g3] at h2;unfold lk;rw [hmpl i hiL];simp only;rw [if_pos hRi,h2]
              rw [hln];exact ⟨ziZ.2 (by unfold bs;rw [if_pos hRi];exact zeK h1),e',hst,by subst hre;rfl⟩
     ·-- a pinned name that goes under a new one is dropped
      have hbase:∀ i o,look mp i=some (some o)->LIM<=o->o∈j.dropE/\o∉j.sh.ents.map (·.1)/\o∉fams j.sh.ents:=by
       intro i o h hL;have:=List.all_eq_true.1 hoffB (i,some o) (zak h);simp only [Bool.or_eq_true,Bool.and_eq_true,Bool.not_eq_true'] at this;rcases this with h | ⟨⟨h1,h2⟩,h3⟩
       ·have:o < LIM:=by simpa using h
        omega
       ·refine ⟨by simpa using h1,fun hm => ?_,fun hm => ?_⟩
        ·rw [List.contains_eq_mem] at h2;simp [hm] at h2
        ·rw [List.contains_eq_mem] at h3;simp [hm] at h3
      have hheap:∀ o,o∉j.sh.ents.map (·.1)->look (zcG (Tup.get j.sh.tys X) id j.sh.ents) o=none:=fun o ho=>zbg fun p hp he=>by
       obtain ⟨p0,hp0,rfl⟩:=List.mem_map.1 hp;exact ho (List.mem_map.2 ⟨p0,hp0,he⟩)
      have hlk:∀ o,look (tgt s0 j X).heap o=look (zcG (Tup.get j.sh.tys X) id j.sh.ents++((j.dropE.map fun i=>(i,none))++s0.heap)) o:=fun _=>rfl
      rw [zao];rcases zdh hi with h1 | ⟨hR1,_,o',h2,h3'⟩
      ·obtain ⟨d1',d2',d3'⟩:=hbase i o h1 (zeK hp);rw [hlk,zag,hheap o d2',zag];simp only [Option.none_or];cases hB:look (j.dropE.map fun i=>(i,(none:Option EEnt))) o with
       | none=>exact absurd hB (hdropn o d1')
       | some v=>
        obtain ⟨p,_,hpe⟩:=zbO hB;have hv:(none:Option EEnt)=v:=congrArg Prod.snd hpe;rw [<- hv];rfl
      ·cases h3';have ho':o' < RB:=by
        simp only [mpW,Bool.and_eq_true] at hok;exact zlk hok.2.2 h2
       have hL:LIM<=o':=by have:=zfS hp;rw [zjG ho'] at this;exact this
       obtain ⟨d1',d2',d3'⟩:=hbase _ o' h2 hL;have hge:=zaP o' (i / RB - 1);have n1:rid o' (i / RB - 1)∉j.sh.ents.map (·.1):=fun hm=>by have:=hR _ (.inl hm);omega
       have n2':rid o' (i / RB - 1)∉j.dropE:=fun hm=>by have:=hR _ (.inr (.inr hm));omega
       rw [hlk,zag,hheap _ n1,zag,hdn _ n2',zpK hlow0 hge];simp only [Option.none_or];unfold zar;rw [if_pos hge,zbc ho'];have e1:look (tgt s0 j X).rws o'=look (zbr (Tup.get j.sh.tys X) id j.sh.ents++((j.dropE.map fun i=>(i,none))++s0.rws)) o':=rfl;rw [e1,zag,zag,hrwsn o' d3'];simp only [Option.none_or];cases hB:look (j.dropE.map fun i=>(i,(none:Option RW))) o' with
       | none=>exact absurd hB (hdropn o' d1')
       | some v=>
        obtain ⟨p,_,hpe⟩:=zbO hB;have hv:(none:Option RW)=v:=congrArg Prod.snd hpe;rw [<- hv];rfl
end
end Go.Ab
