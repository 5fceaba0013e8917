import Derived.Test.YtajabcfngklacaaEv40n16
set_option linter.unusedVariables false
set_option linter.unusedSimpArgs false
namespace Go.Ab
noncomputable section
open Enc (enc)
theorem zt2 {s:ESt}:∀ {l:List (Nat×SV)} {acc acc':Vs×Ids} {nl nl':List Nat},mchS s l acc nl=some (acc',nl')->
  Mono acc acc'/\(∀ i∈nl,i∈nl')/\∀ g mp,Agr acc' g true mp->(∀ i∈nl',look mp i=some none)->∀ p∈l,∃ x,s.get p.1=some x/\ren true mp (p.2.ev g id).av=some x.av
 | [],acc,acc',nl,nl',h=>by
  simp only [mchS,Option.some.injEq,Prod.mk.injEq] at h;obtain ⟨rfl,rfl⟩:=h;exact ⟨Mono.refl _,fun _ h=>h,fun _ _ _ _ p a=>by cases a⟩
 | (k,sv)::r,acc,acc',nl,nl',h=>by
  simp only [mchS] at h;split at h
  ·cases h
  ·rename_i x j;split at h
   ·rename_i i;obtain ⟨d,e,f⟩:=zt2 h;refine ⟨d,fun i n=>e i (List.mem_cons_of_mem _ n),fun g mp b c p a => ?_⟩;rcases List.mem_cons.1 a with rfl | a
    ·refine ⟨.nil,j,?_⟩;have:=zqL (c i (e i (by simp)));simp only [SV.ev,id,EV.av,ren,this]
    ·exact f g mp b c p a
   ·split at h
    ·rename_i m o;obtain ⟨q,t⟩:=zwo o;obtain ⟨d,e,f⟩:=zt2 h;refine ⟨q.trans d,e,fun g mp b c p a => ?_⟩;rcases List.mem_cons.1 a with rfl | a
     ·exact ⟨x,j,t g mp true (b.mono d)⟩
     ·exact f g mp b c p a
    ·cases h
def nilE (vs:Vs) (a:SE):Prop:=(∃ (E j:Nat) (t:Ty),a = .arr E j/\0 < t.sz/\((j,.d (.list t) ([]:List t.den)):Nat×EV)∈vs)\/∃ (f E E1 j:Nat) (t:Ty),a = .out f E E1 j/\((j,.d (.list (.list t)) ([]:List (List t.den))):Nat×EV)∈vs
theorem zkT {tys:List Ty} {m:List Nat}:∀ {l l':List (Nat×SE)} {vs vs':Vs},mchN tys m l vs=some (l',vs')->
  (∀ p∈vs,p∈vs')/\∀ p∈l,p∈l'\/(p.1∈m/\nilE vs' p.2)
 | [],l',vs,vs',h=>by
  simp only [mchN,Option.some.injEq,Prod.mk.injEq] at h;obtain ⟨rfl,rfl⟩:=h;exact ⟨fun _ h=>h,fun p a=>by cases a⟩
 | (i,.arr E j)::r,l',vs,vs',h=>by
  simp only [mchN] at h;cases e:m.contains i with
  | true=>
   rw [e] at h;simp only [cond_true] at h;split at h
   ·rename_i t n;have o:=(zad h).1;replace h:=(zad h).2;obtain ⟨b,d⟩:=zkT h;refine ⟨fun p a=>b p (List.mem_cons_of_mem _ a),fun p a => ?_⟩;rcases List.mem_cons.1 a with rfl | a
    ·exact .inr ⟨by simpa using e,.inl ⟨E,j,t,rfl,by simpa using o,b _ (by simp)⟩⟩
    ·exact d p a
   ·cases h
  | false=>
   rw [e] at h;simp only [cond_false] at h;split at h
   ·rename_i l1 g k;cases h;obtain ⟨b,d⟩:=zkT k;refine ⟨b,fun p a => ?_⟩;rcases List.mem_cons.1 a with rfl | a
    ·exact .inl (by simp)
    ·exact (d p a).imp (fun h=>List.mem_cons_of_mem _ h) id
   ·cases h
 | (i,.box T c)::r,l',vs,vs',h=>by
  simp only [mchN] at h;split at h
  ·rename_i l1 g k;cases h;obtain ⟨b,d⟩:=zkT k;refine ⟨b,fun p a => ?_⟩;rcases List.mem_cons.1 a with rfl | a
   ·exact .inl (by simp)
   ·exact (d p a).imp (fun h=>List.mem_cons_of_mem _ h) id
  ·cases h
 | (i,.out f E E1 j)::r,l',vs,vs',h=>by
  simp only [mchN] at h;cases e:m.contains i with
  | true=>
   rw [e] at h;simp only [cond_true] at h;split at h
   ·rename_i t n;obtain ⟨b,d⟩:=zkT h;refine ⟨fun p a=>b p (List.mem_cons_of_mem _ a),fun p a => ?_⟩;rcases List.mem_cons.1 a with rfl | a
    ·exact .inr ⟨by simpa using e,.inr ⟨f,E,E1,j,t,rfl,b _ (by simp)⟩⟩
    ·exact d p a
   ·cases h
  | false=>
   rw [e] at h;simp only [cond_false] at h;split at h
   ·rename_i l1 g k;cases h;obtain ⟨b,d⟩:=zkT k;refine ⟨b,fun p a => ?_⟩;rcases List.mem_cons.1 a with rfl | a
    ·exact .inl (by simp)
    ·exact (d p a).imp (fun h=>List.mem_cons_of_mem _ h) id
   ·cases h
theorem znf {tys:List Ty} {g:List Nat}:∀ {l l':List (Nat×SE)} {vs vs':Vs},mchN tys g l vs=some (l',vs')->∀ p∈l',p∈l
 | [],l',vs,vs',h=>by
  simp only [mchN,Option.some.injEq,Prod.mk.injEq] at h;obtain ⟨rfl,rfl⟩:=h;exact fun p a=>a
 | (i,.arr E j)::r,l',vs,vs',h=>by
  simp only [mchN] at h;cases e:g.contains i with
  | true=>
   rw [e] at h;simp only [cond_true] at h;split at h
   ·replace h:=(zad h).2
    exact fun p a=>List.mem_cons_of_mem _ (znf h p a)
   ·cases h
  | false=>
   rw [e] at h;simp only [cond_false] at h;split at h
   ·rename_i l1 b d;cases h;intro p a;rcases List.mem_cons.1 a with rfl | a
    ·simp
    ·exact List.mem_cons_of_mem _ (znf d p a)
   ·cases h
 | (i,.box T c)::r,l',vs,vs',h=>by
  simp only [mchN] at h;split at h
  ·rename_i l1 b d;cases h;intro p a;rcases List.mem_cons.1 a with rfl | a
   ·simp
   ·exact List.mem_cons_of_mem _ (znf d p a)
  ·cases h
 | (i,.out f E E1 j)::r,l',vs,vs',h=>by
  simp only [mchN] at h;cases e:g.contains i with
  | true=>
   rw [e] at h;simp only [cond_true] at h;split at h
   ·exact fun p a=>List.mem_cons_of_mem _ (znf h p a)
   ·cases h
  | false=>
   rw [e] at h;simp only [cond_false] at h;split at h
   ·rename_i l1 b d;cases h;intro p a;rcases List.mem_cons.1 a with rfl | a
    ·simp
    ·exact List.mem_cons_of_mem _ (znf d p a)
   ·cases h
theorem zi6:∀ {ids:Ids} {i:Nat},i < LIM->look ((ids.filter fun p=>Nat.blt p.1 LIM).map (fun p=>(p.1,some p.2))) i=(look ids i).map some
 | [],_,_=>rfl
 | (k,o)::r,i,hi=>by
  rw [zan];by_cases a:k=i
  ·subst a;have:Nat.blt k LIM=true:=by simpa using hi
   rw [List.filter_cons_of_pos (by simpa using this),List.map_cons,zan,if_pos rfl,if_pos rfl];rfl
  ·rw [if_neg a];by_cases b:Nat.blt k LIM=true
   ·rw [List.filter_cons_of_pos (by simpa using b),List.map_cons,zan,if_neg a];exact zi6 hi
   ·rw [List.filter_cons_of_neg (by simpa using b)];exact zi6 hi
theorem zyh:∀ {nl:List Nat} {i:Nat},i∈nl->look (nl.map (fun i=>(i,(none:Option Nat)))) i=some none
 | k::r,i,h=>by
  rw [List.map_cons,zan];by_cases a:k=i
  ·rw [if_pos a]
  ·rw [if_neg a];rcases List.mem_cons.1 h with e | h
   ·exact absurd e.symm a
   ·exact zyh h
theorem zfB {β a:Type} {l:List a} {f:a->Nat×β} {k:Nat} {v:β} (h:look (l.map f) k=some v):∃ p∈l,f p=(k,v):=by
 obtain ⟨p,b,c⟩:=List.mem_map.1 (zaN h);exact ⟨p,b,c⟩
theorem zrV {β:Type} {l a:List β} (h:∃ d,l=d++a):∃ d,l=d++a/\l.take (l.length - a.length)=d:=by
 obtain ⟨d,rfl⟩:=h;exact ⟨d,rfl,by rw [List.length_append,Nat.add_sub_cancel,List.take_left]⟩
theorem zro {s0 s:ESt} {j:Join} {X:Tup j.sh.tys} (h:capt s0 j s=some X) (hsf:Sfx s0 s):
  Sfx s0 (tgt s0 j X)/\∀ (F:Fr) (a:Act) (w:World),Rel F s.st a w->Rel F (tgt s0 j X).st a w:=by
 unfold capt at h;obtain ⟨hwp,hsp⟩:=zBD j.prep s;obtain ⟨hw1,hs1⟩:=zna j.sh.tys j.sh.slots (s.prep j.prep)
 replace hw1:=hwp.trans hw1
 replace hs1:=hsp.trans hs1
 generalize hs1e:zjn j.sh.tys (s.prep j.prep) j.sh.slots=s1 at h hw1 hs1;split at h
 ·cases h
 ·rename_i acc nl c;split at h
  ·cases h
  ·rename_i ents vs0 u;split at h
   ·cases h
   ·rename_i vs ids h3;split at h
    ·cases h
    ·rename_i X' h4;have hb:=(zad h).1;replace h:=(zad h).2;cases h;simp only [Bool.and_eq_true] at hb;obtain ⟨⟨⟨⟨⟨⟨⟨⟨⟨⟨⟨⟨⟨Y,hoffB⟩,hnx⟩,hesR,hfn⟩,hlow0⟩,hlow1⟩,hids⟩,hnl⟩,hds⟩,hdh⟩,hdr⟩,hcs⟩,hch⟩,hcr⟩:=hb;generalize hmp:mpOf ids nl j.keep=mp at Y hoffB hcs hch hcr;have D:=zqD h4;have R:=hsf.trans hs1;obtain ⟨m1,m2,m3⟩:=zt2 c;obtain ⟨n1,n2⟩:=zkT u;have S:=zhs h3;have C:∀ i,LIM<=i->look mp i=none:=by
      intro i b;cases A:look mp i with
      | none=>rfl
      | some q=>have:=(zry Y A).2;omega
     have hfn':zcV ((fams j.sh.ents).map id)=true:=by rw [List.map_id];exact hfn
     have e1':=S;have hkR:∀ k q,look mp k=some q->k < RB:=fun k q g=>by have:=(zry Y g).2;unfold LIM at this;unfold RB;omega
     have hlkl:∀ i,LIM<=i->i < RB->lk mp i=none:=fun i c u=>by rw [ztZ u];exact C i c
     have T:∀ i o,look ids i=some o->zvI true mp i o:=by
      intro i o ho;by_cases b:i < LIM
      ·left;rw [<- hmp];unfold mpOf;rw [zao,zi6 b,ho];rfl
      ·right;have:=List.all_eq_true.1 hids (i,o) (zaN ho);simp only [Bool.or_eq_true] at this;rcases this with h | h
       ·exact absurd (by simpa using h) b
       ·simp only [Bool.and_eq_true] at h;have u:i < RB:=by simpa using h.2
        exact ⟨rfl,zwz (by omega) u,(Nat.eq_of_beq_eq_true h.1).symm,hlkl i (by omega) u⟩
     have a1:∀ i∈nl,look mp i=some none:=by
      intro i b;have:=List.all_eq_true.1 hnl i b;split at this
      ·rename_i a0;have U:i < LIM:=by simpa using this
       rw [<- hmp];unfold mpOf;rw [zao,zi6 U,a0,zao,zyh b];rfl
      ·cases this
     have hagrE:Agr (vs,ids) (Tup.get j.sh.tys X) true mp:=⟨D,T⟩;have hagrS:Agr acc (Tup.get j.sh.tys X) true mp:=⟨fun p m=>D p (S.vs p (n1 p m)),fun i o ho=>T i o (S.ids i o ho)⟩;have hS:=m3 _ mp hagrS a1;have hE:=zmw h3 _ true mp hagrE hkR;obtain ⟨d1,hd1,hd1t⟩:=zrV R.slots;obtain ⟨d2,hd2,hd2t⟩:=zrV R.heap;obtain ⟨d3,hd3,hd3t⟩:=zrV R.rws;rw [hd1t] at hds;rw [hd2t] at hdh;rw [hd3t] at hdr;have a2:∀ {γ:Type} (l:List (Nat×γ)) (q:Nat×γ),q∈l->look l q.1≠none:=by
      intro γ l;induction l with
      | nil=>intro q g;cases g
      | cons y l ih=>
       intro q g J;obtain ⟨yk,yv⟩:=y;rw [zan] at J;by_cases hy:yk=q.1
       ·rw [if_pos hy] at J;cases J
       ·rw [if_neg hy] at J;rcases List.mem_cons.1 g with rfl | g
        ·exact hy rfl
        ·exact ih q g J
     have hR:∀ i,i∈j.sh.ents.map (·.1)\/i∈fams j.sh.ents\/i∈j.dropE->i < RB:=fun i b=>by
      have:=List.all_eq_true.1 hesR i (by simp only [List.mem_append];exact b);simpa using this
     have hrow:∀ f q,look (zdY (Tup.get j.sh.tys X) id j.sh.ents) f=some q->f∈fams j.sh.ents/\((∃ f',look ids f=some f'/\look s1.rws f'=some q/\f < RB/\f' < RB)\/∃ E1,∃ t:Ty,q=some ⟨E1,t,[],none⟩):=by
      intro f q g;have d:=zaN g;unfold zdY at d;obtain ⟨⟨i,se⟩,m,Q⟩:=List.mem_filterMap.1 d;cases se with
      | arr=>cases Q
      | box=>cases Q
      | out f2 E E1 jj=>
       have hff:f2=f:=by
        simp only [SE.rw] at Q;split at Q
        ·cases Q;rfl
        ·cases Q
       subst hff;refine ⟨zqC m,?_⟩;rcases n2 _ m with hp' | ⟨_,⟨E',j',t,hpa,_⟩ | ⟨f3,E3,E4,j3,t,hpa,I⟩⟩
       ·obtain ⟨o,f',t,ls,g1,g2,g3,g4,g5,g6,g7⟩:=ziu h3 hp';have c:=D _ g5;simp only at c;simp only [SE.rw,c,id,Option.some.injEq,Prod.mk.injEq] at Q;obtain ⟨_,rfl⟩:=Q;exact .inl ⟨f',g3,g4,g6,g7⟩
       ·cases hpa
       ·cases hpa;have Z:=D _ (S.vs _ I);simp only at Z;simp only [SE.rw,Z,id,Option.some.injEq,Prod.mk.injEq] at Q;obtain ⟨_,rfl⟩:=Q;exact .inr ⟨_,t,rfl⟩
     have z:∀ {γ:Type} (i:Nat),i∈j.dropE->look (j.dropE.map fun i=>(i,(none:Option γ))) i≠none:=fun i d=>a2 _ (i,none) (List.mem_map.2 ⟨i,d,rfl⟩)
     have hrw0:∀ f r,f∉fams j.sh.ents->f∉j.dropE->(f < s0.nxt\/LIM<=f)->look s0.rws f=some (some r)->look s1.rws f=some (some r):=by
      intro f q L M U g;rw [hd3,zao,zd9 (fun p m he => ?_)]
      ·exact g
      ·have:=List.all_eq_true.1 hdr p m;simp only [Bool.or_eq_true,Bool.and_eq_true] at this;rw [he] at this;rcases this with ((h | h) | ⟨h,h'⟩) | ⟨_,h⟩
       ·exact L (by simpa using h)
       ·exact M (by simpa using h)
       ·have c:s0.nxt<=f:=by simpa using h
        have u:f < LIM:=by simpa using h'
        omega
       ·unfold zEY at h;rw [g] at h;cases h
     have hrw1:∀ f r,f∉fams j.sh.ents->f∉j.dropE->(f < s0.nxt\/LIM<=f)->look s0.rws f≠some (some r)->look s1.rws f≠some (some r):=by
      intro f r L M U g c;rw [hd3,zao] at c;cases A:look d3 f with
      | none=>rw [A,Option.none_or] at c;exact g c
      | some q=>
       rw [A,Option.some_or] at c;cases c;have:=List.all_eq_true.1 hdr _ (zaN A);simp only [Bool.or_eq_true,Bool.and_eq_true] at this;rcases this with ((h | h) | ⟨h,h'⟩) | ⟨h,_⟩
       ·exact L (by simpa using h)
       ·exact M (by simpa using h)
       ·have c:s0.nxt<=f:=by simpa using h
        have u:f < LIM:=by simpa using h'
        omega
       ·cases h
     have a3:∀ f,f∉fams j.sh.ents->look (zdY (Tup.get j.sh.tys X) id j.sh.ents) f=none:=fun f hf=>by
      cases A:look (zdY (Tup.get j.sh.tys X) id j.sh.ents) f with
      | none=>rfl
      | some q=>exact absurd (hrow f q A).1 hf
     have hdn:∀ {γ:Type} (f:Nat),f∉j.dropE->look (j.dropE.map fun i=>(i,(none:Option γ))) f=none:=fun f hf=>zd9 fun p m he=>by
      obtain ⟨i,b,rfl⟩:=List.mem_map.1 m;exact hf (by rw [<- he];exact b)
     refine ⟨⟨⟨_,(List.append_assoc _ _ _).symm⟩,⟨_,(List.append_assoc _ _ _).symm⟩,⟨_,(List.append_assoc _ _ _).symm⟩,(by show s0.nxt<=j.nxt;simpa using hnx),rfl⟩,fun F a w r => ?_⟩;obtain ⟨H,r⟩:=hw1.rel F a w r;refine ⟨_,SubF.relH (mp:=mp) ⟨?_,Y,fun k x' hx => ?_,fun i e' b => ?_,fun i o b m => ?_⟩ r⟩
     ·show s0.n=s1.n;rw [R.n]
     ·rw [zoN] at hx;obtain ⟨ex,hex,rfl⟩:=Option.map_eq_some_iff.1 hx;have A:look ((j.sh.slots.map fun p=>(p.1,p.2.ev (Tup.get j.sh.tys X) id))++((j.drop.map fun k=>(k,EV.any))++s0.slots)) k=some ex:=hex;rw [zao] at A;cases hA:look (j.sh.slots.map fun p=>(p.1,p.2.ev (Tup.get j.sh.tys X) id)) k with
      | some v=>
       rw [hA] at A;cases A;obtain ⟨p,m,n⟩:=zfB hA;cases n;obtain ⟨x,hx1,hx2⟩:=hS p m;exact .inr ⟨x.av,zf0 hx1,.inl hx2⟩
      | none=>
       rw [hA] at A;simp only [Option.none_or] at A;rw [zao] at A;cases P:look (j.drop.map fun k=>(k,EV.any)) k with
       | some v=>
        rw [P] at A;cases A;obtain ⟨p,m,n⟩:=zfB P;cases n;exact .inl rfl
       | none=>
        rw [P] at A;simp only [Option.none_or] at A;have a4:k∉j.sh.slots.map (·.1):=by
         intro d;obtain ⟨p,m,rfl⟩:=List.mem_map.1 d;have:∃ v,look (j.sh.slots.map fun p=>(p.1,p.2.ev (Tup.get j.sh.tys X) id)) p.1=some v:=by
          cases g:look (j.sh.slots.map fun p=>(p.1,p.2.ev (Tup.get j.sh.tys X) id)) p.1 with
          | some v=>exact ⟨v,rfl⟩
          | none=>
           exfalso;have key:∀ (l:List (Nat×EV)) (q:Nat×EV),q∈l->look l q.1≠none:=by
            intro l;induction l with
            | nil=>intro q g;cases g
            | cons y l ih=>
             intro q g J;obtain ⟨yk,yv⟩:=y;rw [zan] at J;by_cases hy:yk=q.1
             ·rw [if_pos hy] at J;cases J
             ·rw [if_neg hy] at J;rcases List.mem_cons.1 g with rfl | g
              ·exact hy rfl
              ·exact ih q g J
           exact key _ (p.1,p.2.ev (Tup.get j.sh.tys X) id) (List.mem_map.2 ⟨p,m,rfl⟩) g
         obtain ⟨v,I⟩:=this;rw [hA] at I;cases I
        have a5:k∉j.drop:=by
         intro d;have key:∀ (l:List Nat),k∈l->look (l.map fun k=>(k,EV.any)) k≠none:=by
          intro l;induction l with
          | nil=>intro h;cases h
          | cons y l ih=>
           intro h J;rw [List.map_cons,zan] at J;by_cases hy:y=k
           ·rw [if_pos hy] at J;cases J
           ·rw [if_neg hy] at J;rcases List.mem_cons.1 h with e | h
            ·exact hy e.symm
            ·exact ih h J
         exact key _ d P
        have hs1k:s1.get k=some ex:=by
         unfold ESt.get;rw [hd1,zao,zd9 (fun p m he => ?_)]
         ·exact A
         ·have:=List.all_eq_true.1 hds p m;simp only [Bool.or_eq_true] at this;rw [he] at this;rcases this with h | h
          ·exact a4 (by simpa using h)
          ·exact a5 (by simpa using h)
        refine .inr ⟨ex.av,zf0 hs1k,.inl (zA2 (zqr hcs A ?_))⟩;intro d;rcases List.mem_append.1 d with h | h
        ·exact a4 h
        ·exact a5 h
     ·rw [zbC] at b;have hlk:look (tgt s0 j X).heap i=look (zh0 (Tup.get j.sh.tys X) id j.sh.ents++((j.dropE.map fun i=>(i,none))++s0.heap)) i:=rfl;rw [hlk,zao] at b;cases hA:look (zh0 (Tup.get j.sh.tys X) id j.sh.ents) i with
      | some v=>
       rw [hA] at b;simp only [Option.some_or] at b;obtain ⟨p,m,n⟩:=zfB hA;obtain ⟨hpi,hpv⟩:=Prod.mk.inj n;simp only [id] at hpi;subst hpi;cases v with
       | none=>cases b
       | some ee=>
        simp only [Option.map_some,Option.some.injEq] at b;subst b;rcases n2 p m with hp' | ⟨hin,⟨E,jj,t,hpa,hsz,I⟩ | ⟨f,E,E1,jj,t,hpa,I⟩⟩
        ·obtain ⟨o,e,e',g1,g2,g3,g4⟩:=hE p hp';rw [hpv] at g3;cases g3;have g5:=g4 (tgt s0 j X).rws fun f E E1 jj f' hpo hf=>by
          obtain ⟨pi,pse⟩:=p;cases hpo;obtain ⟨_,f2,t2,ls2,_,_,k3,k4,k5,k6,k7⟩:=ziu h3 hp';rw [hf] at k3;cases k3;have c:=D _ k5;simp only at c;have N:=ziA (ρ:=id) hfn' (znf u _ hp') c;have:look (tgt s0 j X).rws f=look (zdY (Tup.get j.sh.tys X) id j.sh.ents++((j.dropE.map fun i=>(i,none))++s0.rws)) f:=rfl;unfold rlen;simp only [id] at N;rw [this,zao,N,k4];rfl
         unfold zrt;rcases T _ _ g1 with h | ⟨_,c,rfl,u⟩
         ·rw [zqL h];exact ⟨e.ent s1.rws,zbw g2,g5⟩
         ·rw [u];exact ⟨c,e.ent s1.rws,zbw g2,g5⟩
        ·have Z:=D _ (S.vs _ I);simp only at Z;rw [hpa,SE.ee,Z] at hpv;cases hpv;unfold zrt;rw [zqL (a1 _ hin)];exact .inl ⟨E,t.sz,t.bts,rfl,hsz⟩
        ·have Z:=D _ (S.vs _ I);simp only at Z;rw [hpa,SE.ee,Z] at hpv;cases hpv;unfold zrt;rw [zqL (a1 _ hin)];refine .inr ⟨E,24,?_⟩;obtain ⟨pi,pse⟩:=p;simp only at hpa;subst hpa;have N:=ziA (ρ:=id) hfn' m Z;simp only [id] at N;have:look (tgt s0 j X).rws f=look (zdY (Tup.get j.sh.tys X) id j.sh.ents++((j.dropE.map fun i=>(i,none))++s0.rws)) f:=rfl;have S:rlen (tgt s0 j X).rws f=0:=by
          unfold rlen;rw [this,zao,N];rfl
         show EEnt.ent (tgt s0 j X).rws (.out f E)=_;simp only [EEnt.ent,S];rfl
      | none=>
       rw [hA] at b;simp only [Option.none_or] at b;rw [zao] at b;cases P:look (j.dropE.map fun i=>(i,(none:Option EEnt))) i with
       | some v=>
        rw [P] at b;obtain ⟨p,m,n⟩:=zfB P;have I:(none:Option EEnt)=v:=congrArg Prod.snd n;rw [<- I] at b;cases b
       | none=>
        rw [P] at b;simp only [Option.none_or] at b;have a4:i∉j.sh.ents.map (·.1):=by
         intro d;obtain ⟨p,m,rfl⟩:=List.mem_map.1 d;exact a2 _ (id p.1,p.2.ee (Tup.get j.sh.tys X) id) (List.mem_map.2 ⟨p,m,rfl⟩) hA
        have a5:i∉j.dropE:=fun d=>z i d P
        cases hC:look s0.heap i with
        | some v=>
         rw [hC] at b;cases v with
         | none=>cases b
         | some ee=>
          simp only [Option.map_some,Option.some.injEq] at b;subst b;obtain ⟨g1,g2,g3,g4⟩:=zr6 hch hC (fun d=>by
           rcases List.mem_append.1 d with h | h
           ·exact a4 h
           ·exact a5 h)
          have hs1i:s1.ent i=some ee:=by
           unfold ESt.ent;rw [hd2,zao,zd9 (fun p m he => ?_)]
           ·simp only [Option.none_or,hC]
           ·have:=List.all_eq_true.1 hdh p m;simp only [Bool.or_eq_true,Bool.and_eq_true] at this;rw [he] at this;rcases this with ((h | h) | ⟨h,h'⟩) | ⟨_,h⟩
            ·exact a4 (by simpa using h)
            ·exact a5 (by simpa using h)
            ·have c:s0.nxt<=i:=by simpa using h
             have u:i < LIM:=by simpa using h'
             omega
            ·unfold zEX at h;rw [hC] at h;cases h
          have hren:=zAM hkR g3 (rs:=s1.rws) (rs':=(tgt s0 j X).rws) fun f E hf=>by
           subst hf;simp only [EEnt.kept,Bool.and_eq_true,Bool.or_eq_true,Bool.not_eq_true'] at g4;obtain ⟨g4,g5⟩:=g4;have hbad:f∉fams j.sh.ents++j.dropE:=fun d=>by
            rw [List.contains_eq_mem] at g5;simp [d] at g5
           have b1:f∉fams j.sh.ents:=fun h=>hbad (List.mem_append.2 (.inl h))
           have b2:f∉j.dropE:=fun h=>hbad (List.mem_append.2 (.inr h))
           have S:look (tgt s0 j X).rws f=look (zdY (Tup.get j.sh.tys X) id j.sh.ents++((j.dropE.map fun i=>(i,none))++s0.rws)) f:=rfl;unfold rlen;rw [S,zao,zao,a3 f b1,hdn f b2];simp only [Option.none_or];have U:f < s0.nxt\/LIM<=f:=by
            rcases g4 with h | h
            ·exact .inl (by simpa using h)
            ·exact .inr (by simpa using h)
           by_cases g:∃ r,look s0.rws f=some (some r)
           ·obtain ⟨r,g⟩:=g;rw [g,hrw0 f r b1 b2 U g]
           ·have h0:∀ (l:List (Nat×Option RW)),(∀ r,look l f≠some (some r))->rlen l f=0:=by
             intro l h;unfold rlen;cases A:look l f with
             | none=>rfl
             | some q=>cases q with
              | none=>rfl
              | some r=>exact absurd A (h r)
            show rlen s0.rws f=rlen s1.rws f;rw [h0 _ (fun r Q=>g ⟨r,Q⟩),h0 _ (fun r Q=>hrw1 f r b1 b2 U (fun e=>g ⟨r,e⟩) Q)]
          unfold zrt;rcases zqF g2 with ho | ⟨_,c,_,u⟩
          ·rw [zqL ho];exact ⟨ee.ent s1.rws,zbw hs1i,hren⟩
          ·rw [u];exact ⟨c,ee.ent s1.rws,zbw hs1i,hren⟩
        | none=>
         rw [hC] at b;simp only at b;have B:=zq9 b;obtain ⟨rE,rt,rl,hre⟩:=zpj b;have hi0:=b;unfold zbi at b;rw [if_pos B] at b;have S:look (tgt s0 j X).rws (i % RB)=look (zdY (Tup.get j.sh.tys X) id j.sh.ents++((j.dropE.map fun i=>(i,none))++s0.rws)) (i % RB):=rfl;rw [S,zao,zao] at b;have hlm:∀ k,LIM<=k->RB<=k->look mp k=none:=fun k c _=>C k c
         have hiL:LIM<=i:=by unfold RB at B;unfold LIM;omega
         cases L:look (zdY (Tup.get j.sh.tys X) id j.sh.ents) (i % RB) with
         | some q=>
          rw [L] at b;simp only [Option.some_or] at b;obtain ⟨_,hq2⟩:=hrow _ q L;rcases hq2 with ⟨f',m1,m2,m3,m4⟩ | ⟨E2,t3,rfl⟩
          ·have O:zbi s1.rws (rid f' (i / RB - 1))=some e':=by
            unfold zbi;rw [if_pos (zdX _ _),ze1 m4,m2,zjU m4];exact b
           have V:s1.st.ent (rid f' (i / RB - 1))=some e':=by rw [zoI hlow1 (zdX _ _)];exact O
           unfold zrt;have W:=zoH B;rcases T _ _ m1 with h | ⟨_,c,rfl,u⟩
           ·have:=zt0 (mp:=mp) (x:=i / RB - 1) m3 (by rw [<- W];exact C i hiL) h;rw [<- W] at this;rw [this];exact ⟨e',V,by subst hre;rfl⟩
           ·have a0:lk mp i=none:=by
             rw [ztZ m3] at u;unfold lk;rw [C i hiL];simp only;rw [if_pos B,u]
            rw [a0];refine ⟨zqU.2 (by unfold bs;rw [if_pos B];exact znl c),e',?_,by subst hre;rfl⟩;rw [<- W] at V;exact V
          ·exfalso;unfold RW.ent at b;simp at b
         | none=>
          rw [L] at b;simp only [Option.none_or] at b;cases M:look (j.dropE.map fun i=>(i,(none:Option RW))) (i % RB) with
          | some q=>
           rw [M] at b;obtain ⟨p,_,n⟩:=zfB M;have I:(none:Option RW)=q:=congrArg Prod.snd n;rw [<- I] at b;cases b
          | none=>
           rw [M] at b;simp only [Option.none_or] at b;cases hn3:look s0.rws (i % RB) with
           | none=>rw [hn3] at b;cases b
           | some q=>
            cases q with
            | none=>rw [hn3] at b;cases b
            | some r0=>
             rw [hn3] at b;simp only at b;have b1:i % RB∉fams j.sh.ents:=fun d=>by
              obtain ⟨p,m,a6⟩:=List.mem_filterMap.1 d;obtain ⟨pi,pse⟩:=p;cases pse with
              | arr=>cases a6
              | box=>cases a6
              | out f E E1 jj=>
               have a6:f=i % RB:=by simpa using a6
               have hsome:∃ q,SE.rw (Tup.get j.sh.tys X) id (.out f E E1 jj)=some (f,q):=by
                rcases n2 _ m with hp' | ⟨_,⟨E',j',t,hpa,_⟩ | ⟨f3,E3,E4,j3,t,hpa,I⟩⟩
                ·obtain ⟨_,_,_,_,_,_,_,_,k5,_⟩:=ziu h3 hp';have c:=D _ k5;simp only at c;exact ⟨_,by simp only [SE.rw,c,id];rfl⟩
                ·cases hpa
                ·cases hpa;have Z:=D _ (e1'.vs _ I);simp only at Z;exact ⟨_,by simp only [SE.rw,Z,id];rfl⟩
               obtain ⟨q,g⟩:=hsome;obtain ⟨q',N⟩:=zmT m g;rw [a6,L] at N;cases N
             have b2:i % RB∉j.dropE:=fun d=>z _ d M
             obtain ⟨g1,g2,g3⟩:=ztC hcr hn3 (fun d=>by
              rcases List.mem_append.1 d with h | h
              ·exact b1 h
              ·exact b2 h)
             have hr1:=hrw0 _ _ b1 b2 g1 hn3;have O:zbi s1.rws i=some e':=by
              unfold zbi;rw [if_pos B,hr1];exact b
             have V:s1.st.ent i=some e':=by rw [zoI hlow1 B];exact O
             unfold zrt;rcases zqF g2 with ho | ⟨_,c,_,u⟩
             ·have W:=zoH B;have:=zt0 (mp:=mp) (x:=i / RB - 1) g3 (by rw [<- W];exact C i hiL) ho;rw [<- W] at this;rw [this];exact ⟨e',V,by subst hre;rfl⟩
             ·have a0:lk mp i=none:=by
               rw [ztZ g3] at u;unfold lk;rw [C i hiL];simp only;rw [if_pos B,u]
              rw [a0];exact ⟨zqU.2 (by unfold bs;rw [if_pos B];exact znl c),e',V,by subst hre;rfl⟩
     ·-- a pinned name that goes under a new one is dropped
      have a7:∀ i o,look mp i=some (some o)->LIM<=o->o∈j.dropE/\o∉j.sh.ents.map (·.1)/\o∉fams j.sh.ents:=by
       intro i o h hL;have:=List.all_eq_true.1 hoffB (i,some o) (zaN h);simp only [Bool.or_eq_true,Bool.and_eq_true,Bool.not_eq_true'] at this;rcases this with h | ⟨⟨c,u⟩,h3⟩
       ·have:o < LIM:=by simpa using h
        omega
       ·refine ⟨by simpa using c,fun d => ?_,fun d => ?_⟩
        ·rw [List.contains_eq_mem] at u;simp [d] at u
        ·rw [List.contains_eq_mem] at h3;simp [d] at h3
      have a8:∀ o,o∉j.sh.ents.map (·.1)->look (zh0 (Tup.get j.sh.tys X) id j.sh.ents) o=none:=fun o ho=>zd9 fun p m he=>by
       obtain ⟨p0,hp0,rfl⟩:=List.mem_map.1 m;exact ho (List.mem_map.2 ⟨p0,hp0,he⟩)
      have hlk:∀ o,look (tgt s0 j X).heap o=look (zh0 (Tup.get j.sh.tys X) id j.sh.ents++((j.dropE.map fun i=>(i,none))++s0.heap)) o:=fun _=>rfl
      rw [zbC];rcases zkp b with c | ⟨hR1,_,o',u,h3'⟩
      ·obtain ⟨d1',d2',d3'⟩:=a7 i o c (znl m);rw [hlk,zao,a8 o d2',zao];simp only [Option.none_or];cases P:look (j.dropE.map fun i=>(i,(none:Option EEnt))) o with
       | none=>exact absurd P (z o d1')
       | some v=>
        obtain ⟨p,_,n⟩:=zfB P;have I:(none:Option EEnt)=v:=congrArg Prod.snd n;rw [<- I];rfl
      ·cases h3';have ho':o' < RB:=by
        simp only [mpW,Bool.and_eq_true] at Y;exact zt4 Y.2.2 u
       have hL:LIM<=o':=by have:=zoy m;rw [ztw ho'] at this;exact this
       obtain ⟨d1',d2',d3'⟩:=a7 _ o' u hL;have hge:=zdX o' (i / RB - 1);have n1:rid o' (i / RB - 1)∉j.sh.ents.map (·.1):=fun d=>by have:=hR _ (.inl d);omega
       have n2':rid o' (i / RB - 1)∉j.dropE:=fun d=>by have:=hR _ (.inr (.inr d));omega
       rw [hlk,zao,a8 _ n1,zao,hdn _ n2',zzb hlow0 hge];simp only [Option.none_or];unfold zbi;rw [if_pos hge,ze1 ho'];have S:look (tgt s0 j X).rws o'=look (zdY (Tup.get j.sh.tys X) id j.sh.ents++((j.dropE.map fun i=>(i,none))++s0.rws)) o':=rfl;rw [S,zao,zao,a3 o' d3'];simp only [Option.none_or];cases P:look (j.dropE.map fun i=>(i,(none:Option RW))) o' with
       | none=>exact absurd P (z o' d1')
       | some v=>
        obtain ⟨p,_,n⟩:=zfB P;have I:(none:Option RW)=v:=congrArg Prod.snd n;rw [<- I];rfl
end
end Go.Ab
