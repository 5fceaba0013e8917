import Derived.Test.YtajabcfngklacaaEv40n7
set_option linter.unusedVariables false
set_option linter.unusedSimpArgs false
namespace Go.Ab
noncomputable section
open Enc (enc)
def znT (s:ESt) (k:Nat) (a os:List Nat):Bool:=s.low && s.heap.all fun p=>match look s.heap p.1 with
 | some (some (.out f _))=>Nat.beq p.1 k || os.contains p.1 || (!(a.contains f) && !(Nat.beq f s.nxt))
 | _=>true
theorem ztP {s:ESt} {k:Nat} {a os:List Nat} (h:znT s k a os=true):s.low=true:=by
 unfold znT at h;simp only [Bool.and_eq_true] at h;exact h.1
theorem ztQ {s:ESt} {k:Nat} {a os:List Nat} (h:znT s k a os=true) {i f E:Nat} (b:look s.heap i=some (some (.out f E))) (c:i≠k) (d:i∉os):f∉a/\f≠s.nxt:=by
 unfold znT at h;simp only [Bool.and_eq_true] at h;have:=List.all_eq_true.1 h.2 _ (zaN b);simp only [b,Bool.or_eq_true,Bool.and_eq_true,Bool.not_eq_true'] at this;rcases this with (h1 | h1) | ⟨h1,h2⟩
 ·exact absurd (Nat.eq_of_beq_eq_true h1) c
 ·exact absurd (by simpa using h1) d
 ·refine ⟨fun g => ?_,fun e => ?_⟩
  ·rw [List.contains_eq_mem] at h1;simp [g] at h1
  ·subst e;simp at h2
def ESt.famS (s:ESt) (k E E1:Nat) (t:Ty) (l:List (List t.den)) (a os:List Nat):ESt:=
 ⟨s.n,s.slots,(k,some (.out s.nxt E))::((os.map fun o=>(o,none))++s.heap),s.nxt+1,(s.nxt,some ⟨E1,t,l,none⟩)::((a.map fun f=>(f,none))++s.rws)⟩
theorem zpg {β:Type}:∀ {l:List Nat} {i:Nat},look (l.map fun o=>(o,(none:Option β))) i=if i∈l then some none else none
 | [],i=>rfl
 | o::l,i=>by
  rw [List.map_cons,zan,zpg];by_cases h:o=i
  ·subst h;simp
  ·have a:i≠o:=fun e=>h e.symm
   simp [h,a]
theorem zCe {F:Fr} {a:Act} {w:World} {s:ESt} {σ:St} {k E E1:Nat} {t:Ty} {l:List (List t.den)} {d os:List Nat} {cells:List AV} (L:znT s k d os=true) (M:s.nxt < LIM) (hkR:k < RB) (ht:0 < t.sz)
  (hn:σ.n=s.n) (U:σ.nxt=s.nxt) (hg:∀ q,σ.get q=s.st.get q) (N:σ.ent k=some (.out E 24 cells)) (hm:cells.length=l.length)
  (O:∀ i e,i≠k->i∉os->(RB<=i->i % RB∉d)->s.st.ent i=some e->σ.ent i=some e)
  (hc:∀ j,j < l.length->(∃ o,cells.getD j default = .own o/\σ.ent o=some (Ent.arrOf E1 (l.getD j []))/\(o∈os\/(RB<=o/\o % RB∈d)))\/(cells.getD j default = .nil/\l.getD j []=[]))
  (P:∀ i j o,i < l.length->j < l.length->cells.getD i default = .own o->cells.getD j default = .own o->i=j)
  (r:Rel F σ a w):Rel F (s.famS k E E1 t l d os).st a w:=by
 obtain ⟨H,r⟩:=r;have n:=ztP L;have y:∀ j,(l.map fun x=>x.map (enc:t.den->D)).getD j default=(l.getD j []).map enc:=fun j=>by
  simp only [List.getD_eq_getElem?_getD,List.getElem?_map];cases l[j]? <;>rfl
 obtain ⟨H',_,r'⟩:=r.fam (by rw [U];exact M) (σ':=(s.famS k E E1 t l d os).st) (Er:=E1) (sz:=t.sz) (btsr:=t.bts) (m:=l.length) (rows:=l.map fun x=>x.map enc) N hm (by simp) ht
  (fun j V=>by
   rw [y];rcases hc j V with ⟨o,Q,R,_⟩ | ⟨Q,R⟩
   ·exact .inl ⟨o,Q,R⟩
   ·exact .inr ⟨Q,by rw [R];rfl⟩)
  P hn.symm (by show s.nxt+1=_;rw [U]) (fun q=>(hg q).symm)
  (fun i e b=>by
   rw [U];rw [zbC] at b;have p:i∉os->(RB<=i->i % RB∉d)->∀ j,j < l.length->cells.getD j default ≠ .own i:=fun Q R j V h=>by
    rcases hc j V with ⟨o,C,_,I⟩ | ⟨C,_⟩
    ·rw [h] at C;cases C;rcases I with I | ⟨I,g3⟩
     ·exact Q I
     ·exact R I g3
    ·rw [h] at C;cases C
   have W:(s.famS k E E1 t l d os).heap=(k,some (.out s.nxt E))::((os.map fun o=>(o,none))++s.heap):=rfl;have z:(s.famS k E E1 t l d os).rws=(s.nxt,some ⟨E1,t,l,none⟩)::((d.map fun f=>(f,none))++s.rws):=rfl;rw [W,zan] at b;by_cases c:k=i
   ·rw [if_pos c] at b;left;refine ⟨c.symm,?_⟩;simp only [Option.map_some,Option.some.injEq] at b;rw [<- b];show Ent.out E 24 (famA s.nxt (rlen (s.famS k E E1 t l d os).rws s.nxt))=_;have:rlen (s.famS k E E1 t l d os).rws s.nxt=l.length:=by
     unfold rlen;rw [z,zan,if_pos rfl]
    rw [this]
   ·rw [if_neg c,zao,zpg] at b;by_cases g:i∈os
    ·rw [if_pos g] at b;cases b
    ·rw [if_neg g,Option.none_or] at b;cases S:look s.heap i with
     | some ee=>
      rw [S] at b;cases ee with
      | none=>cases b
      | some e0=>
       simp only [Option.map_some,Option.some.injEq] at b;have u:i < RB:=by
        unfold ESt.low at n;have:=List.all_eq_true.1 n _ (zaN S);simpa using this
       have A:e0.ent (s.famS k E E1 t l d os).rws=e0.ent s.rws:=by
        cases e0 with
        | arr=>rfl
        | box=>rfl
        | outs=>rfl
        | out J E2=>
         obtain ⟨C,I⟩:=ztQ L S (fun e=>c e.symm) g;show Ent.out E2 24 (famA J (rlen (s.famS k E E1 t l d os).rws J))=Ent.out E2 24 (famA J (rlen s.rws J));have:rlen (s.famS k E E1 t l d os).rws J=rlen s.rws J:=by
          unfold rlen;rw [z,zan,if_neg (fun e=>I e.symm),zao,zpg,if_neg C,Option.none_or]
         rw [this]
       have B:s.st.ent i=some e:=by
        rw [zbC,S];simp only [Option.map_some];rw [<- A,b]
       right;right;exact ⟨fun e=>c e.symm,O i e (fun e=>c e.symm) g (fun h=>by omega) B,p g (fun h=>by omega)⟩
     | none=>
      rw [S] at b;simp only at b;have u:RB<=i:=by
       unfold zbi at b;split at b
       ·assumption
       ·cases b
      unfold zbi at b;rw [if_pos u,z,zan] at b;by_cases Y:s.nxt=i % RB
      ·rw [if_pos Y] at b;simp only [RW.ent,reduceCtorEq,if_false] at b;obtain ⟨x,T,Z⟩:=Option.map_eq_some_iff.1 b;right;left;have X:=(List.getElem?_eq_some_iff.1 T).1;refine ⟨i / RB - 1,X,?_,?_⟩
       ·have:=zoH u;rw [<- Y] at this;exact this
       ·rw [<- Z,y];have:l.getD (i / RB - 1) []=x:=by rw [List.getD_eq_getElem?_getD,T];rfl
        rw [this];rfl
      ·rw [if_neg Y,zao,zpg] at b;by_cases v:i % RB∈d
       ·rw [if_pos v] at b;cases b
       ·rw [if_neg v,Option.none_or] at b;have B:s.st.ent i=some e:=by
         rw [zoI n u];unfold zbi;rw [if_pos u];exact b
        right;right;exact ⟨fun e=>c e.symm,O i e (fun e=>c e.symm) g (fun _=>v) B,p g (fun _=>v)⟩)
 exact ⟨H',r'⟩
def ESt.frzR (s:ESt) (k f E:Nat) (t:Ty) (l:List (List t.den)):ESt:=⟨s.n,s.slots,(k,some (.arr E (.list t) l))::s.heap,s.nxt,(f,none)::s.rws⟩
theorem zCj {F:Fr} {H:Hd} {a:Act} {w:World} {s:ESt} {k f E E1:Nat} {t:Ty} {l:List (List t.den)} (y:znT s k [f] []=true) (p:f < RB) (z:s.ent k=some (.out f E)) (O:look s.rws f=some (some ⟨E1,t,l,none⟩)) (r:RelH F s.st H a w):
  RelH F (s.frzR k f E t l).st H a w:=by
 have c:=ztP y;have I:rlen s.rws f=l.length:=by unfold rlen;rw [O]
 have A:∀ j,(l.map fun x=>x.map (enc:t.den->D)).getD j default=(l.getD j []).map enc:=fun j=>by
  simp only [List.getD_eq_getElem?_getD,List.getElem?_map];cases l[j]? <;>rfl
 have J:look s.heap k=some (some (.out f E)):=by
  unfold ESt.ent at z;split at z
  ·rename_i e b;cases z;exact b
  ·cases z
 have Q:k < RB:=by
  unfold ESt.low at c;have:=List.all_eq_true.1 c _ (zaN J);simpa using this
 have L:∀ j,j < l.length->s.st.ent (rid f j)=some (Ent.arrOf E1 (l.getD j [])):=fun j g=>by
  rw [zoI c (zdX f j)];unfold zbi;rw [if_pos (zdX f j),ze1 p,O];simp only [RW.ent,reduceCtorEq,if_false];rw [zjU p,List.getElem?_eq_getElem g,List.getD_eq_getElem?_getD,List.getElem?_eq_getElem g];rfl
 have q:=zbw z;have q:s.st.ent k=some (.out E 24 (famA f l.length)):=by rw [q];show some (Ent.out E 24 (famA f (rlen s.rws f)))=_;rw [I]
 refine r.flatRows (σ':=(s.frzR k f E t l).st) (Er:=E1) (sz:=t.sz) (btsr:=t.bts) (m:=l.length) (rows:=l.map fun x=>x.map enc) q (zo8 _ _) (by simp)
  (fun j g=>⟨rid f j,zkn g,by rw [A];exact L j g⟩) rfl rfl (fun _=>rfl)
  (fun i e b=>by
   rw [zbC] at b;have M:(s.frzR k f E t l).heap=(k,some (.arr E (.list t) l))::s.heap:=rfl;have o:(s.frzR k f E t l).rws=(f,none)::s.rws:=rfl;rw [M,zan] at b;by_cases d:k=i
   ·rw [if_pos d] at b;simp only [Option.map_some,Option.some.injEq] at b;refine .inl ⟨d.symm,?_⟩;rw [<- b,List.map_map];rfl
   ·rw [if_neg d] at b;cases B:look s.heap i with
    | some ee=>
     rw [B] at b;cases ee with
     | none=>cases b
     | some e0=>
      simp only [Option.map_some,Option.some.injEq] at b;have n:i < RB:=by
       unfold ESt.low at c;have:=List.all_eq_true.1 c _ (zaN B);simpa using this
      have u:e0.ent (s.frzR k f E t l).rws=e0.ent s.rws:=by
       cases e0 with
       | arr=>rfl
       | box=>rfl
       | outs=>rfl
       | out v P=>
        obtain ⟨N,R⟩:=ztQ y B (fun e=>d e.symm) (by simp);have N:v≠f:=by simpa using N
        show Ent.out P 24 (famA v (rlen (s.frzR k f E t l).rws v))=Ent.out P 24 (famA v (rlen s.rws v));have:rlen (s.frzR k f E t l).rws v=rlen s.rws v:=by
         unfold rlen;rw [o,zan,if_neg (fun e=>N e.symm)]
        rw [this]
      refine .inr ⟨?_,fun e=>d e.symm,fun j g h => ?_⟩
      ·rw [zbC,B];simp only [Option.map_some];rw [<- u,b]
      ·rw [zkn g] at h;injection h with h
       have:=zdX f j;omega
    | none=>
     rw [B] at b;simp only at b;have n:RB<=i:=by
      unfold zbi at b;split at b
      ·assumption
      ·cases b
     unfold zbi at b;rw [if_pos n,o,zan] at b;by_cases C:f=i % RB
     ·rw [if_pos C] at b;cases b
     ·rw [if_neg C] at b;refine .inr ⟨?_,fun e=>d e.symm,fun j g h => ?_⟩
      ·rw [zoI c n];unfold zbi;rw [if_pos n];exact b
      ·rw [zkn g] at h;injection h with h
       rw [<- h,ze1 p] at C;exact C rfl)
  (fun j g h=>by
   rw [zkn g] at h;injection h with h
   have:=zdX f j;omega)
def ESt.frzS (s:ESt) (k f:Nat):ESt:=⟨s.n,s.slots,(k,none)::s.heap,s.nxt,(f,none)::s.rws⟩
theorem zy2 {F:Fr} {H:Hd} {a:Act} {w:World} {s:ESt} {k f E E1:Nat} {t:Ty} {l:List (List t.den)} (z:znT s k [f] []=true) (p:f < RB) (A:s.ent k=some (.out f E)) (P:look s.rws f=some (some ⟨E1,t,l,none⟩)) (r:RelH F s.st H a w):
  RelH F (s.frzS k f).st H a w/\∃ v,H k=some v/\DRel w (Sh F.X (s.frzS k f).st.ent H w) (encD (.list (.list t)) l) v:=by
 have c:=ztP z;have J:rlen s.rws f=l.length:=by unfold rlen;rw [P]
 have B:∀ j,(l.map fun x=>x.map (enc:t.den->D)).getD j default=(l.getD j []).map enc:=fun j=>by
  simp only [List.getD_eq_getElem?_getD,List.getElem?_map];cases l[j]? <;>rfl
 have L:look s.heap k=some (some (.out f E)):=by
  unfold ESt.ent at A;split at A
  ·rename_i e b;cases A;exact b
  ·cases A
 have R:k < RB:=by
  unfold ESt.low at c;have:=List.all_eq_true.1 c _ (zaN L);simpa using this
 have M:∀ j,j < l.length->s.st.ent (rid f j)=some (Ent.arrOf E1 (l.getD j [])):=fun j g=>by
  rw [zoI c (zdX f j)];unfold zbi;rw [if_pos (zdX f j),ze1 p,P];simp only [RW.ent,reduceCtorEq,if_false];rw [zjU p,List.getElem?_eq_getElem g,List.getD_eq_getElem?_getD,List.getElem?_eq_getElem g];rfl
 have q:=zbw A;have q:s.st.ent k=some (.out E 24 (famA f l.length)):=by rw [q];show some (Ent.out E 24 (famA f (rlen s.rws f)))=_;rw [J]
 obtain ⟨S,⟨v,T,U⟩,_⟩:=r.freezeOut (σ':=(s.frzS k f).st) (Er:=E1) (sz:=t.sz) (btsr:=t.bts) (m:=l.length) (rows:=l.map fun x=>x.map enc) q (zo8 _ _) (by simp)
  (fun j g=>⟨rid f j,zkn g,by rw [B];exact M j g⟩) rfl rfl (fun _=>rfl)
  (fun i e b=>by
   rw [zbC] at b;have N:(s.frzS k f).heap=(k,none)::s.heap:=rfl;have o:(s.frzS k f).rws=(f,none)::s.rws:=rfl;rw [N,zan] at b;by_cases d:k=i
   ·rw [if_pos d] at b;cases b
   ·rw [if_neg d] at b;cases C:look s.heap i with
    | some ee=>
     rw [C] at b;cases ee with
     | none=>cases b
     | some e0=>
      simp only [Option.map_some,Option.some.injEq] at b;have n:i < RB:=by
       unfold ESt.low at c;have:=List.all_eq_true.1 c _ (zaN C);simpa using this
      have u:e0.ent (s.frzS k f).rws=e0.ent s.rws:=by
       cases e0 with
       | arr=>rfl
       | box=>rfl
       | outs=>rfl
       | out y Q=>
        obtain ⟨O,V⟩:=ztQ z C (fun e=>d e.symm) (by simp);have O:y≠f:=by simpa using O
        show Ent.out Q 24 (famA y (rlen (s.frzS k f).rws y))=Ent.out Q 24 (famA y (rlen s.rws y));have:rlen (s.frzS k f).rws y=rlen s.rws y:=by
         unfold rlen;rw [o,zan,if_neg (fun e=>O e.symm)]
        rw [this]
      refine ⟨?_,fun e=>d e.symm,fun j g h => ?_⟩
      ·rw [zbC,C];simp only [Option.map_some];rw [<- u,b]
      ·rw [zkn g] at h;injection h with h
       have:=zdX f j;omega
    | none=>
     rw [C] at b;simp only at b;have n:RB<=i:=by
      unfold zbi at b;split at b
      ·assumption
      ·cases b
     unfold zbi at b;rw [if_pos n,o,zan] at b;by_cases I:f=i % RB
     ·rw [if_pos I] at b;cases b
     ·rw [if_neg I] at b;refine ⟨?_,fun e=>d e.symm,fun j g h => ?_⟩
      ·rw [zoI c n];unfold zbi;rw [if_pos n];exact b
      ·rw [zkn g] at h;injection h with h
       rw [<- h,ze1 p] at I;exact I rfl)
 refine ⟨S,v,T,?_⟩;have e:encD (.list (.list t)) l = .sl 24 ((l.map fun x=>x.map (enc:t.den->D)).map (.sl t.bts)):=by
  rw [List.map_map];rfl
 rw [e];exact U
theorem zBN {s:ESt} {f i:Nat} {r:RW} (a:s.low=true) (b:f < RB) (d:look s.rws f=some (some r)) (e:r.hole≠some i) (c:i < r.l.length):s.st.ent (rid f i)=some (Ent.arrOf r.E (r.l.getD i [])):=by
 rw [zoI a (zdX f i)];unfold zbi;rw [if_pos (zdX f i),ze1 b,d];simp only [RW.ent,zjU b,if_neg e];rw [List.getElem?_eq_getElem c,List.getD_eq_getElem?_getD,List.getElem?_eq_getElem c];rfl
theorem zDV {s:ESt} {id f E:Nat} {r:RW} (a:s.ent id=some (.out f E)) (b:look s.rws f=some (some r)):s.st.ent id=some (.out E 24 (famA f r.l.length)):=by
 rw [zbw a];show some (Ent.out E 24 (famA f (rlen s.rws f)))=_;unfold rlen;rw [b]
def zrj (s:ESt) (f:Nat):Option RW:=match look s.rws f with
 | some (some r)=>bif s.low && Nat.blt f RB && r.hole.isNone then some r else none
 | _=>none
theorem zuI {s:ESt} {f:Nat} {r:RW} (h:zrj s f=some r):look s.rws f=some (some r)/\s.low=true/\f < RB/\r.hole=none:=by
 unfold zrj at h;split at h
 ·rename_i c b;have a:=(zad h).1;replace h:=(zad h).2;cases h;simp only [Bool.and_eq_true] at a;exact ⟨b,a.1.1,by simpa using a.1.2,by simpa using a.2⟩
 ·cases h
end
end Go.Ab
