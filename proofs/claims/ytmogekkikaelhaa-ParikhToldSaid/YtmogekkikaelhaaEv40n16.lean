import Derived.Test.YtmogekkikaelhaaEv40n23
set_option linter.unusedVariables false
set_option linter.unusedSimpArgs false
namespace Go.Ab
noncomputable section
open Enc (enc)
def fixB (mp:List (Nat×Option Nat)) (i:Nat):Bool:=match look mp i with
 | some (some o)=>Nat.beq o i
 | some none=>false
 | none=>Nat.ble LIM i && Nat.blt i RB
mutual
def EV.fix (mp:List (Nat×Option Nat)):EV->Bool
 | .own i=>fixB mp i
 | .ptr i _=>fixB mp i
 | .eptr i _ _ _=>fixB mp i
 | .vptr i _ _ _ _=>fixB mp i
 | .view i _ _ _=>fixB mp i
 | .row _ _ _=>false
 | .reptr _ _ _ _ _=>false
 | .raw _=>false
 | .agg l=>EV.fixL mp l
 | .tup l=>EV.fixL mp l
 | .fn _ l=>EV.fixL mp l
 | _=>true
def EV.fixL (mp:List (Nat×Option Nat)):List EV->Bool
 | []=>true
 | x::r=>x.fix mp && EV.fixL mp r
end
def EEnt.fix (mp:List (Nat×Option Nat)):EEnt->Bool
 | .arr _ _ _=>true
 | .box _ c=>EV.fixL mp c
 | .out f _=>fixB mp f && Nat.blt f RB
 | .outs _ c=>EV.fixL mp c
theorem ziC {mp:List (Nat×Option Nat)} {i:Nat} (h:fixB mp i=true):zms true mp i i:=by
 unfold fixB at h;split at h
 ·rename_i o ho;have:=Nat.eq_of_beq_eq_true h;subst this;exact .inl ho
 ·cases h
 ·rename_i ho;simp only [Bool.and_eq_true] at h;have h1:LIM<=i:=by simpa using h.1
  have h2:i < RB:=by simpa using h.2
  exact .inr ⟨rfl,zne h1 h2,rfl,by rw [zlg h2];exact ho⟩
theorem ziB {mp:List (Nat×Option Nat)} {i:Nat} (h:fixB mp i=true):ren true mp (.own i)=some (.own i)/\(∀ k,ren true mp (.ptr i k)=some (.ptr i k))/\(∀ s j k,ren true mp (.eptr i s j k)=some (.eptr i s j k))/\∀ s j k,ren true mp (.view i s j k)=some (.view i s j k):=by
 rcases ziC h with ho | ⟨_,h1,_,h2⟩
 ·have ho:=ziN ho;exact ⟨by simp only [ren,ho],fun k=>by simp only [ren,ho],fun s j k=>by simp only [ren,ho],fun s j k=>by simp only [ren,ho]⟩
 ·refine ⟨?_,fun k => ?_,fun s j k => ?_,fun s j k => ?_⟩<;>simp only [ren,h2,h1,Bool.and_self,cond_true]
mutual
theorem zrw {mp:List (Nat×Option Nat)}:∀ {x:EV},x.fix mp=true->ren true mp x.av=some x.av
 | .any,_=>rfl
 | .undef,_=>rfl
 | .d _ _,_=>rfl
 | .nil,_=>rfl
 | .own i,h=>(ziB h).1
 | .ptr i k,h=>(ziB h).2.1 k
 | .eptr i t j k,h=>(ziB h).2.2.1 t.sz j k
 | .vptr i o n t j,h=>(ziB h).2.1 (o+j)
 | .view i t j n,h=>(ziB h).2.2.2 t.sz j n
 | .row _ _ _,h=>by cases h
 | .reptr _ _ _ _ _,h=>by cases h
 | .raw _,h=>by cases h
 | .addr _ _,_=>rfl
 | .full _ _,_=>rfl
 | .agg l,h=>by
  have:=zhi (l:=l) h;simp only [EV.av,ren,this]
 | .tup l,h=>by
  have:=zhi (l:=l) h;simp only [EV.av,ren,this]
 | .fn f l,h=>by
  have:=zhi (l:=l) h;simp only [EV.av,ren,this]
 | .lit _,_=>rfl
theorem zhi {mp:List (Nat×Option Nat)}:∀ {l:List EV},EV.fixL mp l=true->renL true mp (EV.avL l)=some (EV.avL l)
 | [],_=>rfl
 | x::l,h=>by
  simp only [EV.fixL,Bool.and_eq_true] at h;rw [EV.avL,renL,zrw h.1,zhi h.2]
end
theorem zq7 {mp:List (Nat×Option Nat)} (hk:∀ k q,look mp k=some q->k < RB) {e:EEnt} (h:e.fix mp=true) {rs rs':List (Nat×Option RW)} (hr:∀ f E,e = .out f E->rlen rs' f=rlen rs f):renE true mp (e.ent rs')=some (e.ent rs):=by
 cases e with
 | arr E t l=>rfl
 | box T c=>simp only [EEnt.fix] at h;simp only [EEnt.ent,renE,zhi h]
 | outs E c=>simp only [EEnt.fix] at h;simp only [EEnt.ent,renE,zhi h]
 | out f E=>
  simp only [EEnt.fix,Bool.and_eq_true] at h;have e:=hr f E rfl;simp only [EEnt.ent,renE,e,zmR hk (by simpa using h.2) (ziC h.1)]
def EV.noIds:EV->Bool
 | .d _ _=>true
 | .any=>true
 | .undef=>true
 | .nil=>true
 | .addr _ _=>true
 | .lit _=>true
 | _=>false
theorem zrV {mp:List (Nat×Option Nat)} {x:EV} (h:x.noIds=true):x.fix mp=true:=by
 cases x<;>first | rfl | (simp [EV.noIds] at h)
def zkn (mp:List (Nat×Option Nat)):List Nat->List (Nat×EV)->Bool
 | _,[]=>true
 | seen,(k,x)::r=>(x.noIds || seen.contains k || x.fix mp) && zkn mp (k::seen) r
theorem zio {mp:List (Nat×Option Nat)}:∀ {l:List (Nat×EV)} {seen:List Nat} {k:Nat} {x:EV},zkn mp seen l=true->look l k=some x->k∉seen->x.fix mp=true
 | (k',y)::r,seen,k,x,h,hl,hs=>by
  simp only [zkn,Bool.and_eq_true,Bool.or_eq_true] at h;rw [zae] at hl;by_cases hk:k'=k
  ·rw [if_pos hk] at hl;cases hl;rcases h.1 with (h1 | h1) | h1
   ·exact zrV h1
   ·exact absurd (by rw [<- hk];simpa using h1) hs
   ·exact h1
  ·rw [if_neg hk] at hl;exact zio h.2 hl (fun hm=>by
    rcases List.mem_cons.1 hm with e | hm
    ·exact hk e.symm
    ·exact hs hm)
def EEnt.kept (bad:List Nat) (nxt:Nat):EEnt->Bool
 | .out f _=>(Nat.blt f nxt || Nat.ble LIM f) && !(bad.contains f)
 | _=>true
def zh1 (mp:List (Nat×Option Nat)) (bad:List Nat) (nxt:Nat):List Nat->List (Nat×Option EEnt)->Bool
 | _,[]=>true
 | seen,(i,none)::r=>zh1 mp bad nxt (i::seen) r
 | seen,(i,some e)::r=>(seen.contains i || ((Nat.blt i nxt || Nat.ble LIM i) && fixB mp i && e.fix mp && e.kept bad nxt)) && zh1 mp bad nxt (i::seen) r
theorem zjI {mp:List (Nat×Option Nat)} {bad:List Nat} {nxt:Nat}:∀ {l:List (Nat×Option EEnt)} {seen:List Nat} {i:Nat} {e:EEnt},zh1 mp bad nxt seen l=true->look l i=some (some e)->i∉seen->
  (i < nxt\/LIM<=i)/\fixB mp i=true/\e.fix mp=true/\e.kept bad nxt=true
 | (i',o)::r,seen,i,e,h,hl,hs=>by
  rw [zae] at hl;by_cases hi:i'=i
  ·rw [if_pos hi] at hl;cases hl;subst hi;simp only [zh1,Bool.and_eq_true,Bool.or_eq_true] at h;rcases h.1 with h1 | h1
   ·exact absurd (by simpa using h1) hs
   ·exact ⟨by simpa using h1.1.1.1,h1.1.1.2,h1.1.2,h1.2⟩
  ·rw [if_neg hi] at hl;have hr:zh1 mp bad nxt (i'::seen) r=true:=by
    cases o with
    | none=>exact h
    | some e'=>simp only [zh1,Bool.and_eq_true] at h;exact h.2
   exact zjI hr hl (fun hm=>by
    rcases List.mem_cons.1 hm with e | hm
    ·exact hi e.symm
    ·exact hs hm)
def zkR (mp:List (Nat×Option Nat)) (nxt:Nat):List Nat->List (Nat×Option RW)->Bool
 | _,[]=>true
 | seen,(i,none)::r=>zkR mp nxt (i::seen) r
 | seen,(i,some _)::r=>(seen.contains i || ((Nat.blt i nxt || Nat.ble LIM i) && fixB mp i && Nat.blt i RB)) && zkR mp nxt (i::seen) r
theorem zkS {mp:List (Nat×Option Nat)} {nxt:Nat}:∀ {l:List (Nat×Option RW)} {seen:List Nat} {i:Nat} {e:RW},zkR mp nxt seen l=true->look l i=some (some e)->i∉seen->
  (i < nxt\/LIM<=i)/\fixB mp i=true/\i < RB
 | (i',o)::r,seen,i,e,h,hl,hs=>by
  rw [zae] at hl;by_cases hi:i'=i
  ·rw [if_pos hi] at hl;cases hl;subst hi;simp only [zkR,Bool.and_eq_true,Bool.or_eq_true] at h;rcases h.1 with h1 | h1
   ·exact absurd (by simpa using h1) hs
   ·exact ⟨by simpa using h1.1.1,h1.1.2,by simpa using h1.2⟩
  ·rw [if_neg hi] at hl;have hr:zkR mp nxt (i'::seen) r=true:=by
    cases o with
    | none=>exact h
    | some e'=>simp only [zkR,Bool.and_eq_true] at h;exact h.2
   exact zkS hr hl (fun hm=>by
    rcases List.mem_cons.1 hm with e | hm
    ·exact hi e.symm
    ·exact hs hm)
structure Join where
 sh:Shape
 drop:List Nat
 dropE:List Nat
 keep:List Nat
 nxt:Nat
 prep:List (Nat×Nat×Option Nat×Ty)
def tgt (s:ESt) (j:Join) (X:Tup j.sh.tys):ESt:=
 ⟨s.n,(j.sh.slots.map fun p=>(p.1,p.2.ev (Tup.get j.sh.tys X) id))++((j.drop.map fun k=>(k,.any))++s.slots),
  zcG (Tup.get j.sh.tys X) id j.sh.ents++((j.dropE.map fun i=>(i,none))++s.heap),j.nxt,
  zbr (Tup.get j.sh.tys X) id j.sh.ents++((j.dropE.map fun i=>(i,none))++s.rws)⟩
def zdg (tys:List Ty):ESt->List (Nat×SV)->ESt
 | s,[]=>s
 | s,(k,.v j)::r=>match tys[j]? with
  | some t=>zdg tys (s.dat (.tmp k) t) r
  | none=>zdg tys s r
 | s,_::r=>zdg tys s r
theorem zfF (tys:List Ty):∀ (l:List (Nat×SV)) (s:ESt),Wk s (zdg tys s l)/\Sfx s (zdg tys s l)
 | [],s=>⟨Wk.refl s,Sfx.refl s⟩
 | (k,sv)::r,s=>by
  cases sv with
  | v j=>
   simp only [zdg];split
   ·rename_i t _;obtain ⟨h1,h2⟩:=zfF tys r (s.dat (.tmp k) t);exact ⟨(zev s _ t).trans h1,(Sfx.dat s _ t).trans h2⟩
   ·exact zfF tys r s
  | _=>exact zfF tys r s
def mchS (s:ESt):List (Nat×SV)->Vs×Ids->List Nat->Option ((Vs×Ids)×List Nat)
 | [],acc,nl=>some (acc,nl)
 | (k,sv)::r,acc,nl=>match s.get k with
  | none=>none
  | some x=>match sv,x with
   | .own i,.nil=>mchS s r acc (i::nl)
   | sv,x=>match mch sv x acc with
    | some acc=>mchS s r acc nl
    | none=>none
def mchN (tys:List Ty) (nl:List Nat):List (Nat×SE)->Vs->Option (List (Nat×SE)×Vs)
 | [],vs=>some ([],vs)
 | (i,.arr E j)::r,vs=>bif nl.contains i then (match tys[j]? with
   | some (.list t)=>bif Nat.blt 0 t.sz then mchN tys nl r ((j,.d (.list t) ([]:List t.den))::vs) else none
   | _=>none) else (match mchN tys nl r vs with
   | some (l,vs)=>some ((i,.arr E j)::l,vs)
   | none=>none)
 | (i,.box T c)::r,vs=>match mchN tys nl r vs with
  | some (l,vs)=>some ((i,.box T c)::l,vs)
  | none=>none
 | (i,.out f E E1 j)::r,vs=>bif nl.contains i then (match tys[j]? with
   | some (.list (.list t))=>mchN tys nl r ((j,.d (.list (.list t)) ([]:List (List t.den)))::vs)
   | _=>none) else (match mchN tys nl r vs with
   | some (l,vs)=>some ((i,.out f E E1 j)::l,vs)
   | none=>none)
def mpOf (ids:Ids) (nl keep:List Nat):List (Nat×Option Nat):=(ids.filter fun p=>Nat.blt p.1 LIM).map (fun p=>(p.1,some p.2))++(nl.map (fun i=>(i,none))++keep.map fun i=>(i,some i))
def zuX (l:List (Nat×Option EEnt)) (f:Nat):Bool:=match look l f with
 | some (some _)=>true
 | _=>false
def zuY (rs:List (Nat×Option RW)) (f:Nat):Bool:=match look rs f with
 | some (some _)=>true
 | _=>false
def capt (s0:ESt) (j:Join) (s:ESt):Option (Tup j.sh.tys):=
 match mchS (zdg j.sh.tys (s.prep j.prep) j.sh.slots) j.sh.slots ([],[]) [] with
 | none=>none
 | some (acc,nl)=>match mchN j.sh.tys nl j.sh.ents acc.1 with
  | none=>none
  | some (ents,vs)=>match mchE (zdg j.sh.tys (s.prep j.prep) j.sh.slots) ents (vs,acc.2) with
   | none=>none
   | some (vs,ids)=>match finV j.sh.tys vs with
    | none=>none
    | some X=>
     bif (let s1:=zdg j.sh.tys (s.prep j.prep) j.sh.slots
      let mp:=mpOf ids nl j.keep
      let ks:=j.sh.slots.map (·.1)
      let es:=j.sh.ents.map (·.1)
      let fs:=fams j.sh.ents
      let ds:=s1.slots.take (s1.slots.length - s0.slots.length)
      let dh:=s1.heap.take (s1.heap.length - s0.heap.length)
      let dr:=s1.rws.take (s1.rws.length - s0.rws.length)
      mpW mp j.nxt && (mp.all fun p=>match p.2 with
       | some o=>Nat.blt o LIM || (j.dropE.contains o && !(es.contains o) && !(fs.contains o))
       | none=>true) && Nat.ble s0.nxt j.nxt && (((es++(fs++j.dropE)).all fun i=>Nat.blt i RB) && za0 fs) && s0.low && s1.low &&
      ids.all (fun p=>Nat.blt p.1 LIM || (Nat.beq p.1 p.2 && Nat.blt p.1 RB)) && nl.all (fun i=>(match look ids i with | none=>Nat.blt i LIM | some _=>false)) &&
      ds.all (fun p=>ks.contains p.1 || j.drop.contains p.1) && dh.all (fun p=>es.contains p.1 || j.dropE.contains p.1 || (Nat.ble s0.nxt p.1 && Nat.blt p.1 LIM) || (p.2.isNone && !(zuX s0.heap p.1))) &&
      dr.all (fun p=>fs.contains p.1 || j.dropE.contains p.1 || (Nat.ble s0.nxt p.1 && Nat.blt p.1 LIM) || (p.2.isNone && !(zuY s0.rws p.1))) &&
      zkn mp (ks++j.drop) s0.slots && zh1 mp (fs++j.dropE) s0.nxt (es++j.dropE) s0.heap && zkR mp s0.nxt (fs++j.dropE) s0.rws) then some X else none
end
end Go.Ab
