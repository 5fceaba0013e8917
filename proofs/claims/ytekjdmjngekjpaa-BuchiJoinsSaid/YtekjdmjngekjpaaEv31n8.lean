/- Operations that make or write memory, computed. -/
import Derived.Test.YtekjdmjngekjpaaEv31n27
set_option linter.unusedVariables false
set_option linter.unusedSimpArgs false
set_option linter.unusedSectionVars false
namespace Go.Ab
noncomputable section
open Enc (enc)
structure Wk (s s':ESt):Prop where
 rel:∀ (F:Fr) (a:Act) (w:World),Rel F s.st a w->Rel F s'.st a w
 kd:∀ (k:Nat) (t:Ty) (x:t.den),s.get k=some (.d t x)->s'.get k=some (.d t x)
theorem Wk.refl (s:ESt):Wk s s:=⟨fun _ _ _ h=>h,fun _ _ _ h=>h⟩
theorem Wk.trans {a b c:ESt} (h:Wk a b) (k:Wk b c):Wk a c:=⟨fun F x w r=>k.rel F x w (h.rel F x w r),fun i t x hx=>k.kd i t x (h.kd i t x hx)⟩
theorem get_set (s:ESt) (k j:Nat) (x:EV):(s.set k x).get j=if k=j then some x else s.get j:=zaI _ _ _ _
def ESt.setAll (s:ESt) (ks:List Nat) (x:EV):ESt:=ks.foldl (fun s k=>s.set k x) s
theorem zpF (x:EV):∀ (ks:List Nat) (s:ESt),(s.setAll ks x).st=s.st.setAll ks x.av
 | [],_=>rfl
 | k::ks,s=>by
  show ((s.set k x).setAll ks x).st=(s.st.set k x.av).setAll ks x.av;rw [zpF x ks];rfl
def zBq (id:Nat):Option EV->Bool
 | some (.own i)=>Nat.beq i id
 | _=>false
theorem zns {id:Nat} {x:Option EV} (h:zBq id x=true):x=some (.own id):=by
 unfold zBq at h
 split at h
 ·rw [Nat.eq_of_beq_eq_true h]
 ·cases h
def ESt.owners (s:ESt) (id:Nat):List Nat:=((s.slots.filter fun p=>zBq id (some p.2)).map (·.1)).filter fun k=>zBq id (s.get k)
theorem zxF (s:ESt) (id:Nat):∀ (ks:List Nat),(∀ k∈ks,zBq id (s.get k)=true)->zvN s.st id ks=true
 | [],_=>rfl
 | k::ks,h=>by
  have h1:=zns (h k (by simp))
  rw [zvN,ziW h1,zxF s id ks (fun k hk=>h k (by simp [hk]))]
  simp [EV.av]
def zzw (id:Nat):Option EV->Bool
 | some (.view i _ _ _)=>Nat.beq i id
 | _=>false
theorem zuo {id:Nat} {x:Option EV} (h:zzw id x=true):∃ t i n,x=some (.view id t i n):=by
 unfold zzw at h
 split at h
 ·rename_i i t a n;rw [Nat.eq_of_beq_eq_true h];exact ⟨t,a,n,rfl⟩
 ·cases h
def ESt.viewers (s:ESt) (id:Nat):List Nat:=((s.slots.filter fun p=>zzw id (some p.2)).map (·.1)).filter fun k=>zzw id (s.get k)
def ESt.setViews (te:Ty) (l:List te.den):List Nat->ESt->ESt
 | [],s=>s
 | k::ks,s=>match s.get k with
  | some (.view _ t i n)=>bif Ty.beq t te then ESt.setViews te l ks (s.set k (.d (.list te) ((l.drop i).take n))) else ESt.setViews te l ks s
  | _=>ESt.setViews te l ks s
def ESt.freezeArr (s:ESt) (id:Nat) (te:Ty) (l:List te.den):ESt:=
 ESt.setViews te l (s.viewers id) ((s.put id none).setAll (s.owners id) (.d (.list te) l))
def ESt.datify (s:ESt) (k:Nat) (t:Ty):Option ESt:=match s.get k with
 | some (.own id)=>match s.ent id with
  | some (.arr _ te l)=>bif Ty.beq (.list te) t then some (s.freezeArr id te l) else none
  | some (.out f _)=>match look s.rws f with
   | some (some r)=>bif Ty.beq (.list (.list r.t)) t && r.hole.isNone && zvj s id [f] [] && Nat.blt f RB then some ((s.frzS id f).setAll (s.owners id) (.d (.list (.list r.t)) r.l)) else none
   | _=>none
  | _=>none
 | some (.view id _ _ _)=>match s.ent id with
  | some (.arr _ te l)=>bif Ty.beq (.list te) t then some (s.freezeArr id te l) else none
  | _=>none
 | some (.d t' _)=>bif Ty.beq t' t then some s else none
 | some x=>match x.as t with
  | some y=>some (s.set k (.d t y))
  | none=>none
 | none=>none
theorem zkg (x:EV):∀ (ks:List Nat) (s:ESt) (k:Nat),k∉ks->(s.setAll ks x).get k=s.get k
 | [],_,_,_=>rfl
 | k'::ks,s,k,h=>by
  show ((s.set k' x).setAll ks x).get k=_;rw [zkg x ks _ k (fun hk=>h (by simp [hk])),get_set,if_neg (fun e=>h (by simp [e]))]
theorem zok (te:Ty) (l:List te.den):∀ (ks:List Nat) (s:ESt) (i:Nat) (u:Ty) (z:u.den),s.get i=some (.d u z)->(ESt.setViews te l ks s).get i=some (.d u z)
 | [],_,_,_,_,h=>h
 | k::ks,s,i,u,z,h=>by
  simp only [ESt.setViews]
  split
  ·rename_i id t a n hk
   cases Ty.beq t te with
   | true=>
    refine zok te l ks _ i u z ?_
    rw [get_set];by_cases e:k=i
    ·subst e;rw [hk] at h;cases h
    ·rw [if_neg e];exact h
   | false=>exact zok te l ks _ i u z h
  ·exact zok te l ks _ i u z h
theorem zmM {F:Fr} {H:Hd} {a:Act} {w:World} (te:Ty) (l:List te.den) (id:Nat) (v:Value) (hH:H id=some v) (ent:Nat->Option Ent) (hd:DRel w (Sh F.X ent H w) (encD (.list te) l) v):
  ∀ (ks:List Nat) (s:ESt),s.st.ent=ent->(∀ k∈ks,∀ i t a n,s.get k=some (.view i t a n)->i=id)->RelH F s.st H a w->RelH F (ESt.setViews te l ks s).st H a w
 | [],s,_,_,r=>r
 | k::ks,s,he,hv,r=>by
  simp only [ESt.setViews]
  split
  ·rename_i i t q n hk;have hi:=hv k (by simp) i t q n hk
   subst hi
   cases hb:Ty.beq t te with
   | true=>
    have:=Ty.eq_of_beq hb;subst this;refine zmM t l i v hH ent hd ks _ (by rw [<- he];rfl) (fun k' hk' i' t' a' n' h => ?_) ?_
    ·rw [get_set] at h;by_cases e:k=k'
     ·rw [if_pos e] at h;cases h
     ·rw [if_neg e] at h;exact hv k' (by simp [hk']) i' t' a' n' h
    ·rw [zkK];refine r.setAV ?_
     rw [he];show VRel w _ H (.d (encD (.list t) ((l.drop q).take n))) _;have:=r.viewDat hH hd (ziW hk) (fun d hd=>by
      obtain ⟨x,_,rfl⟩:=List.mem_map.1 hd;exact zbD t x)
     rw [<- List.map_drop,<- List.map_take] at this;exact .d _ _ this
   | false=>exact zmM te l i v hH ent hd ks s he (fun k' hk'=>hv k' (by simp [hk'])) r
  ·exact zmM te l id v hH ent hd ks s he (fun k' hk'=>hv k' (by simp [hk'])) r
theorem zv5 (x:EV):∀ (ks:List Nat) (s:ESt),(s.setAll ks x).st.ent=s.st.ent
 | [],_=>rfl
 | k::ks,s=>by
  show ((s.set k x).setAll ks x).st.ent=_;rw [zv5 x ks];rfl
theorem zsL {s:ESt} {id E:Nat} {te:Ty} {l:List te.den} (h2:s.ent id=some (.arr E te l)):Wk s (s.freezeArr id te l):=by
 refine ⟨fun F a w ⟨H,r⟩=>⟨H,?_⟩,fun i u z hz => ?_⟩
 ·have r1:=r.freezeA (s.owners id) (zxF s id _ (fun k hk=>(List.mem_filter.1 hk).2)) (zcf h2)
  obtain ⟨v,hH,hd⟩:=r.frozen (zcf h2);unfold ESt.freezeArr;refine zmM te l id v hH (s.st.put id none).ent hd _ _ ?_ (fun k hk i t a n h => ?_) ?_
  ·rw [zv5,zjY];rfl
  ·by_cases hm:k∈s.owners id
   ·exfalso;have e1:=zns (List.mem_filter.1 hm).2;obtain ⟨t',a',n',e2⟩:=zuo (List.mem_filter.1 hk).2;rw [e1] at e2;cases e2
   ·rw [zkg _ _ _ _ hm] at h;have h:s.get k=some (.view i t a n):=h;obtain ⟨t',a',n',e2⟩:=zuo (List.mem_filter.1 hk).2;rw [h] at e2;cases e2;rfl
  ·rw [zpF];exact r1
 ·unfold ESt.freezeArr;refine zok te l _ _ i u z ?_
  rw [zkg _ _ _ _ (fun hi => ?_)]
  ·exact hz
  ·have:=zns (List.mem_filter.1 hi).2;rw [hz] at this;cases this
theorem zBZ {r:RW} (h:r.hole.isNone=true):r=⟨r.E,r.t,r.l,none⟩:=by
 obtain ⟨E,t,l,hole⟩:=r
 cases hole with
 | none=>rfl
 | some x=>cases h
theorem zDu {s:ESt} {id f E:Nat} {r:RW} (h2:s.ent id=some (.out f E)) (h3:look s.rws f=some (some r)) (hb:r.hole.isNone=true) (hok:zvj s id [f] []=true) (hf:Nat.blt f RB=true):
  Wk s ((s.frzS id f).setAll (s.owners id) (.d (.list (.list r.t)) r.l)):=by
 refine ⟨fun F a w ⟨H,rl⟩=>⟨H,?_⟩,fun i u z hz => ?_⟩
 ·rw [zBZ hb] at h3;obtain ⟨h4,v,h5,h6⟩:=zzr hok (by simpa using hf) h2 h3 rl
  rw [zpF];refine zmb _ _ _ h4 fun k hk => ?_
  have e1:=zns (List.mem_filter.1 hk).2;have hv:=rl.slot k _ (ziW e1);generalize a.tmps.getD k undef=u at hv
  cases hv with
  | own _ _ h _=>rw [h5] at h;cases h;exact .d _ _ h6
 ·rw [zkg _ _ _ _ (fun hi => ?_)]
  ·exact hz
  ·have:=zns (List.mem_filter.1 hi).2;rw [hz] at this;cases this
theorem zAZ {s s':ESt} {k:Nat} {t:Ty} (h:s.datify k t=some s'):Wk s s':=by
 unfold ESt.datify at h
 split at h
 ·rename_i id h1
  split at h
  ·rename_i E te l h2;have:=(zac h).2;cases this;exact zsL h2
  ·rename_i f E h2
   split at h
   ·rename_i r h3;obtain ⟨hb,h⟩:=zac h
    cases h;simp only [Bool.and_eq_true] at hb;exact zDu h2 h3 hb.1.1.2 hb.1.2 hb.2
   ·cases h
  ·cases h
 ·rename_i id _ _ _ h1
  split at h
  ·rename_i E te l h2;have:=(zac h).2;cases this;exact zsL h2
  ·cases h
 ·have:=(zac h).2;cases this;exact Wk.refl _
 ·rename_i x h1 h2 h2' h3
  split at h
  ·rename_i y h4
   cases h;refine ⟨fun F a w ⟨H,r⟩=>⟨H,?_⟩,fun i u z hz => ?_⟩
   ·rw [zkK];exact r.setAV (zAH h4 _ _ _ _ (r.slot k _ (ziW h3)))
   ·rw [get_set];by_cases hki:k=i
    ·subst hki;rw [h3] at hz
     cases hz;exact absurd rfl (h2' _ _)
    ·rw [if_neg hki];exact hz
  ·cases h
 ·cases h
def ESt.dat0 (s:ESt) (x:Operand) (t:Ty):ESt:=match x with
 | .tmp k=>match s.datify k t with
  | some s'=>s'
  | none=>s
 | _=>s
theorem zAW (s:ESt) (x:Operand) (t:Ty):Wk s (s.dat0 x t):=by
 unfold ESt.dat0
 split
 ·split
  ·rename_i h;exact zAZ h
  ·exact Wk.refl _
 ·exact Wk.refl _
def ESt.boxDat1 (s:ESt) (id j:Nat):ESt:=match s.ent id with
 | some (.box T cs)=>match cs[j]? with
  | some (.own id2)=>match s.ent id2 with
   | some (.arr _ te l)=>bif Nat.beq id2 id then s else (s.put id2 none).put id (some (.box T (cs.set j (.d (.list te) l))))
   | some (.out f _)=>match look s.rws f with
    | some (some r)=>bif !(Nat.beq id2 id) && r.hole.isNone && zvj s id2 [f] [] && Nat.blt f RB then (s.frzS id2 f).put id (some (.box T (cs.set j (.d (.list (.list r.t)) r.l)))) else s
    | _=>s
   | _=>s
  | _=>s
 | _=>s
theorem zrZ:∀ (l:List EV) (j:Nat) (x:EV),EV.avL (l.set j x)=(EV.avL l).set j x.av
 | [],_,_=>rfl
 | y::l,0,x=>rfl
 | y::l,j+1,x=>by rw [List.set_cons_succ,EV.avL,EV.avL,List.set_cons_succ,zrZ l j x]
theorem zr1 (s:ESt) (id j:Nat):Wk s (s.boxDat1 id j):=by
 unfold ESt.boxDat1
 split
 ·rename_i T cs h1
  split
  ·rename_i id2 h2
   split
   ·rename_i E te l h3
    cases hb:Nat.beq id2 id with
    | true=>exact Wk.refl _
    | false=>
     refine ⟨fun F a w ⟨H,r⟩=>⟨H,?_⟩,fun _ _ _ hz=>hz⟩
     have:=r.boxfreeze (zcf h1) (j:=j) (id2:=id2) (by rw [ztR,h2];rfl) (zcf h3) hb
     show RelH F (((s.put id2 none).put id (some (.box T (cs.set j (.d (.list te) l)))))).st H a w;rw [zjY,zjY];simp only [Option.map_some,Option.map_none,EEnt.ent,zrZ];exact this
   ·rename_i f E h3
    split
    ·rename_i r h4
     cases hb : !(Nat.beq id2 id) && r.hole.isNone && zvj s id2 [f] [] && Nat.blt f RB with
     | false=>exact Wk.refl _
     | true=>
      simp only [Bool.and_eq_true,Bool.not_eq_true'] at hb;obtain ⟨⟨⟨g1,g2⟩,g3⟩,g4⟩:=hb;have hne:id2≠id:=Nat.ne_of_beq_eq_false g1;refine ⟨fun F a w ⟨H,rl⟩=>⟨H,?_⟩,fun _ _ _ hz=>hz⟩
      rw [zBZ g2] at h4;obtain ⟨k1,v,k2,k3⟩:=zzr g3 (by simpa using g4) h3 h4 rl
      have he:(s.frzS id2 f).ent id=some (.box T cs):=by
       have:(s.frzS id2 f).heap=(id2,none)::s.heap:=rfl;unfold ESt.ent at h1 ⊢;rw [this,zaI,if_neg hne];exact h1
      have:=k1.boxset (zcf he) (j:=j) (id2:=id2) (by rw [ztR,h2];rfl) k2 k3
      rw [cond_true,zjY];simp only [Option.map_some,EEnt.ent,zrZ];exact this
    ·exact Wk.refl _
   ·exact Wk.refl _
  ·exact Wk.refl _
 ·exact Wk.refl _
def ESt.boxDat (s:ESt) (id:Nat):Nat->Nat->ESt
 | _,0=>s
 | k,n+1=>ESt.boxDat (s.boxDat1 id k) id (k+1) n
theorem zm8 (id:Nat):∀ (n:Nat) (s:ESt) (k:Nat),Wk s (s.boxDat id k n)
 | 0,s,k=>Wk.refl s
 | n+1,s,k=>(zr1 s id k).trans (zm8 id n _ (k+1))
def zxA (id:Nat):Option EV->Bool
 | some (.ptr i 0)=>Nat.beq i id
 | _=>false
theorem zun {id:Nat} {x:Option EV} (h:zxA id x=true):x=some (.ptr id 0):=by
 unfold zxA at h
 split at h
 ·rw [Nat.eq_of_beq_eq_true h]
 ·cases h
def ESt.holdersP (s:ESt) (id:Nat):List Nat:=((s.slots.filter fun p=>zxA id (some p.2)).map (·.1)).filter fun k=>zxA id (s.get k)
theorem zuk (s:ESt) (id:Nat):∀ (ks:List Nat),(∀ k∈ks,zxA id (s.get k)=true)->zrC s.st id ks=true
 | [],_=>rfl
 | k::ks,h=>by
  have h1:=zun (h k (by simp))
  rw [zrC,ziW h1,zuk s id ks (fun k hk=>h k (by simp [hk]))]
  simp [EV.av]
theorem zvZ (σ:St) (i:Nat) (e:Option Ent) (id:Nat):∀ ks:List Nat,zrC (σ.put i e) id ks=zrC σ id ks
 | []=>rfl
 | k::ks=>by rw [zrC,zrC,zvZ σ i e id ks];rfl
def ESt.treeify2 (s:ESt) (id:Nat) (u:Ty):ESt:=match s.ent id with
 | some (.box T cs)=>match zsg (zk8 u) cs with
  | some (x,[])=>bif u.chain then ((((s.put id (some (.box T (zsD (zk8 u) x)))).put id none).setAll (s.holdersP id) (.addr (zk8 u) x)).setAll (s.holdersP id) (.d (.tree u) (mkTr u x))) else s
  | _=>s
 | _=>s
def ESt.treeify (s:ESt) (k:Nat) (u:Ty):ESt:=match s.get k with
 | some (.ptr id 0)=>match s.ent id with
  | some (.box _ cs)=>(s.boxDat id 0 cs.length).treeify2 id u
  | _=>s
 | _=>s
theorem zzd (s:ESt) (id:Nat) (u:Ty):Wk s (s.treeify2 id u):=by
 unfold ESt.treeify2
 split
 ·rename_i T cs he
  split
  ·rename_i x hx
   cases hb:u.chain with
   | false=>exact Wk.refl s
   | true=>
    simp only [cond_true];have hks:∀ k∈s.holdersP id,s.get k=some (.ptr id 0):=fun k hk=>zun (List.mem_filter.1 hk).2
    refine ⟨fun F a w ⟨H,r⟩=>⟨H,?_⟩,fun i t z hz => ?_⟩
    ·obtain ⟨l1,h1,h2⟩:=ziX hx;rw [List.append_nil] at h1;subst h1;have r1:=r.boxpack (zcf he) h2;have r2:=r1.freezeB (id:=id) (T:=T) (x := .agg (encD (zk8 u) x).cells) (s.holdersP id) (by
      have:=zuk s id (s.holdersP id) (fun k hk=>(List.mem_filter.1 hk).2)
      rw [zvZ];exact this) (by rw [St.ent_put,if_pos rfl];rfl)
     have e:((((s.put id (some (.box T (zsD (zk8 u) x)))).put id none).setAll (s.holdersP id) (.addr (zk8 u) x)).st)=(((s.st.put id (some (.box T ((encD (zk8 u) x).cells.map .d)))).put id none).setAll (s.holdersP id) (.addr (.agg (encD (zk8 u) x).cells))):=by
      rw [zpF,zjY,zjY];simp only [Option.map_some,Option.map_none,EEnt.ent,zpf,EV.av];rw [<- zgJ (zuy hb) x]
     rw [zpF,e];refine zmb _ _ _ r2 fun k hk => ?_
     have hg:(((s.st.put id (some (.box T ((encD (zk8 u) x).cells.map .d)))).put id none).setAll (s.holdersP id) (.addr (.agg (encD (zk8 u) x).cells))).get k=some (.addr (.agg (encD (zk8 u) x).cells)):=by
      rw [<- e,zxX];have:∀ (ks:List Nat) (s':ESt),k∈ks->(s'.setAll ks (.addr (zk8 u) x)).get k=some (.addr (zk8 u) x):=by
       intro ks
       induction ks with
       | nil=>intro _ h;cases h
       | cons k' ks ih=>
        intro s' h;show ((s'.set k' (.addr (zk8 u) x)).setAll ks (.addr (zk8 u) x)).get k=_;by_cases hm:k∈ks
        ·exact ih _ hm
        ·rw [zkg _ _ _ _ hm,get_set];rcases List.mem_cons.1 h with rfl | h
         ·rw [if_pos rfl]
         ·exact absurd h hm
      rw [this _ _ hk];show some (AV.addr (encD (zk8 u) x))=_;rw [zgJ (zuy hb) x];rfl
     have hv:=r2.slot k _ hg;show VRel w _ H (.d (encD (.tree u) (mkTr u x))) _;rw [zCy hb];generalize a.tmps.getD k undef=v at hv
     cases hv with
     | addr _ b off f h1 h2 h3=>exact .d _ _ (.ptr _ b off f h1 h2 h3)
    ·have hni:i∉s.holdersP id:=fun hi=>by have:=hks i hi;rw [hz] at this;cases this
     rw [zkg _ _ _ _ hni,zkg _ _ _ _ hni];exact hz
  ·exact Wk.refl s
 ·exact Wk.refl s
theorem zAz (s:ESt) (k:Nat) (u:Ty):Wk s (s.treeify k u):=by
 unfold ESt.treeify
 split
 ·split
  ·exact (zm8 _ _ s 0).trans (zzd _ _ _)
  ·exact Wk.refl s
 ·exact Wk.refl s
def ESt.dat (s:ESt) (x:Operand) (t:Ty):ESt:=match t,x with
 | .tree u,.tmp k=>(s.treeify k u).dat0 (.tmp k) (.tree u)
 | _,_=>s.dat0 x t
theorem zqh (s:ESt) (x:Operand) (t:Ty):Wk s (s.dat x t):=by
 unfold ESt.dat
 split
 ·exact (zAz s _ _).trans (zAW _ _ _)
 ·exact zAW s x t
def EV.cellsOf:EV->Option (List EV)
 | .any=>none
 | .undef=>none
 | .tup _=>none
 | .raw _=>none
 | .d t x=>some (zsD t x)
 | .agg l=>some l
 | x=>some [x]
theorem zmC {x:EV} {l:List EV} (h:x.cellsOf=some l):zbc x.av=EV.avL l/\x.av.isAny=false:=by
 cases x<;>simp only [EV.cellsOf,Option.some.injEq,reduceCtorEq] at h<;>subst h
 case d t x=>exact ⟨(zpf t x).symm,rfl⟩
 case lit v=>exact ⟨rfl,rfl⟩
 all_goals exact ⟨rfl,rfl⟩
def EV.oneB:EV->Bool
 | .any=>false
 | .undef=>false
 | .tup _=>false
 | .raw _=>false
 | .agg _=>false
 | .d t _ => !t.agg
 | _=>true
theorem zBK {x:EV} (h:x.oneB=true):x.av.one=true:=by
 cases x with
 | d t x=>
  have ht:t.agg=false:=by simpa [EV.oneB] using h
  show (encD t x).one=true
  cases t<;>first | rfl | exact ztA _ x | (simp [Ty.agg] at ht)
 | lit v=>rfl
 | _=>first | rfl | (simp [EV.oneB] at h)
theorem ztQ:∀ {l:List EV},l.all EV.oneB=true->(EV.avL l).all AV.one=true
 | [],_=>rfl
 | x::l,h=>by
  simp only [List.all_cons,Bool.and_eq_true] at h;rw [EV.avL,List.all_cons,zBK h.1,ztQ h.2];rfl
def zxW (l:List EV) (k:Nat) (ys:List EV):List EV:=l.take k++ys++l.drop (k+ys.length)
theorem zw4 (l:List EV) (k:Nat) (ys:List EV):EV.avL (zxW l k ys)=zf4 (EV.avL l) k (EV.avL ys):=by
 unfold zxW zf4;simp only [zj5,List.map_append,List.map_take,List.map_drop,List.length_map]
def zz6 (place:Nat->Option (Nat×Nat)):List EV->List (Nat×EV)->Option (List EV)
 | cs,[]=>some cs
 | cs,(i,x)::r=>match place i with
  | none=>none
  | some (off,size)=>match x.cellsOf with
   | none=>none
   | some ys=>bif Nat.beq ys.length size && Nat.ble (off+size) cs.length then zz6 place (zxW cs off ys) r else none
theorem zwy {place:Nat->Option (Nat×Nat)}:∀ {xs:List (Nat×EV)} {cs cs':List EV},zz6 place cs xs=some cs'->ztq place (EV.avL cs) (xs.map fun p=>(p.1,p.2.av))=some (EV.avL cs')
 | [],cs,cs',h=>by simp only [zz6,Option.some.injEq] at h;subst h;rfl
 | (i,x)::r,cs,cs',h=>by
  simp only [zz6] at h;rw [List.map_cons,ztq]
  split at h
  ·cases h
  ·rename_i off size hp
   split at h
   ·cases h
   ·rename_i ys hy;obtain ⟨hb,h⟩:=zac h;simp only [Bool.and_eq_true] at hb;obtain ⟨h1,h2⟩:=zmC hy;simp only [hp,h1,h2,zk4,hb.1,hb.2,Bool.not_false,Bool.and_self,cond_true];rw [<- zw4];exact zwy h
def ztB (s:ESt):List (Nat×Operand)->Option (List (Nat×EV))
 | []=>some []
 | (i,x)::r=>match s.ev x with
  | some v=>match ztB s r with
   | some l=>some ((i,v)::l)
   | none=>none
  | none=>none
theorem zn4 {s:ESt}:∀ {l:List (Nat×Operand)} {xs:List (Nat×EV)},ztB s l=some xs->zqL s.st l (xs.map fun p=>(p.1,p.2.av))
 | [],xs,h=>by cases h;rfl
 | (i,x)::r,xs,h=>by
  simp only [ztB] at h
  split at h
  ·rename_i v h1
   split at h
   ·rename_i l h2;cases h;exact ⟨rfl,zaJ h1,zn4 h2⟩
   ·cases h
  ·cases h
def zwq (s:ESt) (t:Ty):List (Nat×Operand)->Nat->Option (List t.den)
 | [],_=>some []
 | (i,x)::r,k=>bif Nat.beq i k then (match s.ev x with
  | some v=>match v.exact t with
   | some y=>match zwq s t r (k+1) with
    | some l=>some (y::l)
    | none=>none
   | none=>none
  | none=>none) else none
theorem zsK {s:ESt} {t:Ty} (ht:0 < t.sz):∀ {l:List (Nat×Operand)} {k:Nat} {ys:List t.den} (A:List AV),zwq s t l k=some ys->A.length=k * t.sz->
  l.length=ys.length/\∃ xs,zqL s.st l xs/\ztq (fun i=>some (i * t.sz,t.sz)) (A++List.replicate (ys.length * t.sz) .any) xs=some (A++(ys.flatMap fun y=>(encD t y).cells).map .d)
 | [],k,ys,A,h,hA=>by
  cases h;exact ⟨rfl,[],rfl,by simp [ztq]⟩
 | (i,x)::r,k,ys,A,h,hA=>by
  simp only [zwq] at h;obtain ⟨hi,h⟩:=zac h;have:=Nat.eq_of_beq_eq_true hi;subst this
  split at h
  ·rename_i v hv
   split at h
   ·rename_i y hy
    split at h
    ·rename_i l hl
     cases h;have hvd:=znr hy;subst hvd;have hcl:(zbc (.d (encD t y))).length=t.sz:=by simp [zbc,avs,zbD]
     obtain ⟨h1,xs,h2,h3⟩:=zsK ht (A++(encD t y).cells.map .d) hl (by rw [List.length_append,List.length_map,zbD,hA,Nat.add_mul];omega)
     refine ⟨by simp [h1],(i,.d (encD t y))::xs,⟨rfl,zaJ hv,h2⟩,?_⟩
     rw [ztq];simp only [hcl];have hb:(Nat.beq t.sz t.sz && Nat.ble (i * t.sz+t.sz) (A++List.replicate ((y::l).length * t.sz) AV.any).length && !(AV.d (encD t y)).isAny)=true:=by
      simp only [List.length_append,List.length_replicate,hA,List.length_cons,AV.isAny,Bool.not_false,Bool.and_true];have:i * t.sz+t.sz<=i * t.sz+(l.length+1) * t.sz:=by rw [Nat.add_mul];omega
      simp [this]
     rw [hb];simp only [cond_true];have hset:zf4 (A++List.replicate ((y::l).length * t.sz) AV.any) (i * t.sz) (zbc (.d (encD t y)))=(A++(encD t y).cells.map .d)++List.replicate (l.length * t.sz) .any:=by
      unfold zf4;rw [hcl,<- hA,List.take_left,List.drop_append,List.drop_of_length_le (by omega),List.nil_append,List.drop_replicate]
      congr 2
      simp only [List.length_cons,Nat.add_mul];omega
     rw [hset,h3];simp [List.append_assoc]
    ·cases h
   ·cases h
  ·cases h
end
end Go.Ab
