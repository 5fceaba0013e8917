import Derived.Test.YticelcjhokgcbaaEv40n27
set_option linter.unusedVariables false
set_option linter.unusedSimpArgs false
namespace Go.Ab
noncomputable section
open Enc (enc)
structure Wk (s s':ESt):Prop where
 rel:∀ (F:Fr) (a:Act) (w:World),Rel F s.st a w->Rel F s'.st a w
 kd:∀ (k:Nat) (t:Ty) (x:t.den),s.get k=some (.d t x)->s'.get k=some (.d t x)
theorem Wk.refl (s:ESt):Wk s s:=⟨fun _ _ _ h=>h,fun _ _ _ h=>h⟩
theorem Wk.trans {a b c:ESt} (h:Wk a b) (k:Wk b c):Wk a c:=⟨fun F x w r=>k.rel F x w (h.rel F x w r),fun i t x hx=>k.kd i t x (h.kd i t x hx)⟩
theorem get_set (s:ESt) (k j:Nat) (x:EV):(s.set k x).get j=if k=j then some x else s.get j:=zaf _ _ _ _
def ESt.setAll (s:ESt) (ks:List Nat) (x:EV):ESt:=ks.foldl (fun s k=>s.set k x) s
theorem zl8 (x:EV):∀ (ks:List Nat) (s:ESt),(s.setAll ks x).st=s.st.setAll ks x.av
 | [],_=>rfl
 | k::ks,s=>by
  show ((s.set k x).setAll ks x).st=(s.st.set k x.av).setAll ks x.av;rw [zl8 x ks];rfl
def zy3 (id:Nat):Option EV->Bool
 | some (.own i)=>Nat.beq i id
 | _=>false
theorem zji {id:Nat} {x:Option EV} (h:zy3 id x=true):x=some (.own id):=by
 unfold zy3 at h
 split at h
 ·rw [Nat.eq_of_beq_eq_true h]
 ·cases h
def ESt.owners (s:ESt) (id:Nat):List Nat:=((s.slots.filter fun p=>zy3 id (some p.2)).map (·.1)).filter fun k=>zy3 id (s.get k)
theorem zuS (s:ESt) (id:Nat):∀ (ks:List Nat),(∀ k∈ks,zy3 id (s.get k)=true)->zsL s.st id ks=true
 | [],_=>rfl
 | k::ks,h=>by
  have h1:=zji (h k (by simp))
  rw [zsL,zet h1,zuS s id ks (fun k hk=>h k (by simp [hk]))]
  simp [EV.av]
def zwN (id:Nat):Option EV->Bool
 | some (.view i _ _ _)=>Nat.beq i id
 | _=>false
theorem zrf {id:Nat} {x:Option EV} (h:zwN id x=true):∃ t i n,x=some (.view id t i n):=by
 unfold zwN at h
 split at h
 ·rename_i i t a n;rw [Nat.eq_of_beq_eq_true h];exact ⟨t,a,n,rfl⟩
 ·cases h
def ESt.viewers (s:ESt) (id:Nat):List Nat:=((s.slots.filter fun p=>zwN id (some p.2)).map (·.1)).filter fun k=>zwN id (s.get k)
def ESt.setViews (te:Ty) (l:List te.den):List Nat->ESt->ESt
 | [],s=>s
 | k::ks,s=>match s.get k with
  | some (.view _ t i n)=>bif Ty.beq t te then ESt.setViews te l ks (s.set k (.d (.list te) ((l.drop i).take n))) else ESt.setViews te l ks s
  | _=>ESt.setViews te l ks s
def ESt.freezeArr (s:ESt) (id:Nat) (te:Ty) (l:List te.den):ESt:=
 ESt.setViews te l (s.viewers id) ((s.put id none).setAll (s.owners id) (.d (.list te) l))
def ESt.datify (s:ESt) (k:Nat) (t:Ty):Option ESt:=match s.get k with
 | some (.own id)=>match s.ent id with
  | some (.arr _ te l)=>bif Ty.beq (.list te) t then some (s.freezeArr id te l) else none
  | some (.out f _)=>match look s.rws f with
   | some (some r)=>bif Ty.beq (.list (.list r.t)) t && r.hole.isNone && zjh s id [f] [] && Nat.blt f RB then some ((s.frzS id f).setAll (s.owners id) (.d (.list (.list r.t)) r.l)) else none
   | _=>none
  | _=>none
 | some (.view id _ _ _)=>match s.ent id with
  | some (.arr _ te l)=>bif Ty.beq (.list te) t then some (s.freezeArr id te l) else none
  | _=>none
 | some (.d t' _)=>bif Ty.beq t' t then some s else none
 | some x=>match x.as t with
  | some y=>some (s.set k (.d t y))
  | none=>none
 | none=>none
theorem zfV (x:EV):∀ (ks:List Nat) (s:ESt) (k:Nat),k∉ks->(s.setAll ks x).get k=s.get k
 | [],_,_,_=>rfl
 | k'::ks,s,k,h=>by
  show ((s.set k' x).setAll ks x).get k=_;rw [zfV x ks _ k (fun hk=>h (by simp [hk])),get_set,if_neg (fun e=>h (by simp [e]))]
theorem zkr (te:Ty) (l:List te.den):∀ (ks:List Nat) (s:ESt) (i:Nat) (u:Ty) (z:u.den),s.get i=some (.d u z)->(ESt.setViews te l ks s).get i=some (.d u z)
 | [],_,_,_,_,h=>h
 | k::ks,s,i,u,z,h=>by
  simp only [ESt.setViews]
  split
  ·rename_i id t a n hk
   cases Ty.beq t te with
   | true=>
    refine zkr te l ks _ i u z ?_
    rw [get_set];by_cases e:k=i
    ·subst e;rw [hk] at h;cases h
    ·rw [if_neg e];exact h
   | false=>exact zkr te l ks _ i u z h
  ·exact zkr te l ks _ i u z h
theorem zis {F:Fr} {H:Hd} {a:Act} {w:World} (te:Ty) (l:List te.den) (id:Nat) (v:Value) (hH:H id=some v) (ent:Nat->Option Ent) (hd:DRel w (Sh F.X ent H w) (encD (.list te) l) v):
  ∀ (ks:List Nat) (s:ESt),s.st.ent=ent->(∀ k∈ks,∀ i t a n,s.get k=some (.view i t a n)->i=id)->RelH F s.st H a w->RelH F (ESt.setViews te l ks s).st H a w
 | [],s,_,_,r=>r
 | k::ks,s,he,hv,r=>by
  simp only [ESt.setViews]
  split
  ·rename_i i t q n hk;have hi:=hv k (by simp) i t q n hk
   subst hi
   cases hb:Ty.beq t te with
   | true=>
    have:=Ty.eq_of_beq hb;subst this;refine zis t l i v hH ent hd ks _ (by rw [<- he];rfl) (fun k' hk' i' t' a' n' h => ?_) ?_
    ·rw [get_set] at h;by_cases e:k=k'
     ·rw [if_pos e] at h;cases h
     ·rw [if_neg e] at h;exact hv k' (by simp [hk']) i' t' a' n' h
    ·rw [zhU];refine r.setAV ?_
     rw [he];show VRel w _ H (.d (encD (.list t) ((l.drop q).take n))) _;have:=r.viewDat hH hd (zet hk) (fun d hd=>by
      obtain ⟨x,_,rfl⟩:=List.mem_map.1 hd;exact zaF t x)
     rw [<- List.map_drop,<- List.map_take] at this;exact .d _ _ this
   | false=>exact zis te l i v hH ent hd ks s he (fun k' hk'=>hv k' (by simp [hk'])) r
  ·exact zis te l id v hH ent hd ks s he (fun k' hk'=>hv k' (by simp [hk'])) r
theorem zsW (x:EV):∀ (ks:List Nat) (s:ESt),(s.setAll ks x).st.ent=s.st.ent
 | [],_=>rfl
 | k::ks,s=>by
  show ((s.set k x).setAll ks x).st.ent=_;rw [zsW x ks];rfl
theorem zpG {s:ESt} {id E:Nat} {te:Ty} {l:List te.den} (h2:s.ent id=some (.arr E te l)):Wk s (s.freezeArr id te l):=by
 refine ⟨fun F a w ⟨H,r⟩=>⟨H,?_⟩,fun i u z hz => ?_⟩
 ·have r1:=r.freezeA (s.owners id) (zuS s id _ (fun k hk=>(List.mem_filter.1 hk).2)) (zaW h2)
  obtain ⟨v,hH,hd⟩:=r.frozen (zaW h2);unfold ESt.freezeArr;refine zis te l id v hH (s.st.put id none).ent hd _ _ ?_ (fun k hk i t a n h => ?_) ?_
  ·rw [zsW,zgP];rfl
  ·by_cases hm:k∈s.owners id
   ·exfalso;have e1:=zji (List.mem_filter.1 hm).2;obtain ⟨t',a',n',e2⟩:=zrf (List.mem_filter.1 hk).2;rw [e1] at e2;cases e2
   ·rw [zfV _ _ _ _ hm] at h;have h:s.get k=some (.view i t a n):=h;obtain ⟨t',a',n',e2⟩:=zrf (List.mem_filter.1 hk).2;rw [h] at e2;cases e2;rfl
  ·rw [zl8];exact r1
 ·unfold ESt.freezeArr;refine zkr te l _ _ i u z ?_
  rw [zfV _ _ _ _ (fun hi => ?_)]
  ·exact hz
  ·have:=zji (List.mem_filter.1 hi).2;rw [hz] at this;cases this
theorem zzB {r:RW} (h:r.hole.isNone=true):r=⟨r.E,r.t,r.l,none⟩:=by
 obtain ⟨E,t,l,hole⟩:=r
 cases hole with
 | none=>rfl
 | some x=>cases h
theorem zBK {s:ESt} {id f E:Nat} {r:RW} (h2:s.ent id=some (.out f E)) (h3:look s.rws f=some (some r)) (hb:r.hole.isNone=true) (hok:zjh s id [f] []=true) (hf:Nat.blt f RB=true):
  Wk s ((s.frzS id f).setAll (s.owners id) (.d (.list (.list r.t)) r.l)):=by
 refine ⟨fun F a w ⟨H,rl⟩=>⟨H,?_⟩,fun i u z hz => ?_⟩
 ·rw [zzB hb] at h3;obtain ⟨h4,v,h5,h6⟩:=zwI hok (by simpa using hf) h2 h3 rl
  rw [zl8];refine zhT _ _ _ h4 fun k hk => ?_
  have e1:=zji (List.mem_filter.1 hk).2;have hv:=rl.slot k _ (zet e1);generalize a.tmps.getD k undef=u at hv
  cases hv with
  | own _ _ h _=>rw [h5] at h;cases h;exact .d _ _ h6
 ·rw [zfV _ _ _ _ (fun hi => ?_)]
  ·exact hz
  ·have:=zji (List.mem_filter.1 hi).2;rw [hz] at this;cases this
theorem zyu {s s':ESt} {k:Nat} {t:Ty} (h:s.datify k t=some s'):Wk s s':=by
 unfold ESt.datify at h
 split at h
 ·rename_i id h1
  split at h
  ·rename_i E te l h2;have:=(zab h).2;cases this;exact zpG h2
  ·rename_i f E h2
   split at h
   ·rename_i r h3;obtain ⟨hb,h⟩:=zab h
    cases h;simp only [Bool.and_eq_true] at hb;exact zBK h2 h3 hb.1.1.2 hb.1.2 hb.2
   ·cases h
  ·cases h
 ·rename_i id _ _ _ h1
  split at h
  ·rename_i E te l h2;have:=(zab h).2;cases this;exact zpG h2
  ·cases h
 ·have:=(zab h).2;cases this;exact Wk.refl _
 ·rename_i x h1 h2 h2' h3
  split at h
  ·rename_i y h4
   cases h;refine ⟨fun F a w ⟨H,r⟩=>⟨H,?_⟩,fun i u z hz => ?_⟩
   ·rw [zhU];exact r.setAV (zyb h4 _ _ _ _ (r.slot k _ (zet h3)))
   ·rw [get_set];by_cases hki:k=i
    ·subst hki;rw [h3] at hz
     cases hz;exact absurd rfl (h2' _ _)
    ·rw [if_neg hki];exact hz
  ·cases h
 ·cases h
def ESt.dat0 (s:ESt) (x:Operand) (t:Ty):ESt:=match x with
 | .tmp k=>match s.datify k t with
  | some s'=>s'
  | none=>s
 | _=>s
theorem zyr (s:ESt) (x:Operand) (t:Ty):Wk s (s.dat0 x t):=by
 unfold ESt.dat0
 split
 ·split
  ·rename_i h;exact zyu h
  ·exact Wk.refl _
 ·exact Wk.refl _
def ESt.boxDat1 (s:ESt) (id j:Nat):ESt:=match s.ent id with
 | some (.box T cs)=>match cs[j]? with
  | some (.own id2)=>match s.ent id2 with
   | some (.arr _ te l)=>bif Nat.beq id2 id then s else (s.put id2 none).put id (some (.box T (cs.set j (.d (.list te) l))))
   | some (.out f _)=>match look s.rws f with
    | some (some r)=>bif !(Nat.beq id2 id) && r.hole.isNone && zjh s id2 [f] [] && Nat.blt f RB then (s.frzS id2 f).put id (some (.box T (cs.set j (.d (.list (.list r.t)) r.l)))) else s
    | _=>s
   | _=>s
  | _=>s
 | _=>s
theorem znb:∀ (l:List EV) (j:Nat) (x:EV),EV.avL (l.set j x)=(EV.avL l).set j x.av
 | [],_,_=>rfl
 | y::l,0,x=>rfl
 | y::l,j+1,x=>by rw [List.set_cons_succ,EV.avL,EV.avL,List.set_cons_succ,znb l j x]
theorem zoJ (s:ESt) (id j:Nat):Wk s (s.boxDat1 id j):=by
 unfold ESt.boxDat1
 split
 ·rename_i T cs h1
  split
  ·rename_i id2 h2
   split
   ·rename_i E te l h3
    cases hb:Nat.beq id2 id with
    | true=>exact Wk.refl _
    | false=>
     refine ⟨fun F a w ⟨H,r⟩=>⟨H,?_⟩,fun _ _ _ hz=>hz⟩
     have:=r.boxfreeze (zaW h1) (j:=j) (id2:=id2) (by rw [zqK,h2];rfl) (zaW h3) hb
     show RelH F (((s.put id2 none).put id (some (.box T (cs.set j (.d (.list te) l)))))).st H a w;rw [zgP,zgP];simp only [Option.map_some,Option.map_none,EEnt.ent,znb];exact this
   ·rename_i f E h3
    split
    ·rename_i r h4
     cases hb : !(Nat.beq id2 id) && r.hole.isNone && zjh s id2 [f] [] && Nat.blt f RB with
     | false=>exact Wk.refl _
     | true=>
      simp only [Bool.and_eq_true,Bool.not_eq_true'] at hb;obtain ⟨⟨⟨g1,g2⟩,g3⟩,g4⟩:=hb;have hne:id2≠id:=Nat.ne_of_beq_eq_false g1;refine ⟨fun F a w ⟨H,rl⟩=>⟨H,?_⟩,fun _ _ _ hz=>hz⟩
      rw [zzB g2] at h4;obtain ⟨k1,v,k2,k3⟩:=zwI g3 (by simpa using g4) h3 h4 rl
      have he:(s.frzS id2 f).ent id=some (.box T cs):=by
       have:(s.frzS id2 f).heap=(id2,none)::s.heap:=rfl;unfold ESt.ent at h1 ⊢;rw [this,zaf,if_neg hne];exact h1
      have:=k1.boxset (zaW he) (j:=j) (id2:=id2) (by rw [zqK,h2];rfl) k2 k3
      rw [cond_true,zgP];simp only [Option.map_some,EEnt.ent,znb];exact this
    ·exact Wk.refl _
   ·exact Wk.refl _
  ·exact Wk.refl _
 ·exact Wk.refl _
def ESt.boxDat (s:ESt) (id:Nat):Nat->Nat->ESt
 | _,0=>s
 | k,n+1=>ESt.boxDat (s.boxDat1 id k) id (k+1) n
theorem ziX (id:Nat):∀ (n:Nat) (s:ESt) (k:Nat),Wk s (s.boxDat id k n)
 | 0,s,k=>Wk.refl s
 | n+1,s,k=>(zoJ s id k).trans (ziX id n _ (k+1))
def zuG (id:Nat):Option EV->Bool
 | some (.ptr i 0)=>Nat.beq i id
 | _=>false
theorem zre {id:Nat} {x:Option EV} (h:zuG id x=true):x=some (.ptr id 0):=by
 unfold zuG at h
 split at h
 ·rw [Nat.eq_of_beq_eq_true h]
 ·cases h
def ESt.holdersP (s:ESt) (id:Nat):List Nat:=((s.slots.filter fun p=>zuG id (some p.2)).map (·.1)).filter fun k=>zuG id (s.get k)
theorem zrc (s:ESt) (id:Nat):∀ (ks:List Nat),(∀ k∈ks,zuG id (s.get k)=true)->zoh s.st id ks=true
 | [],_=>rfl
 | k::ks,h=>by
  have h1:=zre (h k (by simp))
  rw [zoh,zet h1,zrc s id ks (fun k hk=>h k (by simp [hk]))]
  simp [EV.av]
theorem zsQ (σ:St) (i:Nat) (e:Option Ent) (id:Nat):∀ ks:List Nat,zoh (σ.put i e) id ks=zoh σ id ks
 | []=>rfl
 | k::ks=>by rw [zoh,zoh,zsQ σ i e id ks];rfl
def ESt.treeify2 (s:ESt) (id:Nat) (u:Ty):ESt:=match s.ent id with
 | some (.box T cs)=>match zo6 (zgM u) cs with
  | some (x,[])=>bif u.chain then ((((s.put id (some (.box T (zpy (zgM u) x)))).put id none).setAll (s.holdersP id) (.addr (zgM u) x)).setAll (s.holdersP id) (.d (.tree u) (mkTr u x))) else s
  | _=>s
 | _=>s
def ESt.treeify (s:ESt) (k:Nat) (u:Ty):ESt:=match s.get k with
 | some (.ptr id 0)=>match s.ent id with
  | some (.box _ cs)=>(s.boxDat id 0 cs.length).treeify2 id u
  | _=>s
 | _=>s
theorem zwp (s:ESt) (id:Nat) (u:Ty):Wk s (s.treeify2 id u):=by
 unfold ESt.treeify2
 split
 ·rename_i T cs he
  split
  ·rename_i x hx
   cases hb:u.chain with
   | false=>exact Wk.refl s
   | true=>
    simp only [cond_true];have hks:∀ k∈s.holdersP id,s.get k=some (.ptr id 0):=fun k hk=>zre (List.mem_filter.1 hk).2
    refine ⟨fun F a w ⟨H,r⟩=>⟨H,?_⟩,fun i t z hz => ?_⟩
    ·obtain ⟨l1,h1,h2⟩:=zeu hx;rw [List.append_nil] at h1;subst h1;have r1:=r.boxpack (zaW he) h2;have r2:=r1.freezeB (id:=id) (T:=T) (x := .agg (encD (zgM u) x).cells) (s.holdersP id) (by
      have:=zrc s id (s.holdersP id) (fun k hk=>(List.mem_filter.1 hk).2)
      rw [zsQ];exact this) (by rw [St.ent_put,if_pos rfl];rfl)
     have e:((((s.put id (some (.box T (zpy (zgM u) x)))).put id none).setAll (s.holdersP id) (.addr (zgM u) x)).st)=(((s.st.put id (some (.box T ((encD (zgM u) x).cells.map .d)))).put id none).setAll (s.holdersP id) (.addr (.agg (encD (zgM u) x).cells))):=by
      rw [zl8,zgP,zgP];simp only [Option.map_some,Option.map_none,EEnt.ent,zlf,EV.av];rw [<- zc9 (zrt hb) x]
     rw [zl8,e];refine zhT _ _ _ r2 fun k hk => ?_
     have hg:(((s.st.put id (some (.box T ((encD (zgM u) x).cells.map .d)))).put id none).setAll (s.holdersP id) (.addr (.agg (encD (zgM u) x).cells))).get k=some (.addr (.agg (encD (zgM u) x).cells)):=by
      rw [<- e,zva];have:∀ (ks:List Nat) (s':ESt),k∈ks->(s'.setAll ks (.addr (zgM u) x)).get k=some (.addr (zgM u) x):=by
       intro ks
       induction ks with
       | nil=>intro _ h;cases h
       | cons k' ks ih=>
        intro s' h;show ((s'.set k' (.addr (zgM u) x)).setAll ks (.addr (zgM u) x)).get k=_;by_cases hm:k∈ks
        ·exact ih _ hm
        ·rw [zfV _ _ _ _ hm,get_set];rcases List.mem_cons.1 h with rfl | h
         ·rw [if_pos rfl]
         ·exact absurd h hm
      rw [this _ _ hk];show some (AV.addr (encD (zgM u) x))=_;rw [zc9 (zrt hb) x];rfl
     have hv:=r2.slot k _ hg;show VRel w _ H (.d (encD (.tree u) (mkTr u x))) _;rw [zAq hb];generalize a.tmps.getD k undef=v at hv
     cases hv with
     | addr _ b off f h1 h2 h3=>exact .d _ _ (.ptr _ b off f h1 h2 h3)
    ·have hni:i∉s.holdersP id:=fun hi=>by have:=hks i hi;rw [hz] at this;cases this
     rw [zfV _ _ _ _ hni,zfV _ _ _ _ hni];exact hz
  ·exact Wk.refl s
 ·exact Wk.refl s
theorem zxY (s:ESt) (k:Nat) (u:Ty):Wk s (s.treeify k u):=by
 unfold ESt.treeify
 split
 ·split
  ·exact (ziX _ _ s 0).trans (zwp _ _ _)
  ·exact Wk.refl s
 ·exact Wk.refl s
def ESt.dat (s:ESt) (x:Operand) (t:Ty):ESt:=match t,x with
 | .tree u,.tmp k=>(s.treeify k u).dat0 (.tmp k) (.tree u)
 | _,_=>s.dat0 x t
theorem zi6 (s:ESt) (x:Operand) (t:Ty):Wk s (s.dat x t):=by
 unfold ESt.dat
 split
 ·exact (zxY s _ _).trans (zyr _ _ _)
 ·exact zyr s x t
def EV.cellsOf:EV->Option (List EV)
 | .any=>none
 | .undef=>none
 | .tup _=>none
 | .raw _=>none
 | .d t x=>some (zpy t x)
 | .agg l=>some l
 | x=>some [x]
theorem zh9 {x:EV} {l:List EV} (h:x.cellsOf=some l):zay x.av=EV.avL l/\x.av.isAny=false:=by
 cases x<;>simp only [EV.cellsOf,Option.some.injEq,reduceCtorEq] at h<;>subst h
 case d t x=>exact ⟨(zlf t x).symm,rfl⟩
 case lit v=>exact ⟨rfl,rfl⟩
 all_goals exact ⟨rfl,rfl⟩
def EV.oneB:EV->Bool
 | .any=>false
 | .undef=>false
 | .tup _=>false
 | .raw _=>false
 | .agg _=>false
 | .d t _ => !t.agg
 | _=>true
theorem zzo {x:EV} (h:x.oneB=true):x.av.one=true:=by
 cases x with
 | d t x=>
  have ht:t.agg=false:=by simpa [EV.oneB] using h
  show (encD t x).one=true
  cases t<;>first | rfl | exact zqs _ x | (simp [Ty.agg] at ht)
 | lit v=>rfl
 | _=>first | rfl | (simp [EV.oneB] at h)
theorem zqI:∀ {l:List EV},l.all EV.oneB=true->(EV.avL l).all AV.one=true
 | [],_=>rfl
 | x::l,h=>by
  simp only [List.all_cons,Bool.and_eq_true] at h;rw [EV.avL,List.all_cons,zzo h.1,zqI h.2];rfl
def zu9 (l:List EV) (k:Nat) (ys:List EV):List EV:=l.take k++ys++l.drop (k+ys.length)
theorem zt0 (l:List EV) (k:Nat) (ys:List EV):EV.avL (zu9 l k ys)=zcR (EV.avL l) k (EV.avL ys):=by
 unfold zu9 zcR;simp only [zeG,List.map_append,List.map_take,List.map_drop,List.length_map]
def zxA (place:Nat->Option (Nat×Nat)):List EV->List (Nat×EV)->Option (List EV)
 | cs,[]=>some cs
 | cs,(i,x)::r=>match place i with
  | none=>none
  | some (off,size)=>match x.cellsOf with
   | none=>none
   | some ys=>bif Nat.beq ys.length size && Nat.ble (off+size) cs.length then zxA place (zu9 cs off ys) r else none
theorem ztw {place:Nat->Option (Nat×Nat)}:∀ {xs:List (Nat×EV)} {cs cs':List EV},zxA place cs xs=some cs'->zqa place (EV.avL cs) (xs.map fun p=>(p.1,p.2.av))=some (EV.avL cs')
 | [],cs,cs',h=>by simp only [zxA,Option.some.injEq] at h;subst h;rfl
 | (i,x)::r,cs,cs',h=>by
  simp only [zxA] at h;rw [List.map_cons,zqa]
  split at h
  ·cases h
  ·rename_i off size hp
   split at h
   ·cases h
   ·rename_i ys hy;obtain ⟨hb,h⟩:=zab h;simp only [Bool.and_eq_true] at hb;obtain ⟨h1,h2⟩:=zh9 hy;simp only [hp,h1,h2,zfR,hb.1,hb.2,Bool.not_false,Bool.and_self,cond_true];rw [<- zt0];exact ztw h
def zqt (s:ESt):List (Nat×Operand)->Option (List (Nat×EV))
 | []=>some []
 | (i,x)::r=>match s.ev x with
  | some v=>match zqt s r with
   | some l=>some ((i,v)::l)
   | none=>none
  | none=>none
theorem zj1 {s:ESt}:∀ {l:List (Nat×Operand)} {xs:List (Nat×EV)},zqt s l=some xs->znj s.st l (xs.map fun p=>(p.1,p.2.av))
 | [],xs,h=>by cases h;rfl
 | (i,x)::r,xs,h=>by
  simp only [zqt] at h
  split at h
  ·rename_i v h1
   split at h
   ·rename_i l h2;cases h;exact ⟨rfl,zan h1,zj1 h2⟩
   ·cases h
  ·cases h
def ztn (s:ESt) (t:Ty):List (Nat×Operand)->Nat->Option (List t.den)
 | [],_=>some []
 | (i,x)::r,k=>bif Nat.beq i k then (match s.ev x with
  | some v=>match v.exact t with
   | some y=>match ztn s t r (k+1) with
    | some l=>some (y::l)
    | none=>none
   | none=>none
  | none=>none) else none
theorem zpD {s:ESt} {t:Ty} (ht:0 < t.sz):∀ {l:List (Nat×Operand)} {k:Nat} {ys:List t.den} (A:List AV),ztn s t l k=some ys->A.length=k * t.sz->
  l.length=ys.length/\∃ xs,znj s.st l xs/\zqa (fun i=>some (i * t.sz,t.sz)) (A++List.replicate (ys.length * t.sz) .any) xs=some (A++(ys.flatMap fun y=>(encD t y).cells).map .d)
 | [],k,ys,A,h,hA=>by
  cases h;exact ⟨rfl,[],rfl,by simp [zqa]⟩
 | (i,x)::r,k,ys,A,h,hA=>by
  simp only [ztn] at h;obtain ⟨hi,h⟩:=zab h;have:=Nat.eq_of_beq_eq_true hi;subst this
  split at h
  ·rename_i v hv
   split at h
   ·rename_i y hy
    split at h
    ·rename_i l hl
     cases h;have hvd:=zdP hy;subst hvd;have hcl:(zay (.d (encD t y))).length=t.sz:=by simp [zay,avs,zaF]
     obtain ⟨h1,xs,h2,h3⟩:=zpD ht (A++(encD t y).cells.map .d) hl (by rw [List.length_append,List.length_map,zaF,hA,Nat.add_mul];omega)
     refine ⟨by simp [h1],(i,.d (encD t y))::xs,⟨rfl,zan hv,h2⟩,?_⟩
     rw [zqa];simp only [hcl];have hb:(Nat.beq t.sz t.sz && Nat.ble (i * t.sz+t.sz) (A++List.replicate ((y::l).length * t.sz) AV.any).length && !(AV.d (encD t y)).isAny)=true:=by
      simp only [List.length_append,List.length_replicate,hA,List.length_cons,AV.isAny,Bool.not_false,Bool.and_true];have:i * t.sz+t.sz<=i * t.sz+(l.length+1) * t.sz:=by rw [Nat.add_mul];omega
      simp [this]
     rw [hb];simp only [cond_true];have hset:zcR (A++List.replicate ((y::l).length * t.sz) AV.any) (i * t.sz) (zay (.d (encD t y)))=(A++(encD t y).cells.map .d)++List.replicate (l.length * t.sz) .any:=by
      unfold zcR;rw [hcl,<- hA,List.take_left,List.drop_append,List.drop_of_length_le (by omega),List.nil_append,List.drop_replicate]
      congr 2
      simp only [List.length_cons,Nat.add_mul];omega
     rw [hset,h3];simp [List.append_assoc]
    ·cases h
   ·cases h
  ·cases h
end
end Go.Ab
