import Derived.Test.YtmogekkikaelhaaEv40n27
set_option linter.unusedVariables false
set_option linter.unusedSimpArgs false
namespace Go.Ab
noncomputable section
open Enc (enc)
structure Wk (s s':ESt):Prop where
 rel:∀ (F:Fr) (a:Act) (w:World),Rel F s.st a w->Rel F s'.st a w
 kd:∀ (k:Nat) (t:Ty) (x:t.den),s.get k=some (.d t x)->s'.get k=some (.d t x)
theorem Wk.refl (s:ESt):Wk s s:=⟨fun _ _ _ h=>h,fun _ _ _ h=>h⟩
theorem Wk.trans {a b c:ESt} (h:Wk a b) (k:Wk b c):Wk a c:=⟨fun F x w r=>k.rel F x w (h.rel F x w r),fun i t x hx=>k.kd i t x (h.kd i t x hx)⟩
theorem get_set (s:ESt) (k j:Nat) (x:EV):(s.set k x).get j=if k=j then some x else s.get j:=zae _ _ _ _
def ESt.setAll (s:ESt) (ks:List Nat) (x:EV):ESt:=ks.foldl (fun s k=>s.set k x) s
theorem zg3 (x:EV):∀ (ks:List Nat) (s:ESt),(s.setAll ks x).st=s.st.setAll ks x.av
 | [],_=>rfl
 | k::ks,s=>by
  show ((s.set k x).setAll ks x).st=(s.st.set k x.av).setAll ks x.av;rw [zg3 x ks];rfl
def zrF (id:Nat):Option EV->Bool
 | some (.own i)=>Nat.beq i id
 | _=>false
theorem zfk {id:Nat} {x:Option EV} (h:zrF id x=true):x=some (.own id):=by
 unfold zrF at h;split at h
 ·rw [Nat.eq_of_beq_eq_true h]
 ·cases h
def ESt.owners (s:ESt) (id:Nat):List Nat:=((s.slots.filter fun p=>zrF id (some p.2)).map (·.1)).filter fun k=>zrF id (s.get k)
theorem zn5 (s:ESt) (id:Nat):∀ (ks:List Nat),(∀ k∈ks,zrF id (s.get k)=true)->zjQ s.st id ks=true
 | [],_=>rfl
 | k::ks,h=>by
  have h1:=zfk (h k (by simp));rw [zjQ,zbY h1,zn5 s id ks (fun k hk=>h k (by simp [hk]))];simp [EV.av]
def zpF (id:Nat):Option EV->Bool
 | some (.view i _ _ _)=>Nat.beq i id
 | _=>false
theorem zlc {id:Nat} {x:Option EV} (h:zpF id x=true):∃ t i n,x=some (.view id t i n):=by
 unfold zpF at h;split at h
 ·rename_i i t a n;rw [Nat.eq_of_beq_eq_true h];exact ⟨t,a,n,rfl⟩
 ·cases h
def ESt.viewers (s:ESt) (id:Nat):List Nat:=((s.slots.filter fun p=>zpF id (some p.2)).map (·.1)).filter fun k=>zpF id (s.get k)
def ESt.setViews (te:Ty) (l:List te.den):List Nat->ESt->ESt
 | [],s=>s
 | k::ks,s=>match s.get k with
  | some (.view _ t i n)=>bif Ty.beq t te then ESt.setViews te l ks (s.set k (.d (.list te) ((l.drop i).take n))) else ESt.setViews te l ks s
  | _=>ESt.setViews te l ks s
def ESt.freezeArr (s:ESt) (id:Nat) (te:Ty) (l:List te.den):ESt:=
 ESt.setViews te l (s.viewers id) ((s.put id none).setAll (s.owners id) (.d (.list te) l))
def ESt.datify (s:ESt) (k:Nat) (t:Ty):Option ESt:=match s.get k with
 | some (.own id)=>match s.ent id with
  | some (.arr _ te l)=>bif Ty.beq (.list te) t then some (s.freezeArr id te l) else none
  | some (.out f _)=>match look s.rws f with
   | some (some r)=>bif Ty.beq (.list (.list r.t)) t && r.hole.isNone && zdC s id [f] [] && Nat.blt f RB then some ((s.frzS id f).setAll (s.owners id) (.d (.list (.list r.t)) r.l)) else none
   | _=>none
  | _=>none
 | some (.view id _ _ _)=>match s.ent id with
  | some (.arr _ te l)=>bif Ty.beq (.list te) t then some (s.freezeArr id te l) else none
  | _=>none
 | some (.d t' _)=>bif Ty.beq t' t then some s else none
 | some x=>match x.as t with
  | some y=>some (s.set k (.d t y))
  | none=>none
 | none=>none
theorem zdb (x:EV):∀ (ks:List Nat) (s:ESt) (k:Nat),k∉ks->(s.setAll ks x).get k=s.get k
 | [],_,_,_=>rfl
 | k'::ks,s,k,h=>by
  show ((s.set k' x).setAll ks x).get k=_;rw [zdb x ks _ k (fun hk=>h (by simp [hk])),get_set,if_neg (fun e=>h (by simp [e]))]
theorem zfX (te:Ty) (l:List te.den):∀ (ks:List Nat) (s:ESt) (i:Nat) (u:Ty) (z:u.den),s.get i=some (.d u z)->(ESt.setViews te l ks s).get i=some (.d u z)
 | [],_,_,_,_,h=>h
 | k::ks,s,i,u,z,h=>by
  simp only [ESt.setViews];split
  ·rename_i id t a n hk;cases Ty.beq t te with
   | true=>
    refine zfX te l ks _ i u z ?_;rw [get_set];by_cases e:k=i
    ·subst e;rw [hk] at h;cases h
    ·rw [if_neg e];exact h
   | false=>exact zfX te l ks _ i u z h
  ·exact zfX te l ks _ i u z h
theorem zeQ {F:Fr} {H:Hd} {a:Act} {w:World} (te:Ty) (l:List te.den) (id:Nat) (v:Value) (hH:H id=some v) (ent:Nat->Option Ent) (hd:DRel w (Sh F.X ent H w) (encD (.list te) l) v):
  ∀ (ks:List Nat) (s:ESt),s.st.ent=ent->(∀ k∈ks,∀ i t a n,s.get k=some (.view i t a n)->i=id)->RelH F s.st H a w->RelH F (ESt.setViews te l ks s).st H a w
 | [],s,_,_,r=>r
 | k::ks,s,he,hv,r=>by
  simp only [ESt.setViews];split
  ·rename_i i t q n hk;have hi:=hv k (by simp) i t q n hk;subst hi;cases hb:Ty.beq t te with
   | true=>
    have:=Ty.eq_of_beq hb;subst this;refine zeQ t l i v hH ent hd ks _ (by rw [<- he];rfl) (fun k' hk' i' t' a' n' h => ?_) ?_
    ·rw [get_set] at h;by_cases e:k=k'
     ·rw [if_pos e] at h;cases h
     ·rw [if_neg e] at h;exact hv k' (by simp [hk']) i' t' a' n' h
    ·rw [zcY];refine r.setAV ?_;rw [he];show VRel w _ H (.d (encD (.list t) ((l.drop q).take n))) _;have:=r.viewDat hH hd (zbY hk) (fun d hd=>by
      obtain ⟨x,_,rfl⟩:=List.mem_map.1 hd;exact zau t x)
     rw [<- List.map_drop,<- List.map_take] at this;exact .d _ _ this
   | false=>exact zeQ te l i v hH ent hd ks s he (fun k' hk'=>hv k' (by simp [hk'])) r
  ·exact zeQ te l id v hH ent hd ks s he (fun k' hk'=>hv k' (by simp [hk'])) r
theorem zml (x:EV):∀ (ks:List Nat) (s:ESt),(s.setAll ks x).st.ent=s.st.ent
 | [],_=>rfl
 | k::ks,s=>by
  show ((s.set k x).setAll ks x).st.ent=_;rw [zml x ks];rfl
theorem zjO {s:ESt} {id E:Nat} {te:Ty} {l:List te.den} (h2:s.ent id=some (.arr E te l)):Wk s (s.freezeArr id te l):=by
 refine ⟨fun F a w ⟨H,r⟩=>⟨H,?_⟩,fun i u z hz => ?_⟩
 ·have r1:=r.freezeA (s.owners id) (zn5 s id _ (fun k hk=>(List.mem_filter.1 hk).2)) (zat h2);obtain ⟨v,hH,hd⟩:=r.frozen (zat h2);unfold ESt.freezeArr;refine zeQ te l id v hH (s.st.put id none).ent hd _ _ ?_ (fun k hk i t a n h => ?_) ?_
  ·rw [zml,zcp];rfl
  ·by_cases hm:k∈s.owners id
   ·exfalso;have e1:=zfk (List.mem_filter.1 hm).2;obtain ⟨t',a',n',e2⟩:=zlc (List.mem_filter.1 hk).2;rw [e1] at e2;cases e2
   ·rw [zdb _ _ _ _ hm] at h;have h:s.get k=some (.view i t a n):=h;obtain ⟨t',a',n',e2⟩:=zlc (List.mem_filter.1 hk).2;rw [h] at e2;cases e2;rfl
  ·rw [zg3];exact r1
 ·unfold ESt.freezeArr;refine zfX te l _ _ i u z ?_;rw [zdb _ _ _ _ (fun hi => ?_)]
  ·exact hz
  ·have:=zfk (List.mem_filter.1 hi).2;rw [hz] at this;cases this
theorem zr8 {r:RW} (h:r.hole.isNone=true):r=⟨r.E,r.t,r.l,none⟩:=by
 obtain ⟨E,t,l,hole⟩:=r;cases hole with
 | none=>rfl
 | some x=>cases h
theorem ztN {s:ESt} {id f E:Nat} {r:RW} (h2:s.ent id=some (.out f E)) (h3:look s.rws f=some (some r)) (hb:r.hole.isNone=true) (hok:zdC s id [f] []=true) (hf:Nat.blt f RB=true):
  Wk s ((s.frzS id f).setAll (s.owners id) (.d (.list (.list r.t)) r.l)):=by
 refine ⟨fun F a w ⟨H,rl⟩=>⟨H,?_⟩,fun i u z hz => ?_⟩
 ·rw [zr8 hb] at h3;obtain ⟨h4,v,h5,h6⟩:=zpC hok (by simpa using hf) h2 h3 rl;rw [zg3];refine zen _ _ _ h4 fun k hk => ?_
  have e1:=zfk (List.mem_filter.1 hk).2;have hv:=rl.slot k _ (zbY e1);generalize a.tmps.getD k undef=u at hv;cases hv with
  | own _ _ h _=>rw [h5] at h;cases h;exact .d _ _ h6
 ·rw [zdb _ _ _ _ (fun hi => ?_)]
  ·exact hz
  ·have:=zfk (List.mem_filter.1 hi).2;rw [hz] at this;cases this
theorem zq0 {s s':ESt} {k:Nat} {t:Ty} (h:s.datify k t=some s'):Wk s s':=by
 unfold ESt.datify at h;split at h
 ·rename_i id h1;split at h
  ·rename_i E te l h2;have:=(zaa h).2;cases this;exact zjO h2
  ·rename_i f E h2;split at h
   ·rename_i r h3;obtain ⟨hb,h⟩:=zaa h;cases h;simp only [Bool.and_eq_true] at hb;exact ztN h2 h3 hb.1.1.2 hb.1.2 hb.2
   ·cases h
  ·cases h
 ·rename_i id _ _ _ h1;split at h
  ·rename_i E te l h2;have:=(zaa h).2;cases this;exact zjO h2
  ·cases h
 ·have:=(zaa h).2;cases this;exact Wk.refl _
 ·rename_i x h1 h2 h2' h3;split at h
  ·rename_i y h4;cases h;refine ⟨fun F a w ⟨H,r⟩=>⟨H,?_⟩,fun i u z hz => ?_⟩
   ·rw [zcY];exact r.setAV (zqN h4 _ _ _ _ (r.slot k _ (zbY h3)))
   ·rw [get_set];by_cases hki:k=i
    ·subst hki;rw [h3] at hz;cases hz;exact absurd rfl (h2' _ _)
    ·rw [if_neg hki];exact hz
  ·cases h
 ·cases h
def ESt.dat0 (s:ESt) (x:Operand) (t:Ty):ESt:=match x with
 | .tmp k=>match s.datify k t with
  | some s'=>s'
  | none=>s
 | _=>s
theorem zqX (s:ESt) (x:Operand) (t:Ty):Wk s (s.dat0 x t):=by
 unfold ESt.dat0;split
 ·split
  ·rename_i h;exact zq0 h
  ·exact Wk.refl _
 ·exact Wk.refl _
def ESt.boxDat1 (s:ESt) (id j:Nat):ESt:=match s.ent id with
 | some (.box T cs)=>match cs[j]? with
  | some (.own id2)=>match s.ent id2 with
   | some (.arr _ te l)=>bif Nat.beq id2 id then s else (s.put id2 none).put id (some (.box T (cs.set j (.d (.list te) l))))
   | some (.out f _)=>match look s.rws f with
    | some (some r)=>bif !(Nat.beq id2 id) && r.hole.isNone && zdC s id2 [f] [] && Nat.blt f RB then (s.frzS id2 f).put id (some (.box T (cs.set j (.d (.list (.list r.t)) r.l)))) else s
    | _=>s
   | _=>s
  | _=>s
 | _=>s
theorem zhZ:∀ (l:List EV) (j:Nat) (x:EV),EV.avL (l.set j x)=(EV.avL l).set j x.av
 | [],_,_=>rfl
 | y::l,0,x=>rfl
 | y::l,j+1,x=>by rw [List.set_cons_succ,EV.avL,EV.avL,List.set_cons_succ,zhZ l j x]
theorem zje (s:ESt) (id j:Nat):Wk s (s.boxDat1 id j):=by
 unfold ESt.boxDat1;split
 ·rename_i T cs h1;split
  ·rename_i id2 h2;split
   ·rename_i E te l h3;cases hb:Nat.beq id2 id with
    | true=>exact Wk.refl _
    | false=>
     refine ⟨fun F a w ⟨H,r⟩=>⟨H,?_⟩,fun _ _ _ hz=>hz⟩;have:=r.boxfreeze (zat h1) (j:=j) (id2:=id2) (by rw [zkJ,h2];rfl) (zat h3) hb;show RelH F (((s.put id2 none).put id (some (.box T (cs.set j (.d (.list te) l)))))).st H a w;rw [zcp,zcp];simp only [Option.map_some,Option.map_none,EEnt.ent,zhZ];exact this
   ·rename_i f E h3;split
    ·rename_i r h4;cases hb : !(Nat.beq id2 id) && r.hole.isNone && zdC s id2 [f] [] && Nat.blt f RB with
     | false=>exact Wk.refl _
     | true=>
      simp only [Bool.and_eq_true,Bool.not_eq_true'] at hb;obtain ⟨⟨⟨g1,g2⟩,g3⟩,g4⟩:=hb;have hne:id2≠id:=Nat.ne_of_beq_eq_false g1;refine ⟨fun F a w ⟨H,rl⟩=>⟨H,?_⟩,fun _ _ _ hz=>hz⟩;rw [zr8 g2] at h4;obtain ⟨k1,v,k2,k3⟩:=zpC g3 (by simpa using g4) h3 h4 rl;have he:(s.frzS id2 f).ent id=some (.box T cs):=by
       have:(s.frzS id2 f).heap=(id2,none)::s.heap:=rfl;unfold ESt.ent at h1 ⊢;rw [this,zae,if_neg hne];exact h1
      have:=k1.boxset (zat he) (j:=j) (id2:=id2) (by rw [zkJ,h2];rfl) k2 k3;rw [cond_true,zcp];simp only [Option.map_some,EEnt.ent,zhZ];exact this
    ·exact Wk.refl _
   ·exact Wk.refl _
  ·exact Wk.refl _
 ·exact Wk.refl _
def ESt.boxDat (s:ESt) (id:Nat):Nat->Nat->ESt
 | _,0=>s
 | k,n+1=>ESt.boxDat (s.boxDat1 id k) id (k+1) n
theorem ze5 (id:Nat):∀ (n:Nat) (s:ESt) (k:Nat),Wk s (s.boxDat id k n)
 | 0,s,k=>Wk.refl s
 | n+1,s,k=>(zje s id k).trans (ze5 id n _ (k+1))
def znS (id:Nat):Option EV->Bool
 | some (.ptr i 0)=>Nat.beq i id
 | _=>false
theorem zlb {id:Nat} {x:Option EV} (h:znS id x=true):x=some (.ptr id 0):=by
 unfold znS at h;split at h
 ·rw [Nat.eq_of_beq_eq_true h]
 ·cases h
def ESt.holdersP (s:ESt) (id:Nat):List Nat:=((s.slots.filter fun p=>znS id (some p.2)).map (·.1)).filter fun k=>znS id (s.get k)
theorem zla (s:ESt) (id:Nat):∀ (ks:List Nat),(∀ k∈ks,znS id (s.get k)=true)->zgW s.st id ks=true
 | [],_=>rfl
 | k::ks,h=>by
  have h1:=zlb (h k (by simp));rw [zgW,zbY h1,zla s id ks (fun k hk=>h k (by simp [hk]))];simp [EV.av]
theorem zmf (σ:St) (i:Nat) (e:Option Ent) (id:Nat):∀ ks:List Nat,zgW (σ.put i e) id ks=zgW σ id ks
 | []=>rfl
 | k::ks=>by rw [zgW,zgW,zmf σ i e id ks];rfl
def ESt.treeify2 (s:ESt) (id:Nat) (u:Ty):ESt:=match s.ent id with
 | some (.box T cs)=>match zjs (zdE u) cs with
  | some (x,[])=>bif u.chain then ((((s.put id (some (.box T (zjH (zdE u) x)))).put id none).setAll (s.holdersP id) (.addr (zdE u) x)).setAll (s.holdersP id) (.d (.tree u) (mkTr u x))) else s
  | _=>s
 | _=>s
def ESt.treeify (s:ESt) (k:Nat) (u:Ty):ESt:=match s.get k with
 | some (.ptr id 0)=>match s.ent id with
  | some (.box _ cs)=>(s.boxDat id 0 cs.length).treeify2 id u
  | _=>s
 | _=>s
theorem zpi (s:ESt) (id:Nat) (u:Ty):Wk s (s.treeify2 id u):=by
 unfold ESt.treeify2;split
 ·rename_i T cs he;split
  ·rename_i x hx;cases hb:u.chain with
   | false=>exact Wk.refl s
   | true=>
    simp only [cond_true];have hks:∀ k∈s.holdersP id,s.get k=some (.ptr id 0):=fun k hk=>zlb (List.mem_filter.1 hk).2
    refine ⟨fun F a w ⟨H,r⟩=>⟨H,?_⟩,fun i t z hz => ?_⟩
    ·obtain ⟨l1,h1,h2⟩:=zcI hx;rw [List.append_nil] at h1;subst h1;have r1:=r.boxpack (zat he) h2;have r2:=r1.freezeB (id:=id) (T:=T) (x := .agg (encD (zdE u) x).cells) (s.holdersP id) (by
      have:=zla s id (s.holdersP id) (fun k hk=>(List.mem_filter.1 hk).2);rw [zmf];exact this) (by rw [St.ent_put,if_pos rfl];rfl)
     have e:((((s.put id (some (.box T (zjH (zdE u) x)))).put id none).setAll (s.holdersP id) (.addr (zdE u) x)).st)=(((s.st.put id (some (.box T ((encD (zdE u) x).cells.map .d)))).put id none).setAll (s.holdersP id) (.addr (.agg (encD (zdE u) x).cells))):=by
      rw [zg3,zcp,zcp];simp only [Option.map_some,Option.map_none,EEnt.ent,zgp,EV.av];rw [<- zbz (zll hb) x]
     rw [zg3,e];refine zen _ _ _ r2 fun k hk => ?_
     have hg:(((s.st.put id (some (.box T ((encD (zdE u) x).cells.map .d)))).put id none).setAll (s.holdersP id) (.addr (.agg (encD (zdE u) x).cells))).get k=some (.addr (.agg (encD (zdE u) x).cells)):=by
      rw [<- e,zg6];have:∀ (ks:List Nat) (s':ESt),k∈ks->(s'.setAll ks (.addr (zdE u) x)).get k=some (.addr (zdE u) x):=by
       intro ks;induction ks with
       | nil=>intro _ h;cases h
       | cons k' ks ih=>
        intro s' h;show ((s'.set k' (.addr (zdE u) x)).setAll ks (.addr (zdE u) x)).get k=_;by_cases hm:k∈ks
        ·exact ih _ hm
        ·rw [zdb _ _ _ _ hm,get_set];rcases List.mem_cons.1 h with rfl | h
         ·rw [if_pos rfl]
         ·exact absurd h hm
      rw [this _ _ hk];show some (AV.addr (encD (zdE u) x))=_;rw [zbz (zll hb) x];rfl
     have hv:=r2.slot k _ hg;show VRel w _ H (.d (encD (.tree u) (mkTr u x))) _;rw [zsL hb];generalize a.tmps.getD k undef=v at hv;cases hv with
     | addr _ b off f h1 h2 h3=>exact .d _ _ (.ptr _ b off f h1 h2 h3)
    ·have hni:i∉s.holdersP id:=fun hi=>by have:=hks i hi;rw [hz] at this;cases this
     rw [zdb _ _ _ _ hni,zdb _ _ _ _ hni];exact hz
  ·exact Wk.refl s
 ·exact Wk.refl s
theorem zqF (s:ESt) (k:Nat) (u:Ty):Wk s (s.treeify k u):=by
 unfold ESt.treeify;split
 ·split
  ·exact (ze5 _ _ s 0).trans (zpi _ _ _)
  ·exact Wk.refl s
 ·exact Wk.refl s
def ESt.dat (s:ESt) (x:Operand) (t:Ty):ESt:=match t,x with
 | .tree u,.tmp k=>(s.treeify k u).dat0 (.tmp k) (.tree u)
 | _,_=>s.dat0 x t
theorem zev (s:ESt) (x:Operand) (t:Ty):Wk s (s.dat x t):=by
 unfold ESt.dat;split
 ·exact (zqF s _ _).trans (zqX _ _ _)
 ·exact zqX s x t
def EV.cellsOf:EV->Option (List EV)
 | .any=>none
 | .undef=>none
 | .tup _=>none
 | .raw _=>none
 | .d t x=>some (zjH t x)
 | .agg l=>some l
 | x=>some [x]
theorem zet {x:EV} {l:List EV} (h:x.cellsOf=some l):zap x.av=EV.avL l/\x.av.isAny=false:=by
 cases x<;>simp only [EV.cellsOf,Option.some.injEq,reduceCtorEq] at h<;>subst h
 case d t x=>exact ⟨(zgp t x).symm,rfl⟩
 case lit v=>exact ⟨rfl,rfl⟩
 all_goals exact ⟨rfl,rfl⟩
def EV.oneB:EV->Bool
 | .any=>false
 | .undef=>false
 | .tup _=>false
 | .raw _=>false
 | .agg _=>false
 | .d t _ => !t.agg
 | _=>true
theorem zrX {x:EV} (h:x.oneB=true):x.av.one=true:=by
 cases x with
 | d t x=>
  have ht:t.agg=false:=by simpa [EV.oneB] using h
  show (encD t x).one=true;cases t<;>first | rfl | exact zkq _ x | (simp [Ty.agg] at ht)
 | lit v=>rfl
 | _=>first | rfl | (simp [EV.oneB] at h)
theorem zkI:∀ {l:List EV},l.all EV.oneB=true->(EV.avL l).all AV.one=true
 | [],_=>rfl
 | x::l,h=>by
  simp only [List.all_cons,Bool.and_eq_true] at h;rw [EV.avL,List.all_cons,zrX h.1,zkI h.2];rfl
def zoe (l:List EV) (k:Nat) (ys:List EV):List EV:=l.take k++ys++l.drop (k+ys.length)
theorem znj (l:List EV) (k:Nat) (ys:List EV):EV.avL (zoe l k ys)=zbG (EV.avL l) k (EV.avL ys):=by
 unfold zoe zbG;simp only [zch,List.map_append,List.map_take,List.map_drop,List.length_map]
def zqj (place:Nat->Option (Nat×Nat)):List EV->List (Nat×EV)->Option (List EV)
 | cs,[]=>some cs
 | cs,(i,x)::r=>match place i with
  | none=>none
  | some (off,size)=>match x.cellsOf with
   | none=>none
   | some ys=>bif Nat.beq ys.length size && Nat.ble (off+size) cs.length then zqj place (zoe cs off ys) r else none
theorem zmT {place:Nat->Option (Nat×Nat)}:∀ {xs:List (Nat×EV)} {cs cs':List EV},zqj place cs xs=some cs'->zj9 place (EV.avL cs) (xs.map fun p=>(p.1,p.2.av))=some (EV.avL cs')
 | [],cs,cs',h=>by simp only [zqj,Option.some.injEq] at h;subst h;rfl
 | (i,x)::r,cs,cs',h=>by
  simp only [zqj] at h;rw [List.map_cons,zj9];split at h
  ·cases h
  ·rename_i off size hp;split at h
   ·cases h
   ·rename_i ys hy;obtain ⟨hb,h⟩:=zaa h;simp only [Bool.and_eq_true] at hb;obtain ⟨h1,h2⟩:=zet hy;simp only [hp,h1,h2,zb2,hb.1,hb.2,Bool.not_false,Bool.and_self,cond_true];rw [<- znj];exact zmT h
def zkr (s:ESt):List (Nat×Operand)->Option (List (Nat×EV))
 | []=>some []
 | (i,x)::r=>match s.ev x with
  | some v=>match zkr s r with
   | some l=>some ((i,v)::l)
   | none=>none
  | none=>none
theorem zfJ {s:ESt}:∀ {l:List (Nat×Operand)} {xs:List (Nat×EV)},zkr s l=some xs->zh3 s.st l (xs.map fun p=>(p.1,p.2.av))
 | [],xs,h=>by cases h;rfl
 | (i,x)::r,xs,h=>by
  simp only [zkr] at h;split at h
  ·rename_i v h1;split at h
   ·rename_i l h2;cases h;exact ⟨rfl,zah h1,zfJ h2⟩
   ·cases h
  ·cases h
def zmJ (s:ESt) (t:Ty):List (Nat×Operand)->Nat->Option (List t.den)
 | [],_=>some []
 | (i,x)::r,k=>bif Nat.beq i k then (match s.ev x with
  | some v=>match v.exact t with
   | some y=>match zmJ s t r (k+1) with
    | some l=>some (y::l)
    | none=>none
   | none=>none
  | none=>none) else none
theorem zjL {s:ESt} {t:Ty} (ht:0 < t.sz):∀ {l:List (Nat×Operand)} {k:Nat} {ys:List t.den} (A:List AV),zmJ s t l k=some ys->A.length=k * t.sz->
  l.length=ys.length/\∃ xs,zh3 s.st l xs/\zj9 (fun i=>some (i * t.sz,t.sz)) (A++List.replicate (ys.length * t.sz) .any) xs=some (A++(ys.flatMap fun y=>(encD t y).cells).map .d)
 | [],k,ys,A,h,hA=>by
  cases h;exact ⟨rfl,[],rfl,by simp [zj9]⟩
 | (i,x)::r,k,ys,A,h,hA=>by
  simp only [zmJ] at h;obtain ⟨hi,h⟩:=zaa h;have:=Nat.eq_of_beq_eq_true hi;subst this;split at h
  ·rename_i v hv;split at h
   ·rename_i y hy;split at h
    ·rename_i l hl;cases h;have hvd:=zbJ hy;subst hvd;have hcl:(zap (.d (encD t y))).length=t.sz:=by simp [zap,avs,zau]
     obtain ⟨h1,xs,h2,h3⟩:=zjL ht (A++(encD t y).cells.map .d) hl (by rw [List.length_append,List.length_map,zau,hA,Nat.add_mul];omega);refine ⟨by simp [h1],(i,.d (encD t y))::xs,⟨rfl,zah hv,h2⟩,?_⟩;rw [zj9];simp only [hcl];have hb:(Nat.beq t.sz t.sz && Nat.ble (i * t.sz+t.sz) (A++List.replicate ((y::l).length * t.sz) AV.any).length && !(AV.d (encD t y)).isAny)=true:=by
      simp only [List.length_append,List.length_replicate,hA,List.length_cons,AV.isAny,Bool.not_false,Bool.and_true];have:i * t.sz+t.sz<=i * t.sz+(l.length+1) * t.sz:=by rw [Nat.add_mul];omega
      simp [this]
     rw [hb];simp only [cond_true];have hset:zbG (A++List.replicate ((y::l).length * t.sz) AV.any) (i * t.sz) (zap (.d (encD t y)))=(A++(encD t y).cells.map .d)++List.replicate (l.length * t.sz) .any:=by
      unfold zbG;rw [hcl,<- hA,List.take_left,List.drop_append,List.drop_of_length_le (by omega),List.nil_append,List.drop_replicate];congr 2;simp only [List.length_cons,Nat.add_mul];omega
     rw [hset,h3];simp [List.append_assoc]
    ·cases h
   ·cases h
  ·cases h
end
end Go.Ab
