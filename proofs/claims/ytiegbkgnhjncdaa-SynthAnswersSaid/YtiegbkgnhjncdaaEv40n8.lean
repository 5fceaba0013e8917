import Derived.Test.YtiegbkgnhjncdaaEv40n27
set_option linter.unusedVariables false
set_option linter.unusedSimpArgs false
namespace Go.Ab
noncomputable section
open Enc (enc)
structure Wk (s s':ESt):Prop where
 rel:∀ (F:Fr) (a:Act) (w:World),Rel F s.st a w->Rel F s'.st a w
 kd:∀ (k:Nat) (t:Ty) (x:t.den),s.get k=some (.d t x)->s'.get k=some (.d t x)
theorem Wk.refl (s:ESt):Wk s s:=⟨fun _ _ _ h=>h,fun _ _ _ h=>h⟩
theorem Wk.trans {a b c:ESt} (h:Wk a b) (k:Wk b c):Wk a c:=⟨fun F x w r=>k.rel F x w (h.rel F x w r),fun i t x d=>k.kd i t x (h.kd i t x d)⟩
theorem get_set (s:ESt) (k j:Nat) (x:EV):(s.set k x).get j=if k=j then some x else s.get j:=zaf _ _ _ _
def ESt.setAll (s:ESt) (ks:List Nat) (x:EV):ESt:=ks.foldl (fun s k=>s.set k x) s
theorem zmn (x:EV):∀ (ks:List Nat) (s:ESt),(s.setAll ks x).st=s.st.setAll ks x.av
 | [],_=>rfl
 | k::ks,s=>by
  show ((s.set k x).setAll ks x).st=(s.st.set k x.av).setAll ks x.av;rw [zmn x ks];rfl
def zz2 (id:Nat):Option EV->Bool
 | some (.own i)=>Nat.beq i id
 | _=>false
theorem zjH {id:Nat} {x:Option EV} (h:zz2 id x=true):x=some (.own id):=by
 unfold zz2 at h;split at h
 ·rw [Nat.eq_of_beq_eq_true h]
 ·cases h
def ESt.owners (s:ESt) (id:Nat):List Nat:=((s.slots.filter fun p=>zz2 id (some p.2)).map (·.1)).filter fun k=>zz2 id (s.get k)
theorem zvK (s:ESt) (id:Nat):∀ (ks:List Nat),(∀ k∈ks,zz2 id (s.get k)=true)->ztA s.st id ks=true
 | [],_=>rfl
 | k::ks,h=>by
  have b:=zjH (h k (by simp));rw [ztA,zes b,zvK s id ks (fun k a=>h k (by simp [a]))];simp [EV.av]
def zxK (id:Nat):Option EV->Bool
 | some (.view i _ _ _)=>Nat.beq i id
 | _=>false
theorem zsb {id:Nat} {x:Option EV} (h:zxK id x=true):∃ t i n,x=some (.view id t i n):=by
 unfold zxK at h;split at h
 ·rename_i i t a n;rw [Nat.eq_of_beq_eq_true h];exact ⟨t,a,n,rfl⟩
 ·cases h
def ESt.viewers (s:ESt) (id:Nat):List Nat:=((s.slots.filter fun p=>zxK id (some p.2)).map (·.1)).filter fun k=>zxK id (s.get k)
def ESt.setViews (a:Ty) (l:List a.den):List Nat->ESt->ESt
 | [],s=>s
 | k::ks,s=>match s.get k with
  | some (.view _ t i n)=>bif Ty.beq t a then ESt.setViews a l ks (s.set k (.d (.list a) ((l.drop i).take n))) else ESt.setViews a l ks s
  | _=>ESt.setViews a l ks s
def ESt.freezeArr (s:ESt) (id:Nat) (a:Ty) (l:List a.den):ESt:=
 ESt.setViews a l (s.viewers id) ((s.put id none).setAll (s.owners id) (.d (.list a) l))
def ESt.datify (s:ESt) (k:Nat) (t:Ty):Option ESt:=match s.get k with
 | some (.own id)=>match s.ent id with
  | some (.arr _ te l)=>bif Ty.beq (.list te) t then some (s.freezeArr id te l) else none
  | some (.out f _)=>match look s.rws f with
   | some (some r)=>bif Ty.beq (.list (.list r.t)) t && r.hole.isNone && zju s id [f] [] && Nat.blt f RB then some ((s.frzS id f).setAll (s.owners id) (.d (.list (.list r.t)) r.l)) else none
   | _=>none
  | _=>none
 | some (.view id _ _ _)=>match s.ent id with
  | some (.arr _ te l)=>bif Ty.beq (.list te) t then some (s.freezeArr id te l) else none
  | _=>none
 | some (.d t' _)=>bif Ty.beq t' t then some s else none
 | some x=>match x.as t with
  | some y=>some (s.set k (.d t y))
  | none=>none
 | none=>none
theorem zf5 (x:EV):∀ (ks:List Nat) (s:ESt) (k:Nat),k∉ks->(s.setAll ks x).get k=s.get k
 | [],_,_,_=>rfl
 | k'::ks,s,k,h=>by
  show ((s.set k' x).setAll ks x).get k=_;rw [zf5 x ks _ k (fun a=>h (by simp [a])),get_set,if_neg (fun e=>h (by simp [e]))]
theorem zkB (b:Ty) (l:List b.den):∀ (ks:List Nat) (s:ESt) (i:Nat) (u:Ty) (z:u.den),s.get i=some (.d u z)->(ESt.setViews b l ks s).get i=some (.d u z)
 | [],_,_,_,_,h=>h
 | k::ks,s,i,u,z,h=>by
  simp only [ESt.setViews];split
  ·rename_i id t a n c;cases Ty.beq t b with
   | true=>
    refine zkB b l ks _ i u z ?_;rw [get_set];by_cases e:k=i
    ·subst e;rw [c] at h;cases h
    ·rw [if_neg e];exact h
   | false=>exact zkB b l ks _ i u z h
  ·exact zkB b l ks _ i u z h
theorem ziE {F:Fr} {H:Hd} {a:Act} {w:World} (c:Ty) (l:List c.den) (id:Nat) (v:Value) (j:H id=some v) (ent:Nat->Option Ent) (f:DRel w (Sh F.X ent H w) (encD (.list c) l) v):
  ∀ (ks:List Nat) (s:ESt),s.st.ent=ent->(∀ k∈ks,∀ i t a n,s.get k=some (.view i t a n)->i=id)->RelH F s.st H a w->RelH F (ESt.setViews c l ks s).st H a w
 | [],s,_,_,r=>r
 | k::ks,s,he,hv,r=>by
  simp only [ESt.setViews];split
  ·rename_i i t q n m;have y:=hv k (by simp) i t q n m;subst y;cases z:Ty.beq t c with
   | true=>
    have:=Ty.eq_of_beq z;subst this;refine ziE t l i v j ent f ks _ (by rw [<- he];rfl) (fun g b o t' p u h => ?_) ?_
    ·rw [get_set] at h;by_cases e:k=g
     ·rw [if_pos e] at h;cases h
     ·rw [if_neg e] at h;exact hv g (by simp [b]) o t' p u h
    ·rw [zh1];refine r.setAV ?_;rw [he];show VRel w _ H (.d (encD (.list t) ((l.drop q).take n))) _;have:=r.viewDat j f (zes m) (fun d f=>by
      obtain ⟨x,_,rfl⟩:=List.mem_map.1 f;exact zaF t x)
     rw [<- List.map_drop,<- List.map_take] at this;exact .d _ _ this
   | false=>exact ziE c l i v j ent f ks s he (fun g b=>hv g (by simp [b])) r
  ·exact ziE c l id v j ent f ks s he (fun g b=>hv g (by simp [b])) r
theorem ztK (x:EV):∀ (ks:List Nat) (s:ESt),(s.setAll ks x).st.ent=s.st.ent
 | [],_=>rfl
 | k::ks,s=>by
  show ((s.set k x).setAll ks x).st.ent=_;rw [ztK x ks];rfl
theorem zqu {s:ESt} {id E:Nat} {b:Ty} {l:List b.den} (e:s.ent id=some (.arr E b l)):Wk s (s.freezeArr id b l):=by
 refine ⟨fun F a w ⟨H,r⟩=>⟨H,?_⟩,fun i u z f => ?_⟩
 ·have r1:=r.freezeA (s.owners id) (zvK s id _ (fun k d=>(List.mem_filter.1 d).2)) (zaN e);obtain ⟨v,o,p⟩:=r.frozen (zaN e);unfold ESt.freezeArr;refine ziE b l id v o (s.st.put id none).ent p _ _ ?_ (fun k d i t a n h => ?_) ?_
  ·rw [ztK,zgB];rfl
  ·by_cases g:k∈s.owners id
   ·exfalso;have m:=zjH (List.mem_filter.1 g).2;obtain ⟨t',q,x,c⟩:=zsb (List.mem_filter.1 d).2;rw [m] at c;cases c
   ·rw [zf5 _ _ _ _ g] at h;have h:s.get k=some (.view i t a n):=h;obtain ⟨t',q,x,c⟩:=zsb (List.mem_filter.1 d).2;rw [h] at c;cases c;rfl
  ·rw [zmn];exact r1
 ·unfold ESt.freezeArr;refine zkB b l _ _ i u z ?_;rw [zf5 _ _ _ _ (fun j => ?_)]
  ·exact f
  ·have:=zjH (List.mem_filter.1 j).2;rw [f] at this;cases this
theorem zAB {r:RW} (h:r.hole.isNone=true):r=⟨r.E,r.t,r.l,none⟩:=by
 obtain ⟨E,t,l,a⟩:=r;cases a with
 | none=>rfl
 | some x=>cases h
theorem zC3 {s:ESt} {id f E:Nat} {r:RW} (g:s.ent id=some (.out f E)) (c:look s.rws f=some (some r)) (j:r.hole.isNone=true) (b:zju s id [f] []=true) (l:Nat.blt f RB=true):
  Wk s ((s.frzS id f).setAll (s.owners id) (.d (.list (.list r.t)) r.l)):=by
 refine ⟨fun F a w ⟨H,rl⟩=>⟨H,?_⟩,fun i u z d => ?_⟩
 ·rw [zAB j] at c;obtain ⟨p,v,q,t⟩:=zxF b (by simpa using l) g c rl;rw [zmn];refine zh0 _ _ _ p fun k m => ?_
  have o:=zjH (List.mem_filter.1 m).2;have e:=rl.slot k _ (zes o);generalize a.tmps.getD k undef=u at e;cases e with
  | own _ _ h _=>rw [q] at h;cases h;exact .d _ _ t
 ·rw [zf5 _ _ _ _ (fun n => ?_)]
  ·exact d
  ·have:=zjH (List.mem_filter.1 n).2;rw [d] at this;cases this
theorem zzw {s m:ESt} {k:Nat} {t:Ty} (h:s.datify k t=some m):Wk s m:=by
 unfold ESt.datify at h;split at h
 ·rename_i id n;split at h
  ·rename_i E o l b;have:=(zac h).2;cases this;exact zqu b
  ·rename_i f E b;split at h
   ·rename_i r d;obtain ⟨e,h⟩:=zac h;cases h;simp only [Bool.and_eq_true] at e;exact zC3 b d e.1.1.2 e.1.2 e.2
   ·cases h
  ·cases h
 ·rename_i id _ _ _ n;split at h
  ·rename_i E o l b;have:=(zac h).2;cases this;exact zqu b
  ·cases h
 ·have:=(zac h).2;cases this;exact Wk.refl _
 ·rename_i x n b j d;split at h
  ·rename_i y p;cases h;refine ⟨fun F a w ⟨H,r⟩=>⟨H,?_⟩,fun i u z g => ?_⟩
   ·rw [zh1];exact r.setAV (zzb p _ _ _ _ (r.slot k _ (zes d)))
   ·rw [get_set];by_cases c:k=i
    ·subst c;rw [d] at g;cases g;exact absurd rfl (j _ _)
    ·rw [if_neg c];exact g
  ·cases h
 ·cases h
def ESt.dat0 (s:ESt) (x:Operand) (t:Ty):ESt:=match x with
 | .tmp k=>match s.datify k t with
  | some a=>a
  | none=>s
 | _=>s
theorem zzt (s:ESt) (x:Operand) (t:Ty):Wk s (s.dat0 x t):=by
 unfold ESt.dat0;split
 ·split
  ·rename_i h;exact zzw h
  ·exact Wk.refl _
 ·exact Wk.refl _
def ESt.boxDat1 (s:ESt) (id j:Nat):ESt:=match s.ent id with
 | some (.box T cs)=>match cs[j]? with
  | some (.own id2)=>match s.ent id2 with
   | some (.arr _ te l)=>bif Nat.beq id2 id then s else (s.put id2 none).put id (some (.box T (cs.set j (.d (.list te) l))))
   | some (.out f _)=>match look s.rws f with
    | some (some r)=>bif !(Nat.beq id2 id) && r.hole.isNone && zju s id2 [f] [] && Nat.blt f RB then (s.frzS id2 f).put id (some (.box T (cs.set j (.d (.list (.list r.t)) r.l)))) else s
    | _=>s
   | _=>s
  | _=>s
 | _=>s
theorem znE:∀ (l:List EV) (j:Nat) (x:EV),EV.avL (l.set j x)=(EV.avL l).set j x.av
 | [],_,_=>rfl
 | y::l,0,x=>rfl
 | y::l,j+1,x=>by rw [List.set_cons_succ,EV.avL,EV.avL,List.set_cons_succ,znE l j x]
theorem zpn (s:ESt) (id j:Nat):Wk s (s.boxDat1 id j):=by
 unfold ESt.boxDat1;split
 ·rename_i T cs d;split
  ·rename_i id2 h;split
   ·rename_i E k l e;cases b:Nat.beq id2 id with
    | true=>exact Wk.refl _
    | false=>
     refine ⟨fun F a w ⟨H,r⟩=>⟨H,?_⟩,fun _ _ _ c=>c⟩;have:=r.boxfreeze (zaN d) (j:=j) (id2:=id2) (by rw [zrz,h];rfl) (zaN e) b;show RelH F (((s.put id2 none).put id (some (.box T (cs.set j (.d (.list k) l)))))).st H a w;rw [zgB,zgB];simp only [Option.map_some,Option.map_none,EEnt.ent,znE];exact this
   ·rename_i f E e;split
    ·rename_i r i;cases b : !(Nat.beq id2 id) && r.hole.isNone && zju s id2 [f] [] && Nat.blt f RB with
     | false=>exact Wk.refl _
     | true=>
      simp only [Bool.and_eq_true,Bool.not_eq_true'] at b;obtain ⟨⟨⟨n,o⟩,g3⟩,g4⟩:=b;have g:id2≠id:=Nat.ne_of_beq_eq_false n;refine ⟨fun F a w ⟨H,rl⟩=>⟨H,?_⟩,fun _ _ _ c=>c⟩;rw [zAB o] at i;obtain ⟨p,v,q,t⟩:=zxF g3 (by simpa using g4) e i rl;have m:(s.frzS id2 f).ent id=some (.box T cs):=by
       have:(s.frzS id2 f).heap=(id2,none)::s.heap:=rfl;unfold ESt.ent at d ⊢;rw [this,zaf,if_neg g];exact d
      have:=p.boxset (zaN m) (j:=j) (id2:=id2) (by rw [zrz,h];rfl) q t;rw [cond_true,zgB];simp only [Option.map_some,EEnt.ent,znE];exact this
    ·exact Wk.refl _
   ·exact Wk.refl _
  ·exact Wk.refl _
 ·exact Wk.refl _
def ESt.boxDat (s:ESt) (id:Nat):Nat->Nat->ESt
 | _,0=>s
 | k,n+1=>ESt.boxDat (s.boxDat1 id k) id (k+1) n
theorem zi9 (id:Nat):∀ (n:Nat) (s:ESt) (k:Nat),Wk s (s.boxDat id k n)
 | 0,s,k=>Wk.refl s
 | n+1,s,k=>(zpn s id k).trans (zi9 id n _ (k+1))
def zvA (id:Nat):Option EV->Bool
 | some (.ptr i 0)=>Nat.beq i id
 | _=>false
theorem zsa {id:Nat} {x:Option EV} (h:zvA id x=true):x=some (.ptr id 0):=by
 unfold zvA at h;split at h
 ·rw [Nat.eq_of_beq_eq_true h]
 ·cases h
def ESt.holdersP (s:ESt) (id:Nat):List Nat:=((s.slots.filter fun p=>zvA id (some p.2)).map (·.1)).filter fun k=>zvA id (s.get k)
theorem zr7 (s:ESt) (id:Nat):∀ (ks:List Nat),(∀ k∈ks,zvA id (s.get k)=true)->zoR s.st id ks=true
 | [],_=>rfl
 | k::ks,h=>by
  have b:=zsa (h k (by simp));rw [zoR,zes b,zr7 s id ks (fun k a=>h k (by simp [a]))];simp [EV.av]
theorem ztE (σ:St) (i:Nat) (e:Option Ent) (id:Nat):∀ ks:List Nat,zoR (σ.put i e) id ks=zoR σ id ks
 | []=>rfl
 | k::ks=>by rw [zoR,zoR,ztE σ i e id ks];rfl
def ESt.treeify2 (s:ESt) (id:Nat) (u:Ty):ESt:=match s.ent id with
 | some (.box T cs)=>match zpK (zgV u) cs with
  | some (x,[])=>bif u.chain then ((((s.put id (some (.box T (zql (zgV u) x)))).put id none).setAll (s.holdersP id) (.addr (zgV u) x)).setAll (s.holdersP id) (.d (.tree u) (mkTr u x))) else s
  | _=>s
 | _=>s
def ESt.treeify (s:ESt) (k:Nat) (u:Ty):ESt:=match s.get k with
 | some (.ptr id 0)=>match s.ent id with
  | some (.box _ cs)=>(s.boxDat id 0 cs.length).treeify2 id u
  | _=>s
 | _=>s
theorem zxo (s:ESt) (id:Nat) (u:Ty):Wk s (s.treeify2 id u):=by
 unfold ESt.treeify2;split
 ·rename_i T cs B;split
  ·rename_i x C;cases m:u.chain with
   | false=>exact Wk.refl s
   | true=>
    simp only [cond_true];have l:∀ k∈s.holdersP id,s.get k=some (.ptr id 0):=fun k c=>zsa (List.mem_filter.1 c).2
    refine ⟨fun F a w ⟨H,r⟩=>⟨H,?_⟩,fun i t z p => ?_⟩
    ·obtain ⟨L,g,o⟩:=ze3 C;rw [List.append_nil] at g;subst g;have r1:=r.boxpack (zaN B) o;have q:=r1.freezeB (id:=id) (T:=T) (x := .agg (encD (zgV u) x).cells) (s.holdersP id) (by
      have:=zr7 s id (s.holdersP id) (fun k c=>(List.mem_filter.1 c).2);rw [ztE];exact this) (by rw [St.ent_put,if_pos rfl];rfl)
     have e:((((s.put id (some (.box T (zql (zgV u) x)))).put id none).setAll (s.holdersP id) (.addr (zgV u) x)).st)=(((s.st.put id (some (.box T ((encD (zgV u) x).cells.map .d)))).put id none).setAll (s.holdersP id) (.addr (.agg (encD (zgV u) x).cells))):=by
      rw [zmn,zgB,zgB];simp only [Option.map_some,Option.map_none,EEnt.ent,zlt,EV.av];rw [<- zdg (zsl m) x]
     rw [zmn,e];refine zh0 _ _ _ q fun k c => ?_
     have D:(((s.st.put id (some (.box T ((encD (zgV u) x).cells.map .d)))).put id none).setAll (s.holdersP id) (.addr (.agg (encD (zgV u) x).cells))).get k=some (.addr (.agg (encD (zgV u) x).cells)):=by
      rw [<- e,zv3];have:∀ (ks:List Nat) (j:ESt),k∈ks->(j.setAll ks (.addr (zgV u) x)).get k=some (.addr (zgV u) x):=by
       intro ks;induction ks with
       | nil=>intro _ h;cases h
       | cons E ks I=>
        intro j h;show ((j.set E (.addr (zgV u) x)).setAll ks (.addr (zgV u) x)).get k=_;by_cases n:k∈ks
        ·exact I _ n
        ·rw [zf5 _ _ _ _ n,get_set];rcases List.mem_cons.1 h with rfl | h
         ·rw [if_pos rfl]
         ·exact absurd h n
      rw [this _ _ c];show some (AV.addr (encD (zgV u) x))=_;rw [zdg (zsl m) x];rfl
     have y:=q.slot k _ D;show VRel w _ H (.d (encD (.tree u) (mkTr u x))) _;rw [zBD m];generalize a.tmps.getD k undef=v at y;cases y with
     | addr _ b off f g o J=>exact .d _ _ (.ptr _ b off f g o J)
    ·have d:i∉s.holdersP id:=fun A=>by have:=l i A;rw [p] at this;cases this
     rw [zf5 _ _ _ _ d,zf5 _ _ _ _ d];exact p
  ·exact Wk.refl s
 ·exact Wk.refl s
theorem zyW (s:ESt) (k:Nat) (u:Ty):Wk s (s.treeify k u):=by
 unfold ESt.treeify;split
 ·split
  ·exact (zi9 _ _ s 0).trans (zxo _ _ _)
  ·exact Wk.refl s
 ·exact Wk.refl s
def ESt.dat (s:ESt) (x:Operand) (t:Ty):ESt:=match t,x with
 | .tree u,.tmp k=>(s.treeify k u).dat0 (.tmp k) (.tree u)
 | _,_=>s.dat0 x t
theorem zji (s:ESt) (x:Operand) (t:Ty):Wk s (s.dat x t):=by
 unfold ESt.dat;split
 ·exact (zyW s _ _).trans (zzt _ _ _)
 ·exact zzt s x t
def EV.cellsOf:EV->Option (List EV)
 | .any=>none
 | .undef=>none
 | .tup _=>none
 | .raw _=>none
 | .d t x=>some (zql t x)
 | .agg l=>some l
 | x=>some [x]
theorem zim {x:EV} {l:List EV} (h:x.cellsOf=some l):zaz x.av=EV.avL l/\x.av.isAny=false:=by
 cases x<;>simp only [EV.cellsOf,Option.some.injEq,reduceCtorEq] at h<;>subst h
 case d t x=>exact ⟨(zlt t x).symm,rfl⟩
 case lit v=>exact ⟨rfl,rfl⟩
 all_goals exact ⟨rfl,rfl⟩
def EV.oneB:EV->Bool
 | .any=>false
 | .undef=>false
 | .tup _=>false
 | .raw _=>false
 | .agg _=>false
 | .d t _ => !t.agg
 | _=>true
theorem zAn {x:EV} (h:x.oneB=true):x.av.one=true:=by
 cases x with
 | d t x=>
  have a:t.agg=false:=by simpa [EV.oneB] using h
  show (encD t x).one=true;cases t<;>first | rfl | exact zrj _ x | (simp [Ty.agg] at a)
 | lit v=>rfl
 | _=>first | rfl | (simp [EV.oneB] at h)
theorem zry:∀ {l:List EV},l.all EV.oneB=true->(EV.avL l).all AV.one=true
 | [],_=>rfl
 | x::l,h=>by
  simp only [List.all_cons,Bool.and_eq_true] at h;rw [EV.avL,List.all_cons,zAn h.1,zry h.2];rfl
def zv1 (l:List EV) (k:Nat) (ys:List EV):List EV:=l.take k++ys++l.drop (k+ys.length)
theorem zuU (l:List EV) (k:Nat) (ys:List EV):EV.avL (zv1 l k ys)=zdh (EV.avL l) k (EV.avL ys):=by
 unfold zv1 zdh;simp only [zfd,List.map_append,List.map_take,List.map_drop,List.length_map]
def zyx (a:Nat->Option (Nat×Nat)):List EV->List (Nat×EV)->Option (List EV)
 | cs,[]=>some cs
 | cs,(i,x)::r=>match a i with
  | none=>none
  | some (off,size)=>match x.cellsOf with
   | none=>none
   | some ys=>bif Nat.beq ys.length size && Nat.ble (off+size) cs.length then zyx a (zv1 cs off ys) r else none
theorem zum {a:Nat->Option (Nat×Nat)}:∀ {xs:List (Nat×EV)} {cs cs':List EV},zyx a cs xs=some cs'->zqX a (EV.avL cs) (xs.map fun p=>(p.1,p.2.av))=some (EV.avL cs')
 | [],cs,cs',h=>by simp only [zyx,Option.some.injEq] at h;subst h;rfl
 | (i,x)::r,cs,cs',h=>by
  simp only [zyx] at h;rw [List.map_cons,zqX];split at h
  ·cases h
  ·rename_i off size c;split at h
   ·cases h
   ·rename_i ys d;obtain ⟨b,h⟩:=zac h;simp only [Bool.and_eq_true] at b;obtain ⟨e,f⟩:=zim d;simp only [c,e,f,zfZ,b.1,b.2,Bool.not_false,Bool.and_self,cond_true];rw [<- zuU];exact zum h
def zrk (s:ESt):List (Nat×Operand)->Option (List (Nat×EV))
 | []=>some []
 | (i,x)::r=>match s.ev x with
  | some v=>match zrk s r with
   | some l=>some ((i,v)::l)
   | none=>none
  | none=>none
theorem zkp {s:ESt}:∀ {l:List (Nat×Operand)} {xs:List (Nat×EV)},zrk s l=some xs->znM s.st l (xs.map fun p=>(p.1,p.2.av))
 | [],xs,h=>by cases h;rfl
 | (i,x)::r,xs,h=>by
  simp only [zrk] at h;split at h
  ·rename_i v a;split at h
   ·rename_i l b;cases h;exact ⟨rfl,zap a,zkp b⟩
   ·cases h
  ·cases h
def zuc (s:ESt) (t:Ty):List (Nat×Operand)->Nat->Option (List t.den)
 | [],_=>some []
 | (i,x)::r,k=>bif Nat.beq i k then (match s.ev x with
  | some v=>match v.exact t with
   | some y=>match zuc s t r (k+1) with
    | some l=>some (y::l)
    | none=>none
   | none=>none
  | none=>none) else none
theorem zqs {s:ESt} {t:Ty} (c:0 < t.sz):∀ {l:List (Nat×Operand)} {k:Nat} {ys:List t.den} (A:List AV),zuc s t l k=some ys->A.length=k * t.sz->
  l.length=ys.length/\∃ xs,znM s.st l xs/\zqX (fun i=>some (i * t.sz,t.sz)) (A++List.replicate (ys.length * t.sz) .any) xs=some (A++(ys.flatMap fun y=>(encD t y).cells).map .d)
 | [],k,ys,A,h,hA=>by
  cases h;exact ⟨rfl,[],rfl,by simp [zqX]⟩
 | (i,x)::r,k,ys,A,h,hA=>by
  simp only [zuc] at h;obtain ⟨j,h⟩:=zac h;have:=Nat.eq_of_beq_eq_true j;subst this;split at h
  ·rename_i v d;split at h
   ·rename_i y e;split at h
    ·rename_i l f;cases h;have b:=zd9 e;subst b;have hcl:(zaz (.d (encD t y))).length=t.sz:=by simp [zaz,avs,zaF]
     obtain ⟨m,xs,n,o⟩:=zqs c (A++(encD t y).cells.map .d) f (by rw [List.length_append,List.length_map,zaF,hA,Nat.add_mul];omega);refine ⟨by simp [m],(i,.d (encD t y))::xs,⟨rfl,zap d,n⟩,?_⟩;rw [zqX];simp only [hcl];have g:(Nat.beq t.sz t.sz && Nat.ble (i * t.sz+t.sz) (A++List.replicate ((y::l).length * t.sz) AV.any).length && !(AV.d (encD t y)).isAny)=true:=by
      simp only [List.length_append,List.length_replicate,hA,List.length_cons,AV.isAny,Bool.not_false,Bool.and_true];have:i * t.sz+t.sz<=i * t.sz+(l.length+1) * t.sz:=by rw [Nat.add_mul];omega
      simp [this]
     rw [g];simp only [cond_true];have a:zdh (A++List.replicate ((y::l).length * t.sz) AV.any) (i * t.sz) (zaz (.d (encD t y)))=(A++(encD t y).cells.map .d)++List.replicate (l.length * t.sz) .any:=by
      unfold zdh;rw [hcl,<- hA,List.take_left,List.drop_append,List.drop_of_length_le (by omega),List.nil_append,List.drop_replicate];congr 2;simp only [List.length_cons,Nat.add_mul];omega
     rw [a,o];simp [List.append_assoc]
    ·cases h
   ·cases h
  ·cases h
end
end Go.Ab
