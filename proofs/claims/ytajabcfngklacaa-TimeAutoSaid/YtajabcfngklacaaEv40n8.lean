import Derived.Test.YtajabcfngklacaaEv40n27
set_option linter.unusedVariables false
set_option linter.unusedSimpArgs false
namespace Go.Ab
noncomputable section
open Enc (enc)
structure Wk (s s':ESt):Prop where
 rel:∀ (F:Fr) (a:Act) (w:World),Rel F s.st a w->Rel F s'.st a w
 kd:∀ (k:Nat) (t:Ty) (x:t.den),s.get k=some (.d t x)->s'.get k=some (.d t x)
theorem Wk.refl (s:ESt):Wk s s:=⟨fun _ _ _ h=>h,fun _ _ _ h=>h⟩
theorem Wk.trans {a b c:ESt} (h:Wk a b) (k:Wk b c):Wk a c:=⟨fun F x w r=>k.rel F x w (h.rel F x w r),fun i t x d=>k.kd i t x (h.kd i t x d)⟩
theorem get_set (s:ESt) (k j:Nat) (x:EV):(s.set k x).get j=if k=j then some x else s.get j:=zan _ _ _ _
def ESt.setAll (s:ESt) (ks:List Nat) (x:EV):ESt:=ks.foldl (fun s k=>s.set k x) s
theorem zoK (x:EV):∀ (ks:List Nat) (s:ESt),(s.setAll ks x).st=s.st.setAll ks x.av
 | [],_=>rfl
 | k::ks,s=>by
  show ((s.set k x).setAll ks x).st=(s.st.set k x.av).setAll ks x.av;rw [zoK x ks];rfl
def zA9 (id:Nat):Option EV->Bool
 | some (.own i)=>Nat.beq i id
 | _=>false
theorem zmu {id:Nat} {x:Option EV} (h:zA9 id x=true):x=some (.own id):=by
 unfold zA9 at h;split at h
 ·rw [Nat.eq_of_beq_eq_true h]
 ·cases h
def ESt.owners (s:ESt) (id:Nat):List Nat:=((s.slots.filter fun p=>zA9 id (some p.2)).map (·.1)).filter fun k=>zA9 id (s.get k)
theorem zxi (s:ESt) (id:Nat):∀ (ks:List Nat),(∀ k∈ks,zA9 id (s.get k)=true)->zvn s.st id ks=true
 | [],_=>rfl
 | k::ks,h=>by
  have b:=zmu (h k (by simp));rw [zvn,zf0 b,zxi s id ks (fun k a=>h k (by simp [a]))];simp [EV.av]
def zy5 (id:Nat):Option EV->Bool
 | some (.view i _ _ _)=>Nat.beq i id
 | _=>false
theorem ztV {id:Nat} {x:Option EV} (h:zy5 id x=true):∃ t i n,x=some (.view id t i n):=by
 unfold zy5 at h;split at h
 ·rename_i i t a n;rw [Nat.eq_of_beq_eq_true h];exact ⟨t,a,n,rfl⟩
 ·cases h
def ESt.viewers (s:ESt) (id:Nat):List Nat:=((s.slots.filter fun p=>zy5 id (some p.2)).map (·.1)).filter fun k=>zy5 id (s.get k)
def ESt.setViews (a:Ty) (l:List a.den):List Nat->ESt->ESt
 | [],s=>s
 | k::ks,s=>match s.get k with
  | some (.view _ t i n)=>bif Ty.beq t a then ESt.setViews a l ks (s.set k (.d (.list a) ((l.drop i).take n))) else ESt.setViews a l ks s
  | _=>ESt.setViews a l ks s
def ESt.freezeArr (s:ESt) (id:Nat) (a:Ty) (l:List a.den):ESt:=
 ESt.setViews a l (s.viewers id) ((s.put id none).setAll (s.owners id) (.d (.list a) l))
def ESt.datify (s:ESt) (k:Nat) (t:Ty):Option ESt:=match s.get k with
 | some (.own id)=>match s.ent id with
  | some (.arr _ te l)=>bif Ty.beq (.list te) t then some (s.freezeArr id te l) else none
  | some (.out f _)=>match look s.rws f with
   | some (some r)=>bif Ty.beq (.list (.list r.t)) t && r.hole.isNone && znT s id [f] [] && Nat.blt f RB then some ((s.frzS id f).setAll (s.owners id) (.d (.list (.list r.t)) r.l)) else none
   | _=>none
  | _=>none
 | some (.view id _ _ _)=>match s.ent id with
  | some (.arr _ te l)=>bif Ty.beq (.list te) t then some (s.freezeArr id te l) else none
  | _=>none
 | some (.d t' _)=>bif Ty.beq t' t then some s else none
 | some x=>match x.as t with
  | some y=>some (s.set k (.d t y))
  | none=>none
 | none=>none
theorem zi5 (x:EV):∀ (ks:List Nat) (s:ESt) (k:Nat),k∉ks->(s.setAll ks x).get k=s.get k
 | [],_,_,_=>rfl
 | k'::ks,s,k,h=>by
  show ((s.set k' x).setAll ks x).get k=_;rw [zi5 x ks _ k (fun a=>h (by simp [a])),get_set,if_neg (fun e=>h (by simp [e]))]
theorem znr (b:Ty) (l:List b.den):∀ (ks:List Nat) (s:ESt) (i:Nat) (u:Ty) (z:u.den),s.get i=some (.d u z)->(ESt.setViews b l ks s).get i=some (.d u z)
 | [],_,_,_,_,h=>h
 | k::ks,s,i,u,z,h=>by
  simp only [ESt.setViews];split
  ·rename_i id t a n c;cases Ty.beq t b with
   | true=>
    refine znr b l ks _ i u z ?_;rw [get_set];by_cases e:k=i
    ·subst e;rw [c] at h;cases h
    ·rw [if_neg e];exact h
   | false=>exact znr b l ks _ i u z h
  ·exact znr b l ks _ i u z h
theorem zlU {F:Fr} {H:Hd} {a:Act} {w:World} (c:Ty) (l:List c.den) (id:Nat) (v:Value) (j:H id=some v) (ent:Nat->Option Ent) (f:DRel w (Sh F.X ent H w) (encD (.list c) l) v):
  ∀ (ks:List Nat) (s:ESt),s.st.ent=ent->(∀ k∈ks,∀ i t a n,s.get k=some (.view i t a n)->i=id)->RelH F s.st H a w->RelH F (ESt.setViews c l ks s).st H a w
 | [],s,_,_,r=>r
 | k::ks,s,he,hv,r=>by
  simp only [ESt.setViews];split
  ·rename_i i t q n m;have y:=hv k (by simp) i t q n m;subst y;cases z:Ty.beq t c with
   | true=>
    have:=Ty.eq_of_beq z;subst this;refine zlU t l i v j ent f ks _ (by rw [<- he];rfl) (fun g b o t' p u h => ?_) ?_
    ·rw [get_set] at h;by_cases e:k=g
     ·rw [if_pos e] at h;cases h
     ·rw [if_neg e] at h;exact hv g (by simp [b]) o t' p u h
    ·rw [zlV];refine r.setAV ?_;rw [he];show VRel w _ H (.d (encD (.list t) ((l.drop q).take n))) _;have:=r.viewDat j f (zf0 m) (fun d f=>by
      obtain ⟨x,_,rfl⟩:=List.mem_map.1 f;exact zbg t x)
     rw [<- List.map_drop,<- List.map_take] at this;exact .d _ _ this
   | false=>exact zlU c l i v j ent f ks s he (fun g b=>hv g (by simp [b])) r
  ·exact zlU c l id v j ent f ks s he (fun g b=>hv g (by simp [b])) r
theorem zvD (x:EV):∀ (ks:List Nat) (s:ESt),(s.setAll ks x).st.ent=s.st.ent
 | [],_=>rfl
 | k::ks,s=>by
  show ((s.set k x).setAll ks x).st.ent=_;rw [zvD x ks];rfl
theorem zse {s:ESt} {id E:Nat} {b:Ty} {l:List b.den} (e:s.ent id=some (.arr E b l)):Wk s (s.freezeArr id b l):=by
 refine ⟨fun F a w ⟨H,r⟩=>⟨H,?_⟩,fun i u z f => ?_⟩
 ·have m:=r.freezeA (s.owners id) (zxi s id _ (fun k d=>(List.mem_filter.1 d).2)) (zbw e);obtain ⟨v,p,q⟩:=r.frozen (zbw e);unfold ESt.freezeArr;refine zlU b l id v p (s.st.put id none).ent q _ _ ?_ (fun k d i t a n h => ?_) ?_
  ·rw [zvD,zkU];rfl
  ·by_cases g:k∈s.owners id
   ·exfalso;have o:=zmu (List.mem_filter.1 g).2;obtain ⟨t',x,y,c⟩:=ztV (List.mem_filter.1 d).2;rw [o] at c;cases c
   ·rw [zi5 _ _ _ _ g] at h;have h:s.get k=some (.view i t a n):=h;obtain ⟨t',x,y,c⟩:=ztV (List.mem_filter.1 d).2;rw [h] at c;cases c;rfl
  ·rw [zoK];exact m
 ·unfold ESt.freezeArr;refine znr b l _ _ i u z ?_;rw [zi5 _ _ _ _ (fun j => ?_)]
  ·exact f
  ·have:=zmu (List.mem_filter.1 j).2;rw [f] at this;cases this
theorem zBO {r:RW} (h:r.hole.isNone=true):r=⟨r.E,r.t,r.l,none⟩:=by
 obtain ⟨E,t,l,a⟩:=r;cases a with
 | none=>rfl
 | some x=>cases h
theorem zDF {s:ESt} {id f E:Nat} {r:RW} (g:s.ent id=some (.out f E)) (c:look s.rws f=some (some r)) (j:r.hole.isNone=true) (b:znT s id [f] []=true) (l:Nat.blt f RB=true):
  Wk s ((s.frzS id f).setAll (s.owners id) (.d (.list (.list r.t)) r.l)):=by
 refine ⟨fun F a w ⟨H,rl⟩=>⟨H,?_⟩,fun i u z d => ?_⟩
 ·rw [zBO j] at c;obtain ⟨p,v,q,t⟩:=zy2 b (by simpa using l) g c rl;rw [zoK];refine zla _ _ _ p fun k m => ?_
  have o:=zmu (List.mem_filter.1 m).2;have e:=rl.slot k _ (zf0 o);generalize a.tmps.getD k undef=u at e;cases e with
  | own _ _ h _=>rw [q] at h;cases h;exact .d _ _ t
 ·rw [zi5 _ _ _ _ (fun n => ?_)]
  ·exact d
  ·have:=zmu (List.mem_filter.1 n).2;rw [d] at this;cases this
theorem zAI {s m:ESt} {k:Nat} {t:Ty} (h:s.datify k t=some m):Wk s m:=by
 unfold ESt.datify at h;split at h
 ·rename_i id n;split at h
  ·rename_i E o l b;have:=(zad h).2;cases this;exact zse b
  ·rename_i f E b;split at h
   ·rename_i r d;obtain ⟨e,h⟩:=zad h;cases h;simp only [Bool.and_eq_true] at e;exact zDF b d e.1.1.2 e.1.2 e.2
   ·cases h
  ·cases h
 ·rename_i id _ _ _ n;split at h
  ·rename_i E o l b;have:=(zad h).2;cases this;exact zse b
  ·cases h
 ·have:=(zad h).2;cases this;exact Wk.refl _
 ·rename_i x n b j d;split at h
  ·rename_i y p;cases h;refine ⟨fun F a w ⟨H,r⟩=>⟨H,?_⟩,fun i u z g => ?_⟩
   ·rw [zlV];exact r.setAV (zAq p _ _ _ _ (r.slot k _ (zf0 d)))
   ·rw [get_set];by_cases c:k=i
    ·subst c;rw [d] at g;cases g;exact absurd rfl (j _ _)
    ·rw [if_neg c];exact g
  ·cases h
 ·cases h
def ESt.dat0 (s:ESt) (x:Operand) (t:Ty):ESt:=match x with
 | .tmp k=>match s.datify k t with
  | some a=>a
  | none=>s
 | _=>s
theorem zAF (s:ESt) (x:Operand) (t:Ty):Wk s (s.dat0 x t):=by
 unfold ESt.dat0;split
 ·split
  ·rename_i h;exact zAI h
  ·exact Wk.refl _
 ·exact Wk.refl _
def ESt.boxDat1 (s:ESt) (id j:Nat):ESt:=match s.ent id with
 | some (.box T cs)=>match cs[j]? with
  | some (.own id2)=>match s.ent id2 with
   | some (.arr _ te l)=>bif Nat.beq id2 id then s else (s.put id2 none).put id (some (.box T (cs.set j (.d (.list te) l))))
   | some (.out f _)=>match look s.rws f with
    | some (some r)=>bif !(Nat.beq id2 id) && r.hole.isNone && znT s id2 [f] [] && Nat.blt f RB then (s.frzS id2 f).put id (some (.box T (cs.set j (.d (.list (.list r.t)) r.l)))) else s
    | _=>s
   | _=>s
  | _=>s
 | _=>s
theorem zp2:∀ (l:List EV) (j:Nat) (x:EV),EV.avL (l.set j x)=(EV.avL l).set j x.av
 | [],_,_=>rfl
 | y::l,0,x=>rfl
 | y::l,j+1,x=>by rw [List.set_cons_succ,EV.avL,EV.avL,List.set_cons_succ,zp2 l j x]
theorem zrn (s:ESt) (id j:Nat):Wk s (s.boxDat1 id j):=by
 unfold ESt.boxDat1;split
 ·rename_i T cs d;split
  ·rename_i id2 h;split
   ·rename_i E k l e;cases b:Nat.beq id2 id with
    | true=>exact Wk.refl _
    | false=>
     refine ⟨fun F a w ⟨H,r⟩=>⟨H,?_⟩,fun _ _ _ c=>c⟩;have:=r.boxfreeze (zbw d) (j:=j) (id2:=id2) (by rw [zts,h];rfl) (zbw e) b;show RelH F (((s.put id2 none).put id (some (.box T (cs.set j (.d (.list k) l)))))).st H a w;rw [zkU,zkU];simp only [Option.map_some,Option.map_none,EEnt.ent,zp2];exact this
   ·rename_i f E e;split
    ·rename_i r i;cases b : !(Nat.beq id2 id) && r.hole.isNone && znT s id2 [f] [] && Nat.blt f RB with
     | false=>exact Wk.refl _
     | true=>
      simp only [Bool.and_eq_true,Bool.not_eq_true'] at b;obtain ⟨⟨⟨n,o⟩,g3⟩,g4⟩:=b;have g:id2≠id:=Nat.ne_of_beq_eq_false n;refine ⟨fun F a w ⟨H,rl⟩=>⟨H,?_⟩,fun _ _ _ c=>c⟩;rw [zBO o] at i;obtain ⟨p,v,q,t⟩:=zy2 g3 (by simpa using g4) e i rl;have m:(s.frzS id2 f).ent id=some (.box T cs):=by
       have:(s.frzS id2 f).heap=(id2,none)::s.heap:=rfl;unfold ESt.ent at d ⊢;rw [this,zan,if_neg g];exact d
      have:=p.boxset (zbw m) (j:=j) (id2:=id2) (by rw [zts,h];rfl) q t;rw [cond_true,zkU];simp only [Option.map_some,EEnt.ent,zp2];exact this
    ·exact Wk.refl _
   ·exact Wk.refl _
  ·exact Wk.refl _
 ·exact Wk.refl _
def ESt.boxDat (s:ESt) (id:Nat):Nat->Nat->ESt
 | _,0=>s
 | k,n+1=>ESt.boxDat (s.boxDat1 id k) id (k+1) n
theorem zmp (id:Nat):∀ (n:Nat) (s:ESt) (k:Nat),Wk s (s.boxDat id k n)
 | 0,s,k=>Wk.refl s
 | n+1,s,k=>(zrn s id k).trans (zmp id n _ (k+1))
def zxc (id:Nat):Option EV->Bool
 | some (.ptr i 0)=>Nat.beq i id
 | _=>false
theorem ztU {id:Nat} {x:Option EV} (h:zxc id x=true):x=some (.ptr id 0):=by
 unfold zxc at h;split at h
 ·rw [Nat.eq_of_beq_eq_true h]
 ·cases h
def ESt.holdersP (s:ESt) (id:Nat):List Nat:=((s.slots.filter fun p=>zxc id (some p.2)).map (·.1)).filter fun k=>zxc id (s.get k)
theorem ztS (s:ESt) (id:Nat):∀ (ks:List Nat),(∀ k∈ks,zxc id (s.get k)=true)->zqV s.st id ks=true
 | [],_=>rfl
 | k::ks,h=>by
  have b:=ztU (h k (by simp));rw [zqV,zf0 b,ztS s id ks (fun k a=>h k (by simp [a]))];simp [EV.av]
theorem zvv (σ:St) (i:Nat) (e:Option Ent) (id:Nat):∀ ks:List Nat,zqV (σ.put i e) id ks=zqV σ id ks
 | []=>rfl
 | k::ks=>by rw [zqV,zqV,zvv σ i e id ks];rfl
def ESt.treeify2 (s:ESt) (id:Nat) (u:Ty):ESt:=match s.ent id with
 | some (.box T cs)=>match zrC (zjS u) cs with
  | some (x,[])=>bif u.chain then ((((s.put id (some (.box T (zr5 (zjS u) x)))).put id none).setAll (s.holdersP id) (.addr (zjS u) x)).setAll (s.holdersP id) (.d (.tree u) (mkTr u x))) else s
  | _=>s
 | _=>s
def ESt.treeify (s:ESt) (k:Nat) (u:Ty):ESt:=match s.get k with
 | some (.ptr id 0)=>match s.ent id with
  | some (.box _ cs)=>(s.boxDat id 0 cs.length).treeify2 id u
  | _=>s
 | _=>s
theorem zyM (s:ESt) (id:Nat) (u:Ty):Wk s (s.treeify2 id u):=by
 unfold ESt.treeify2;split
 ·rename_i T cs B;split
  ·rename_i x C;cases m:u.chain with
   | false=>exact Wk.refl s
   | true=>
    simp only [cond_true];have l:∀ k∈s.holdersP id,s.get k=some (.ptr id 0):=fun k c=>ztU (List.mem_filter.1 c).2
    refine ⟨fun F a w ⟨H,r⟩=>⟨H,?_⟩,fun i t z p => ?_⟩
    ·obtain ⟨l1,g,o⟩:=zh1 C;rw [List.append_nil] at g;subst g;have D:=r.boxpack (zbw B) o;have q:=D.freezeB (id:=id) (T:=T) (x := .agg (encD (zjS u) x).cells) (s.holdersP id) (by
      have:=ztS s id (s.holdersP id) (fun k c=>(List.mem_filter.1 c).2);rw [zvv];exact this) (by rw [St.ent_put,if_pos rfl];rfl)
     have e:((((s.put id (some (.box T (zr5 (zjS u) x)))).put id none).setAll (s.holdersP id) (.addr (zjS u) x)).st)=(((s.st.put id (some (.box T ((encD (zjS u) x).cells.map .d)))).put id none).setAll (s.holdersP id) (.addr (.agg (encD (zjS u) x).cells))):=by
      rw [zoK,zkU,zkU];simp only [Option.map_some,Option.map_none,EEnt.ent,zoc,EV.av];rw [<- zfi (zt5 m) x]
     rw [zoK,e];refine zla _ _ _ q fun k c => ?_
     have E:(((s.st.put id (some (.box T ((encD (zjS u) x).cells.map .d)))).put id none).setAll (s.holdersP id) (.addr (.agg (encD (zjS u) x).cells))).get k=some (.addr (.agg (encD (zjS u) x).cells)):=by
      rw [<- e,zoN];have:∀ (ks:List Nat) (j:ESt),k∈ks->(j.setAll ks (.addr (zjS u) x)).get k=some (.addr (zjS u) x):=by
       intro ks;induction ks with
       | nil=>intro _ h;cases h
       | cons I ks J=>
        intro j h;show ((j.set I (.addr (zjS u) x)).setAll ks (.addr (zjS u) x)).get k=_;by_cases n:k∈ks
        ·exact J _ n
        ·rw [zi5 _ _ _ _ n,get_set];rcases List.mem_cons.1 h with rfl | h
         ·rw [if_pos rfl]
         ·exact absurd h n
      rw [this _ _ c];show some (AV.addr (encD (zjS u) x))=_;rw [zfi (zt5 m) x];rfl
     have y:=q.slot k _ E;show VRel w _ H (.d (encD (.tree u) (mkTr u x))) _;rw [zCu m];generalize a.tmps.getD k undef=v at y;cases y with
     | addr _ b off f g o L=>exact .d _ _ (.ptr _ b off f g o L)
    ·have d:i∉s.holdersP id:=fun A=>by have:=l i A;rw [p] at this;cases this
     rw [zi5 _ _ _ _ d,zi5 _ _ _ _ d];exact p
  ·exact Wk.refl s
 ·exact Wk.refl s
theorem zAk (s:ESt) (k:Nat) (u:Ty):Wk s (s.treeify k u):=by
 unfold ESt.treeify;split
 ·split
  ·exact (zmp _ _ s 0).trans (zyM _ _ _)
  ·exact Wk.refl s
 ·exact Wk.refl s
def ESt.dat (s:ESt) (x:Operand) (t:Ty):ESt:=match t,x with
 | .tree u,.tmp k=>(s.treeify k u).dat0 (.tmp k) (.tree u)
 | _,_=>s.dat0 x t
theorem zog (s:ESt) (x:Operand) (t:Ty):Wk s (s.dat x t):=by
 unfold ESt.dat;split
 ·exact (zAk s _ _).trans (zAF _ _ _)
 ·exact zAF s x t
def EV.cellsOf:EV->Option (List EV)
 | .any=>none
 | .undef=>none
 | .tup _=>none
 | .raw _=>none
 | .d t x=>some (zr5 t x)
 | .agg l=>some l
 | x=>some [x]
theorem zlE {x:EV} {l:List EV} (h:x.cellsOf=some l):za6 x.av=EV.avL l/\x.av.isAny=false:=by
 cases x<;>simp only [EV.cellsOf,Option.some.injEq,reduceCtorEq] at h<;>subst h
 case d t x=>exact ⟨(zoc t x).symm,rfl⟩
 case lit v=>exact ⟨rfl,rfl⟩
 all_goals exact ⟨rfl,rfl⟩
def EV.oneB:EV->Bool
 | .any=>false
 | .undef=>false
 | .tup _=>false
 | .raw _=>false
 | .agg _=>false
 | .d t _ => !t.agg
 | _=>true
theorem zBv {x:EV} (h:x.oneB=true):x.av.one=true:=by
 cases x with
 | d t x=>
  have a:t.agg=false:=by simpa [EV.oneB] using h
  show (encD t x).one=true;cases t<;>first | rfl | exact zvS _ x | (simp [Ty.agg] at a)
 | lit v=>rfl
 | _=>first | rfl | (simp [EV.oneB] at h)
theorem ztr:∀ {l:List EV},l.all EV.oneB=true->(EV.avL l).all AV.one=true
 | [],_=>rfl
 | x::l,h=>by
  simp only [List.all_cons,Bool.and_eq_true] at h;rw [EV.avL,List.all_cons,zBv h.1,ztr h.2];rfl
def zCM (l:List EV) (k:Nat) (ys:List EV):List EV:=l.take k++ys++l.drop (k+ys.length)
theorem zzs (l:List EV) (k:Nat) (ys:List EV):EV.avL (zCM l k ys)=zfl (EV.avL l) k (EV.avL ys):=by
 unfold zCM zfl;simp only [zhf,List.map_append,List.map_take,List.map_drop,List.length_map]
def zzR (a:Nat->Option (Nat×Nat)):List EV->List (Nat×EV)->Option (List EV)
 | cs,[]=>some cs
 | cs,(i,x)::r=>match a i with
  | none=>none
  | some (off,size)=>match x.cellsOf with
   | none=>none
   | some ys=>bif Nat.beq ys.length size && Nat.ble (off+size) cs.length then zzR a (zCM cs off ys) r else none
theorem zwb {a:Nat->Option (Nat×Nat)}:∀ {xs:List (Nat×EV)} {cs cs':List EV},zzR a cs xs=some cs'->zsO a (EV.avL cs) (xs.map fun p=>(p.1,p.2.av))=some (EV.avL cs')
 | [],cs,cs',h=>by simp only [zzR,Option.some.injEq] at h;subst h;rfl
 | (i,x)::r,cs,cs',h=>by
  simp only [zzR] at h;rw [List.map_cons,zsO];split at h
  ·cases h
  ·rename_i off size c;split at h
   ·cases h
   ·rename_i ys d;obtain ⟨b,h⟩:=zad h;simp only [Bool.and_eq_true] at b;obtain ⟨e,f⟩:=zlE d;simp only [c,e,f,zhe,b.1,b.2,Bool.not_false,Bool.and_self,cond_true];rw [<- zzs];exact zwb h
def ztd (s:ESt):List (Nat×Operand)->Option (List (Nat×EV))
 | []=>some []
 | (i,x)::r=>match s.ev x with
  | some v=>match ztd s r with
   | some l=>some ((i,v)::l)
   | none=>none
  | none=>none
theorem zne {s:ESt}:∀ {l:List (Nat×Operand)} {xs:List (Nat×EV)},ztd s l=some xs->zp6 s.st l (xs.map fun p=>(p.1,p.2.av))
 | [],xs,h=>by cases h;rfl
 | (i,x)::r,xs,h=>by
  simp only [ztd] at h;split at h
  ·rename_i v a;split at h
   ·rename_i l b;cases h;exact ⟨rfl,za0 a,zne b⟩
   ·cases h
  ·cases h
def zvY (s:ESt) (t:Ty):List (Nat×Operand)->Nat->Option (List t.den)
 | [],_=>some []
 | (i,x)::r,k=>bif Nat.beq i k then (match s.ev x with
  | some v=>match v.exact t with
   | some y=>match zvY s t r (k+1) with
    | some l=>some (y::l)
    | none=>none
   | none=>none
  | none=>none) else none
theorem zsc {s:ESt} {t:Ty} (c:0 < t.sz):∀ {l:List (Nat×Operand)} {k:Nat} {ys:List t.den} (A:List AV),zvY s t l k=some ys->A.length=k * t.sz->
  l.length=ys.length/\∃ xs,zp6 s.st l xs/\zsO (fun i=>some (i * t.sz,t.sz)) (A++List.replicate (ys.length * t.sz) .any) xs=some (A++(ys.flatMap fun y=>(encD t y).cells).map .d)
 | [],k,ys,A,h,hA=>by
  cases h;exact ⟨rfl,[],rfl,by simp [zsO]⟩
 | (i,x)::r,k,ys,A,h,hA=>by
  simp only [zvY] at h;obtain ⟨j,h⟩:=zad h;have:=Nat.eq_of_beq_eq_true j;subst this;split at h
  ·rename_i v d;split at h
   ·rename_i y e;split at h
    ·rename_i l f;cases h;have b:=zo7 e;subst b;have hcl:(za6 (.d (encD t y))).length=t.sz:=by simp [za6,avs,zbg]
     obtain ⟨m,xs,n,o⟩:=zsc c (A++(encD t y).cells.map .d) f (by rw [List.length_append,List.length_map,zbg,hA,Nat.add_mul];omega);refine ⟨by simp [m],(i,.d (encD t y))::xs,⟨rfl,za0 d,n⟩,?_⟩;rw [zsO];simp only [hcl];have g:(Nat.beq t.sz t.sz && Nat.ble (i * t.sz+t.sz) (A++List.replicate ((y::l).length * t.sz) AV.any).length && !(AV.d (encD t y)).isAny)=true:=by
      simp only [List.length_append,List.length_replicate,hA,List.length_cons,AV.isAny,Bool.not_false,Bool.and_true];have:i * t.sz+t.sz<=i * t.sz+(l.length+1) * t.sz:=by rw [Nat.add_mul];omega
      simp [this]
     rw [g];simp only [cond_true];have a:zfl (A++List.replicate ((y::l).length * t.sz) AV.any) (i * t.sz) (za6 (.d (encD t y)))=(A++(encD t y).cells.map .d)++List.replicate (l.length * t.sz) .any:=by
      unfold zfl;rw [hcl,<- hA,List.take_left,List.drop_append,List.drop_of_length_le (by omega),List.nil_append,List.drop_replicate];congr 2;simp only [List.length_cons,Nat.add_mul];omega
     rw [a,o];simp [List.append_assoc]
    ·cases h
   ·cases h
  ·cases h
end
end Go.Ab
