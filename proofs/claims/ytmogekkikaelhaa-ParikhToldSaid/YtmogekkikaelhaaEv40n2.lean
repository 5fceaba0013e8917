import Derived.Test.YtmogekkikaelhaaEv40n1
set_option linter.unusedVariables false
set_option linter.unusedSimpArgs false
namespace Go.Ab
open Enc (enc)
inductive EV where
 | any
 | undef
 | d (t:Ty) (x:t.den)
 | nil
 | own (id:Nat)
 | ptr (id off:Nat)
 | eptr (id:Nat) (t:Ty) (i k:Nat)
 | vptr (id off n:Nat) (t:Ty) (j:Nat)
 | view (id:Nat) (t:Ty) (i n:Nat)
 | full (t:Ty) (x:List t.den)
 | row (f:Nat) (t:Ty) (i:Nat)
 | reptr (f:Nat) (t:Ty) (i:Nat) (j k:Nat)
 | raw (a:AV)
 | addr (t:Ty) (x:t.den)
 | agg (l:List EV)
 | tup (l:List EV)
 | fn (f:Nat) (c:List EV)
 | lit (v:Value)
instance:Inhabited EV:=⟨.any⟩
mutual
def EV.av:EV->AV
 | .any => .any
 | .undef => .tup []
 | .d t x => .d (encD t x)
 | .nil => .nil
 | .own id => .own id
 | .ptr id off => .ptr id off
 | .eptr id t i k => .eptr id t.sz i k
 | .vptr id off _ _ j => .ptr id (off+j)
 | .view id t i n => .view id t.sz i n
 | .full t x => .full t.bts (x.map (encD t))
 | .row f _ i => .own (rid f i)
 | .reptr f t i j k => .eptr (rid f i) t.sz j k
 | .raw a=>a
 | .addr t x => .addr (encD t x)
 | .agg l => .agg (EV.avL l)
 | .tup l => .tup (EV.avL l)
 | .fn f c => .fn f (EV.avL c)
 | .lit v => .d (.lit v)
def EV.avL:List EV->List AV
 | []=>[]
 | x::r=>x.av::EV.avL r
end
theorem zch:∀ l:List EV,EV.avL l=l.map EV.av
 | []=>rfl
 | x::r=>by rw [EV.avL,List.map_cons,zch r]
inductive EEnt where
 | arr (E:Nat) (t:Ty) (l:List t.den)
 | box (T:Nat) (c:List EV)
 | out (f E:Nat)
 | outs (E:Nat) (c:List EV)
structure RW where
 E:Nat
 t:Ty
 l:List (List t.den)
 hole:Option Nat
def rlen (rs:List (Nat×Option RW)) (f:Nat):Nat:=match look rs f with
 | some (some r)=>r.l.length
 | _=>0
def EEnt.ent (rs:List (Nat×Option RW)):EEnt->Ent
 | .arr E _ l=>Ent.arrOf E l
 | .box T c => .box T (EV.avL c)
 | .out f E => .out E 24 (famA f (rlen rs f))
 | .outs E c => .out E 24 (EV.avL c)
structure ESt where
 n:Nat
 slots:List (Nat×EV)
 heap:List (Nat×Option EEnt)
 nxt:Nat
 rws:List (Nat×Option RW)
def RW.ent (r:RW) (x:Nat):Option Ent:=if r.hole=some x then none else (r.l[x]?).map fun l=>Ent.arrOf r.E l
def zar (l:List (Nat×Option RW)) (k:Nat):Option Ent:=if RB<=k then (match look l (k % RB) with
 | some (some r)=>r.ent (k / RB - 1)
 | _=>none) else none
def ESt.st (s:ESt):St:=⟨s.n,s.nxt,s.slots.map fun p=>(p.1,p.2.av),s.heap.map fun p=>(p.1,p.2.map (EEnt.ent s.rws)),zar s.rws⟩
def ESt.get (s:ESt) (k:Nat):Option EV:=look s.slots k
def ESt.ent (s:ESt) (id:Nat):Option EEnt:=match look s.heap id with
 | some (some e)=>some e
 | _=>none
def ESt.set (s:ESt) (k:Nat) (x:EV):ESt:={ s with slots:=(k,x)::s.slots }
def ESt.put (s:ESt) (id:Nat) (e:Option EEnt):ESt:={ s with heap:=(id,e)::s.heap }
def ESt.new (s:ESt) (e:EEnt):ESt:={ s with heap:=(s.nxt,some e)::s.heap,nxt:=s.nxt+1 }
theorem zhn {β γ:Type} (f:β->γ):∀ (l:List (Nat×β)) (k:Nat),look (l.map fun p=>(p.1,f p.2)) k=(look l k).map f
 | [],k=>rfl
 | (j,v)::r,k=>by
  rw [List.map_cons,zae,zae,zhn f r k];by_cases h:j=k
  ·rw [if_pos h,if_pos h];rfl
  ·rw [if_neg h,if_neg h]
theorem zg6 (s:ESt) (k:Nat):s.st.get k=(s.get k).map EV.av:=zhn _ _ _
theorem zao (s:ESt) (id:Nat):s.st.ent id=match look s.heap id with
  | some e=>e.map (EEnt.ent s.rws)
  | none=>zar s.rws id:=by
 unfold St.ent ESt.st;simp only [zhn];cases look s.heap id<;>rfl
theorem st_ent {s:ESt} {id:Nat} (h:id < RB):s.st.ent id=(s.ent id).map (EEnt.ent s.rws):=by
 rw [zao];unfold ESt.ent;cases look s.heap id with
 | none=>simp only;unfold zar;rw [if_neg (by omega)];rfl
 | some o=>cases o<;>rfl
theorem zbY {s:ESt} {k:Nat} {x:EV} (h:s.get k=some x):s.st.get k=some x.av:=by rw [zg6,h];rfl
theorem zat {s:ESt} {id:Nat} {e:EEnt} (h:s.ent id=some e):s.st.ent id=some (e.ent s.rws):=by
 rw [zao];unfold ESt.ent at h;split at h
 ·rename_i e' he;cases h;rw [he];rfl
 ·cases h
def ESt.low (s:ESt):Bool:=s.heap.all fun p=>Nat.blt p.1 RB
theorem zpK {s:ESt} (h:s.low=true) {k:Nat} (hk:RB<=k):look s.heap k=none:=by
 unfold ESt.low at h;generalize s.heap=l at h;induction l with
 | nil=>rfl
 | cons p r ih=>
  simp only [List.all_cons,Bool.and_eq_true] at h;obtain ⟨a,b⟩:=p;have h1:a < RB:=by simpa using h.1
  rw [zae,if_neg (by omega)];exact ih h.2
theorem zgd {s:ESt} (h:s.low=true) {k:Nat} (hk:RB<=k):s.st.ent k=zar s.rws k:=by
 rw [zao,zpK h hk]
theorem zcY (s:ESt) (k:Nat) (x:EV):(s.set k x).st=s.st.set k x.av:=rfl
theorem zcp (s:ESt) (id:Nat) (e:Option EEnt):(s.put id e).st=s.st.put id (e.map (EEnt.ent s.rws)):=rfl
theorem zeF (s:ESt) (e:EEnt):(s.new e).st=s.st.new (e.ent s.rws):=rfl
def EV.con1:Value->EV
 | .bool b => .d .bool b
 | .int k n => .d (.int k) n
 | .string s => .d .str s.data.toList
 | .slice none 0 0 => .nil
 | .slice _ _ _ => .any
 | .agg _ => .any
 | .tuple _ => .any
 | v => .lit v
def EV.con:Value->EV
 | .agg cs => .agg (cs.toList.map EV.con1)
 | v=>EV.con1 v
theorem zqT (v:Value):(EV.con1 v).av=avc1 v:=by
 cases v with
 | slice a n c=>rcases a with _ | a<;>rcases n with _ | n<;>rcases c with _ | c<;>rfl
 | _=>rfl
theorem zpt (v:Value):(EV.con v).av=avc v:=by
 cases v with
 | agg cs=>
  show AV.agg (EV.avL _)=AV.agg _;rw [zch,List.map_map];congr 1;exact List.map_congr_left fun v _=>zqT v
 | slice a n c=>exact zqT (.slice a n c)
 | _=>rfl
def ESt.ev (s:ESt):Operand->Option EV
 | .tmp t=>s.get t
 | .const v=>some (EV.con v)
 | .func f=>some (.fn f [])
 | .global _=>none
theorem zah {s:ESt} {x:Operand} {y:EV} (h:s.ev x=some y):s.st.ev x=some y.av:=by
 cases x with
 | tmp t=>exact zbY h
 | const v=>cases h;show some (avc v)=_;rw [zpt]
 | func f=>cases h;rfl
 | global g=>cases h
abbrev Tup:List Ty->Type
 | []=>Unit
 | [t]=>t.den
 | t::u::r=>t.den×Tup (u::r)
def Tup.get:(ts:List Ty)->Tup ts->Nat->EV
 | [],_,_ => .any
 | [t],x,0 => .d t x
 | [_],_,_+1 => .any
 | t::_::_,x,0 => .d t x.1
 | _::u::r,x,j+1=>Tup.get (u::r) x.2 j
def EV.exact (t:Ty):EV->Option t.den
 | .d t' x=>zaL t' t x
 | _=>none
theorem zbJ {t:Ty} {v:EV} {x:t.den} (h:v.exact t=some x):v = .d t x:=by
 cases v with
 | d t' y=>
  obtain ⟨rfl,rfl⟩:=zaz (show zaL t' t y=some x from h);rfl
 | _=>cases h
def Tup.mk? :(ts:List Ty)->(Nat->Option EV)->Nat->Option (Tup ts)
 | [],_,_=>some ()
 | [t],f,j=>match f j with
  | some v=>v.exact t
  | none=>none
 | t::u::r,f,j=>match f j with
  | some v=>match v.exact t with
   | some x=>match Tup.mk? (u::r) f (j+1) with
    | some y=>some (x,y)
    | none=>none
   | none=>none
  | none=>none
theorem mk?_spec {f:Nat->Option EV}:∀ {ts:List Ty} {j:Nat} {X:Tup ts},Tup.mk? ts f j=some X->∀ i,i < ts.length->f (j+i)=some (Tup.get ts X i)
 | [],_,_,_,i,hi=>by simp at hi
 | [t],j,X,h,i,hi=>by
  simp only [Tup.mk?] at h;have:i=0:=by simpa using hi
  subst this;rw [Nat.add_zero];cases hf:f j with
  | none=>rw [hf] at h;cases h
  | some v=>
   rw [hf] at h;simp only [zbJ h,Tup.get]
 | t::u::r,j,X,h,i,hi=>by
  simp only [Tup.mk?] at h;cases hf:f j with
  | none=>rw [hf] at h;cases h
  | some v=>
   rw [hf] at h;simp only at h;cases hx:v.exact t with
   | none=>rw [hx] at h;cases h
   | some x=>
    rw [hx] at h;simp only at h;cases hy:Tup.mk? (u::r) f (j+1) with
    | none=>rw [hy] at h;cases h
    | some y=>
     rw [hy] at h;cases h;cases i with
     | zero=>simp only [Nat.add_zero,hf,zbJ hx,Tup.get]
     | succ i=>
      have:=mk?_spec hy i (by simpa using hi);rw [show j+(i+1)=j+1+i by omega,this];rfl
end Go.Ab
