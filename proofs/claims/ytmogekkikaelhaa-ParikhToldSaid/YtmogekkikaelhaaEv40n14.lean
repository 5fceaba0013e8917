import Derived.Test.YtmogekkikaelhaaEv40n13
import Derived.Test.YtmogekkikaelhaaEv40n22
import Derived.Test.YtmogekkikaelhaaEv40n26
set_option linter.unusedVariables false
set_option linter.unusedSimpArgs false
set_option linter.unusedSectionVars false
namespace Go.Ab
noncomputable section
open Enc (enc)
variable {R:Type}
def room {α:Type} (xs ys:List α) (b:Nat):Prop:=(xs.length+ys.length) * b<=140737488355328
instance {α:Type} (xs ys:List α) (b:Nat):Decidable (room xs ys b):=inferInstanceAs (Decidable (_<=_))
def mkOK (m c:Int) (b:Nat):Prop:=0<=m/\m<=c/\c * b<=140737488355328
instance (m c:Int) (b:Nat):Decidable (mkOK m c b):=inferInstanceAs (Decidable (_/\_))
def zcu (TT:List TE) (ft:Nat->Option Nat):ESt->List (Nat×Operand)->ESt
 | s,[]=>s
 | s,(i,x)::r=>match ft i with
  | some f=>match tyT TT f with
   | some t=>zcu TT ft (s.dat x t) r
   | none=>zcu TT ft s r
  | none=>zcu TT ft s r
theorem zd3 (TT:List TE) (ft:Nat->Option Nat):∀ (l:List (Nat×Operand)) (s:ESt),Wk s (zcu TT ft s l)/\Sfx s (zcu TT ft s l)
 | [],s=>⟨Wk.refl s,Sfx.refl s⟩
 | (i,x)::r,s=>by
  simp only [zcu];split
  ·split
   ·rename_i t _;obtain ⟨h1,h2⟩:=zd3 TT ft r (s.dat x t);exact ⟨(zev s x t).trans h1,(Sfx.dat s x t).trans h2⟩
   ·exact zd3 TT ft r s
  ·exact zd3 TT ft r s
theorem zfy (x:EV):∀ (ks:List Nat) (s:ESt),(s.setAll ks x).nxt=s.nxt
 | [],_=>rfl
 | k::ks,s=>zfy x ks (s.set k x)
theorem zeP (te:Ty) (l:List te.den):∀ (ks:List Nat) (s:ESt),(ESt.setViews te l ks s).nxt=s.nxt
 | [],s=>rfl
 | k::ks,s=>by
  simp only [ESt.setViews];split
  ·cases Ty.beq _ te with
   | true=>exact zeP te l ks _
   | false=>exact zeP te l ks s
  ·exact zeP te l ks s
theorem ziD (s:ESt) (id:Nat) (te:Ty) (l:List te.den):(s.freezeArr id te l).nxt=s.nxt:=by
 unfold ESt.freezeArr;rw [zeP,zfy];rfl
theorem zqe {s s':ESt} {k:Nat} {t:Ty} (h:s.datify k t=some s'):s'.nxt=s.nxt:=by
 unfold ESt.datify at h;split at h
 ·split at h
  ·obtain ⟨_,h⟩:=zaa h;cases h;exact ziD _ _ _ _
  ·split at h
   ·obtain ⟨_,h⟩:=zaa h;cases h;rw [zfy];rfl
   ·cases h
  ·cases h
 ·split at h
  ·obtain ⟨_,h⟩:=zaa h;cases h;exact ziD _ _ _ _
  ·cases h
 ·obtain ⟨_,h⟩:=zaa h;cases h;rfl
 ·split at h
  ·cases h;rfl
  ·cases h
 ·cases h
theorem zpv (s:ESt) (x:Operand) (t:Ty):(s.dat0 x t).nxt=s.nxt:=by
 unfold ESt.dat0;split
 ·split
  ·rename_i h;exact zqe h
  ·rfl
 ·rfl
theorem zox (s:ESt) (id j:Nat):(s.boxDat1 id j).nxt=s.nxt:=by
 unfold ESt.boxDat1;split
 ·split
  ·split
   ·cases Nat.beq _ id<;>rfl
   ·split
    ·cases (!(Nat.beq _ id) && _ && _ && _)<;>rfl
    ·rfl
   ·rfl
  ·rfl
 ·rfl
theorem zlZ (id:Nat):∀ (n:Nat) (s:ESt) (k:Nat),(s.boxDat id k n).nxt=s.nxt
 | 0,s,_=>rfl
 | n+1,s,k=>(zlZ id n _ (k+1)).trans (zox s id k)
theorem zol (s:ESt) (id:Nat) (u:Ty):(s.treeify2 id u).nxt=s.nxt:=by
 unfold ESt.treeify2;split
 ·split
  ·cases u.chain with
   | false=>rfl
   | true=>simp only [cond_true];rw [zfy,zfy];rfl
  ·rfl
 ·rfl
theorem zpj (s:ESt) (k:Nat) (u:Ty):(s.treeify k u).nxt=s.nxt:=by
 unfold ESt.treeify;split
 ·split
  ·rw [zol,zlZ]
  ·rfl
 ·rfl
theorem ztC (s:ESt) (x:Operand) (t:Ty):(s.dat x t).nxt=s.nxt:=by
 unfold ESt.dat;split
 ·rw [zpv,zpj]
 ·exact zpv s x t
theorem zeu (TT:List TE) (ft:Nat->Option Nat):∀ (l:List (Nat×Operand)) (s:ESt),(zcu TT ft s l).nxt=s.nxt
 | [],_=>rfl
 | (i,x)::r,s=>by
  simp only [zcu];split
  ·split
   ·rw [zeu TT ft r,ztC]
   ·exact zeu TT ft r s
  ·exact zeu TT ft r s
theorem zn3 (k:Int) (b:Nat) (hb:0 < b) (h:k * b<=140737488355328):k<=9223372036854775807:=by
 by_cases h0:0<=k
 ·have:k * 1<=k * (b:Int):=Int.mul_le_mul_of_nonneg_left (by omega) h0;omega
 ·omega
def zjm (s:ESt) (g:Nat) (vals:List EV) (d:Nat) (pure:Bool) (K:ESt->Option R):List CE->Option R
 | []=>none
 | c::r=>bif Nat.beq c.f g && (!pure || c.sig.ents.isEmpty) then (match zfH s c vals d K with
  | some x=>x
  | none=>zjm s g vals d pure K r) else zjm s g vals d pure K r
theorem zgq {s:ESt} {g:Nat} {vals:List EV} {d:Nat} {pure:Bool} {K:ESt->Option R} {q:R}:∀ {Γ:List CE},zjm s g vals d pure K Γ=some q->∃ c∈Γ,c.f=g/\(pure=true->c.sig.ents=[])/\zfH s c vals d K=some (some q)
 | [],h=>by cases h
 | c::r,h=>by
  simp only [zjm] at h;cases hb:(Nat.beq c.f g && (!pure || c.sig.ents.isEmpty)) with
  | true=>
   rw [hb] at h;simp only [cond_true] at h;split at h
   ·rename_i x hx;subst h;simp only [Bool.and_eq_true] at hb;refine ⟨c,by simp,Nat.eq_of_beq_eq_true hb.1,fun hp => ?_,hx⟩;have:=hb.2;rw [hp] at this;simpa using this
   ·obtain ⟨c',h1,h2⟩:=zgq h;exact ⟨c',by simp [h1],h2⟩
  | false=>
   rw [hb] at h;obtain ⟨c',h1,h2⟩:=zgq (show zjm s g vals d pure K r=some q from h);exact ⟨c',by simp [h1],h2⟩
def zd5 (Γ:List CE) (s:ESt) (f:Operand) (args:Array Operand) (d:Nat) (pure:Bool) (K:ESt->Option R):Option R:=
 match s.ev f with
 | some (.fn g caps)=>match zjl s args.toList with
  | some vals=>bif Nat.blt d s.n then grd (zlR s (vals++caps)) (zjm s g (vals++caps) d pure K Γ) else none
  | none=>none
 | _=>none
def zc2:ESt->List Operand->ESt
 | s,[]=>s
 | s,x::r=>match s.ev x with
  | some (.own id)=>match s.ent id with
   | some (.arr _ t _)=>zc2 (s.dat x (.list t)) r
   | some (.out f _)=>match look s.rws f with
    | some (some q)=>zc2 (s.dat x (.list (.list q.t))) r
    | _=>zc2 s r
   | _=>zc2 s r
  | _=>zc2 s r
theorem ze7:∀ (l:List Operand) (s:ESt),Wk s (zc2 s l)/\Sfx s (zc2 s l)
 | [],s=>⟨Wk.refl s,Sfx.refl s⟩
 | x::r,s=>by
  simp only [zc2];split
  ·split
   ·rename_i t _ _;obtain ⟨h1,h2⟩:=ze7 r (s.dat x (.list t));exact ⟨(zev s x _).trans h1,(Sfx.dat s x _).trans h2⟩
   ·split
    ·rename_i q _;obtain ⟨h1,h2⟩:=ze7 r (s.dat x (.list (.list q.t)));exact ⟨(zev s x _).trans h1,(Sfx.dat s x _).trans h2⟩
    ·exact ze7 r s
   ·exact ze7 r s
  ·exact ze7 r s
def fitC (Γ:List CE) (s:ESt) (f:Operand) (args:Array Operand) (d:Nat) (pure:Bool):Bool:=match s.ev f with
 | some (.fn g caps)=>match zjl s args.toList with
  | some vals=>Γ.any fun c=>Nat.beq c.f g && (!pure || c.sig.ents.isEmpty) && (match zfH (R:=Unit) s c (vals++caps) d (fun _=>none) with
   | some _=>true
   | none=>false)
  | none=>false
 | _=>false
def zdB (TT:List TE):ESt->List EV->ESt
 | s,[]=>s
 | s,.ptr id _::r=>match s.ent id with
  | some (.box _ cs)=>zdB TT ((s.boxDat id 0 cs.length).freeze1 TT id) r
  | _=>zdB TT s r
 | s,_::r=>zdB TT s r
theorem zdY (TT:List TE):∀ (l:List EV) (s:ESt),Wk s (zdB TT s l)/\Sfx s (zdB TT s l)
 | [],s=>⟨Wk.refl s,Sfx.refl s⟩
 | y::r,s=>by
  cases y with
  | ptr id o=>
   simp only [zdB];split
   ·rename_i cs _;obtain ⟨h1,h2⟩:=zl4 TT (s.boxDat id 0 cs.length) id;obtain ⟨h3,h4⟩:=zdY TT r ((s.boxDat id 0 cs.length).freeze1 TT id);exact ⟨((ze5 id cs.length s 0).trans h1).trans h3,((Sfx.boxDat id cs.length s 0).trans h2).trans h4⟩
   ·exact zdY TT r s
  | _=>
   simp only [zdB];exact zdY TT r s
def ze6 (TT:List TE):ESt->List Operand->ESt
 | s,[]=>s
 | s,x::r=>match s.ev x with
  | some (.fn _ c)=>ze6 TT (zdB TT s c) r
  | _=>ze6 TT s r
theorem ziq (TT:List TE):∀ (l:List Operand) (s:ESt),Wk s (ze6 TT s l)/\Sfx s (ze6 TT s l)
 | [],s=>⟨Wk.refl s,Sfx.refl s⟩
 | x::r,s=>by
  simp only [ze6];split
  ·rename_i c _;obtain ⟨h1,h2⟩:=zdY TT c s;obtain ⟨h3,h4⟩:=ziq TT r (zdB TT s c);exact ⟨h1.trans h3,h2.trans h4⟩
  ·exact ziq TT r s
def zm4 (slots:List (Nat×SV)):Nat->List EV->List EV
 | _,[]=>[]
 | k,x::r=>match look slots k with
  | some (.addr _)=>x::zm4 slots (k+1) r
  | _=>zm4 slots (k+1) r
def zmx (TT:List TE) (Γ:List CE) (s:ESt) (f:Operand) (n:Nat):ESt:=match s.ev f with
 | some (.fn g caps)=>match Γ.find? (fun c=>Nat.beq c.f g) with
  | some c=>zdB TT s (zm4 c.sig.slots n caps)
  | none=>s
 | _=>s
theorem zqd (TT:List TE) (Γ:List CE) (s:ESt) (f:Operand) (n:Nat):Wk s (zmx TT Γ s f n)/\Sfx s (zmx TT Γ s f n):=by
 unfold zmx;split
 ·split
  ·exact zdY TT _ s
  ·exact ⟨Wk.refl s,Sfx.refl s⟩
 ·exact ⟨Wk.refl s,Sfx.refl s⟩
def ESt.cellDat (s:ESt) (id j:Nat):ESt:=match s.ent id with
 | some (.box _ cs)=>match cs[j]? with
  | some (.own id2)=>match s.ent id2 with
   | some (.out _ _)=>s.boxDat1 id j
   | _=>s
  | _=>s
 | _=>s
theorem zqa (s:ESt) (id j:Nat):Wk s (s.cellDat id j)/\Sfx s (s.cellDat id j):=by
 unfold ESt.cellDat;split
 ·split
  ·split
   ·exact ⟨zje _ _ _,Sfx.boxDat1 _ _ _⟩
   ·exact ⟨Wk.refl _,Sfx.refl _⟩
  ·exact ⟨Wk.refl _,Sfx.refl _⟩
 ·exact ⟨Wk.refl _,Sfx.refl _⟩
def ESt.cellsDat (id:Nat):Nat->ESt->ESt
 | 0,s=>s
 | j+1,s=>(ESt.cellsDat id j s).cellDat id j
theorem zkP (id:Nat):∀ (j:Nat) (s:ESt),Wk s (ESt.cellsDat id j s)/\Sfx s (ESt.cellsDat id j s)
 | 0,s=>⟨Wk.refl s,Sfx.refl s⟩
 | j+1,s=>by
  obtain ⟨h1,h2⟩:=zkP id j s;obtain ⟨h3,h4⟩:=zqa (ESt.cellsDat id j s) id j;exact ⟨h1.trans h3,h2.trans h4⟩
def zkN (s:ESt) (id:Nat):ESt:=match s.ent id with
 | some (.box _ cs)=>ESt.cellsDat id cs.length s
 | _=>s
theorem zp8 (s:ESt) (id:Nat):Wk s (zkN s id)/\Sfx s (zkN s id):=by
 unfold zkN;split
 ·exact zkP _ _ _
 ·exact ⟨Wk.refl _,Sfx.refl _⟩
def zjh:ESt->List Operand->ESt
 | s,[]=>s
 | s,x::r=>match s.ev x with
  | some (.view _ t _ _)=>zjh (s.dat x (.list t)) r
  | some (.ptr id _)=>zjh (zkN s id) r
  | _=>zjh s r
theorem zkp:∀ (l:List Operand) (s:ESt),Wk s (zjh s l)/\Sfx s (zjh s l)
 | [],s=>⟨Wk.refl s,Sfx.refl s⟩
 | x::r,s=>by
  simp only [zjh];split
  ·rename_i t _ _ _;obtain ⟨h1,h2⟩:=zkp r (s.dat x (.list t));exact ⟨(zev s x _).trans h1,(Sfx.dat s x _).trans h2⟩
  ·rename_i id _ _;obtain ⟨h0,h0'⟩:=zp8 s id;obtain ⟨h1,h2⟩:=zkp r (zkN s id);exact ⟨h0.trans h1,h0'.trans h2⟩
  ·exact zkp r s
def ESt.datV (s:ESt) (TT:List TE) (x:Operand) (T:Nat):ESt:=match s.ev x with
 | some (.view _ _ _ _)=>match tyT TT T with
  | some t=>s.dat x t
  | none=>s
 | _=>s
theorem zqY (s:ESt) (TT:List TE) (x:Operand) (T:Nat):Wk s (s.datV TT x T)/\Sfx s (s.datV TT x T):=by
 unfold ESt.datV;split
 ·split
  ·exact ⟨zev _ _ _,Sfx.dat _ _ _⟩
  ·exact ⟨Wk.refl _,Sfx.refl _⟩
 ·exact ⟨Wk.refl _,Sfx.refl _⟩
def zrK:List SV->List EV->List EV
 | .addr _::r,x::l=>x::zrK r l
 | _::r,_::l=>zrK r l
 | _,_=>[]
def zpI (s:ESt) (ents:List (Nat×SE)):List SV->List EV->List EV
 | .addr _::r,x::l=>x::zpI s ents r l
 | .ptr i _::r,.ptr id _::l=>(match look ents i,s.ent id with
  | some (.box _ svs),some (.box _ cs)=>zrK svs cs
  | _,_=>[])++zpI s ents r l
 | _::r,_::l=>zpI s ents r l
 | _,_=>[]
def znW (s:ESt) (sh:Shape):Nat->List EV->List EV
 | _,[]=>[]
 | k,.fn _ caps::r=>(match look sh.slots k with
  | some (.fn _ svs)=>zpI s sh.ents svs caps
  | _=>[])++znW s sh (k+1) r
 | k,_::r=>znW s sh (k+1) r
def zko (TT:List TE) (Γ:List CE) (s:ESt) (f:Operand) (args:Array Operand) (d:Nat) (pure:Bool):Option ESt:=match s.ev f with
 | some (.fn g _)=>match zjl s args.toList with
  | some vals=>match Γ.find? (fun c=>Nat.beq c.f g && !(znW s c.sig 0 vals).isEmpty && fitC Γ (zdB TT s (znW s c.sig 0 vals)) f args d pure) with
   | some c=>some (zdB TT s (znW s c.sig 0 vals))
   | none=>none
  | none=>none
 | _=>none
theorem zkT {TT:List TE} {Γ:List CE} {s s1:ESt} {f:Operand} {args:Array Operand} {d:Nat} {pure:Bool} (h:zko TT Γ s f args d pure=some s1):Wk s s1/\Sfx s s1:=by
 unfold zko at h;split at h
 ·split at h
  ·split at h
   ·cases h;exact zdY TT _ s
   ·cases h
  ·cases h
 ·cases h
def zmB (TT:List TE) (Γ:List CE) (s:ESt) (f:Operand) (args:Array Operand) (d:Nat) (pure:Bool) (K:ESt->Option R):Option R:=
 bif fitC Γ s f args d pure then zd5 Γ s f args d pure K else
  match zko TT Γ s f args d pure,zko TT Γ (zc2 s args.toList) f args d pure with
  | some s1,_=>zd5 Γ s1 f args d pure K
  | none,some s1=>zd5 Γ s1 f args d pure K
  | none,none=>
  bif fitC Γ (ze6 TT s args.toList) f args d pure then zd5 Γ (ze6 TT s args.toList) f args d pure K else
  bif fitC Γ (zc2 s args.toList) f args d pure then zd5 Γ (zc2 s args.toList) f args d pure K else
   bif fitC Γ (ze6 TT (zc2 s args.toList) args.toList) f args d pure then zd5 Γ (ze6 TT (zc2 s args.toList) args.toList) f args d pure K else
    zd5 Γ (zmx TT Γ (ze6 TT (zc2 s args.toList) args.toList) f args.size) f args d pure K
def ESt.nil1 (s:ESt) (id j E:Nat) (t:Ty):ESt:=match s.ent id with
 | some (.box T cs)=>match cs[j]? with
  | some .nil=>bif Nat.blt s.nxt LIM && Nat.blt 0 t.sz then (s.new (.arr E t ([]:List t.den))).put id (some (.box T (cs.set j (.own s.nxt)))) else s
  | _=>s
 | _=>s
theorem zm9 (s:ESt) (id j E:Nat) (t:Ty):Wk s (s.nil1 id j E t)/\Sfx s (s.nil1 id j E t):=by
 unfold ESt.nil1;split
 ·rename_i T cs he;split
  ·rename_i hj;have hj':(EV.avL cs)[j]? =some .nil:=by rw [zch,List.getElem?_map,hj];rfl
   cases hb:Nat.blt s.nxt LIM && Nat.blt 0 t.sz with
   | false=>exact ⟨Wk.refl _,Sfx.refl _⟩
   | true=>
    simp only [Bool.and_eq_true] at hb;refine ⟨⟨fun F a w ⟨H,r⟩=>⟨H.add s.nxt (.slice none 0 0),?_⟩,fun k t x hx=>hx⟩,(Sfx.new _ _).trans (Sfx.put _ _ _)⟩;have:=r.nilcell (E:=E) (bts:=t.bts) (by have:=hb.1;show s.nxt < LIM;simpa using this) (show 0 < t.sz by simpa using hb.2) (zat he) hj';rw [cond_true,zcp,zeF];simp only [Option.map,EEnt.ent,zhZ];exact this
  ·exact ⟨Wk.refl _,Sfx.refl _⟩
 ·exact ⟨Wk.refl _,Sfx.refl _⟩
def ztD (TT:List TE) (t:Nat):Option (Nat×Ty):=match zbs TT t with
 | some e=>match tyT TT e with
  | some te=>some (e,te)
  | none=>none
 | none=>none
def zuQ (TT:List TE) (T j:Nat):Option (Nat×Ty):=match fT TT T with
 | some ⟨_,.struct fs _,_,_,_,_,_⟩=>match fs.find? (fun p=>Nat.beq p.1 j) with
  | some (_,ft)=>ztD TT ft
  | none=>none
 | some ⟨_,.slice _,_,_,_,_,_⟩=>bif Nat.beq j 0 then ztD TT T else none
 | _=>none
def ESt.nilB (TT:List TE) (id T:Nat):Nat->ESt->ESt
 | 0,s=>s
 | j+1,s=>match zuQ TT T j with
  | some (E,t)=>(ESt.nilB TT id T j s).nil1 id j E t
  | none=>ESt.nilB TT id T j s
theorem zo3 (TT:List TE) (id T:Nat):∀ (j:Nat) (s:ESt),Wk s (ESt.nilB TT id T j s)/\Sfx s (ESt.nilB TT id T j s)
 | 0,s=>⟨Wk.refl _,Sfx.refl _⟩
 | j+1,s=>by
  obtain ⟨h1,h2⟩:=zo3 TT id T j s;simp only [ESt.nilB];split
  ·rename_i E t _;obtain ⟨h3,h4⟩:=zm9 (ESt.nilB TT id T j s) id j E t;exact ⟨h1.trans h3,h2.trans h4⟩
  ·exact ⟨h1,h2⟩
def zrT (TT:List TE) (s:ESt) (x:EV):ESt:=match x with
 | .ptr id _=>match s.ent id with
  | some (.box T cs)=>ESt.nilB TT id T cs.length s
  | _=>s
 | _=>s
theorem zsN (TT:List TE) (s:ESt) (x:EV):Wk s (zrT TT s x)/\Sfx s (zrT TT s x):=by
 unfold zrT;split
 ·split
  ·exact zo3 TT _ _ _ s
  ·exact ⟨Wk.refl _,Sfx.refl _⟩
 ·exact ⟨Wk.refl _,Sfx.refl _⟩
def zpP (TT:List TE):ESt->List EV->ESt
 | s,[]=>s
 | s,x::r=>zpP TT (zrT TT s x) r
theorem zn4 (TT:List TE):∀ (l:List EV) (s:ESt),Wk s (zpP TT s l)/\Sfx s (zpP TT s l)
 | [],s=>⟨Wk.refl _,Sfx.refl _⟩
 | x::r,s=>by
  obtain ⟨h1,h2⟩:=zsN TT s x;obtain ⟨h3,h4⟩:=zn4 TT r (zrT TT s x);exact ⟨h1.trans h3,h2.trans h4⟩
def nilP (TT:List TE) (s:ESt) (x:EV):ESt:=match x with
 | .ptr id _=>match s.ent id with
  | some (.box T cs)=>zpP TT (ESt.nilB TT id T cs.length s) cs
  | _=>s
 | _=>s
theorem zrU (TT:List TE) (s:ESt) (x:EV):Wk s (nilP TT s x)/\Sfx s (nilP TT s x):=by
 unfold nilP;split
 ·split
  ·rename_i T cs _;obtain ⟨h1,h2⟩:=zo3 TT _ T cs.length s;obtain ⟨h3,h4⟩:=zn4 TT cs _;exact ⟨h1.trans h3,h2.trans h4⟩
  ·exact ⟨Wk.refl _,Sfx.refl _⟩
 ·exact ⟨Wk.refl _,Sfx.refl _⟩
def zqt (TT:List TE):ESt->List EV->ESt
 | s,[]=>s
 | s,x::r=>zqt TT (nilP TT s x) r
theorem zna (TT:List TE):∀ (l:List EV) (s:ESt),Wk s (zqt TT s l)/\Sfx s (zqt TT s l)
 | [],s=>⟨Wk.refl _,Sfx.refl _⟩
 | x::r,s=>by
  obtain ⟨h1,h2⟩:=zrU TT s x;obtain ⟨h3,h4⟩:=zna TT r (nilP TT s x);exact ⟨h1.trans h3,h2.trans h4⟩
def zgS (TT:List TE):ESt->List EV->ESt
 | s,[]=>s
 | s,.fn _ c::r=>zgS TT (zqt TT s c) r
 | s,x::r=>zgS TT (nilP TT s x) r
theorem zjr (TT:List TE):∀ (l:List EV) (s:ESt),Wk s (zgS TT s l)/\Sfx s (zgS TT s l)
 | [],s=>⟨Wk.refl _,Sfx.refl _⟩
 | x::r,s=>by
  by_cases hx:∃ f c,x = .fn f c
  ·obtain ⟨f,c,rfl⟩:=hx;simp only [zgS];obtain ⟨h1,h2⟩:=zna TT c s;obtain ⟨h3,h4⟩:=zjr TT r (zqt TT s c);exact ⟨h1.trans h3,h2.trans h4⟩
  ·have e:zgS TT s (x::r)=zgS TT (nilP TT s x) r:=by
    cases x<;>first | rfl | exact absurd ⟨_,_,rfl⟩ hx
   rw [e];obtain ⟨h1,h2⟩:=zrU TT s x;obtain ⟨h3,h4⟩:=zjr TT r (nilP TT s x);exact ⟨h1.trans h3,h2.trans h4⟩
def zk2 (TT:List TE) (s:ESt) (f:Operand) (args:List Operand):ESt:=match s.ev f with
 | some (.fn g caps)=>match zjl s args with
  | some vals=>zgS TT s (vals++[.fn g caps])
  | none=>s
 | _=>s
theorem znP (TT:List TE) (s:ESt) (f:Operand) (args:List Operand):Wk s (zk2 TT s f args)/\Sfx s (zk2 TT s f args):=by
 unfold zk2;split
 ·split
  ·exact zjr TT _ s
  ·exact ⟨Wk.refl _,Sfx.refl _⟩
 ·exact ⟨Wk.refl _,Sfx.refl _⟩
def zpw (TT:List TE) (Γ:List CE) (s:ESt) (f:Operand) (args:Array Operand) (d:Nat) (pure:Bool) (K:ESt->Option R):Option R:=
 bif !(fitC Γ (zjh s args.toList) f args d pure) && fitC Γ (zk2 TT (zjh s args.toList) f args.toList) f args d pure then
  zd5 Γ (zk2 TT (zjh s args.toList) f args.toList) f args d pure K else zmB TT Γ (zjh s args.toList) f args d pure K
def znf (TT:List TE):List (Nat×Nat)->Option (List (Nat×Nat))
 | []=>some []
 | (off,ft)::r=>match fT TT ft with
  | some e=>match znf TT r with
   | some l=>some ((off,e.size)::l)
   | none=>none
  | none=>none
theorem zjT {P:Program} {TT:List TE} (hT:TOK P TT):∀ {fa:List Field} {ps:List (Nat×Nat)},znf TT (fa.map fun f=>(f.offset,f.type))=some ps->fa.mapM (fun f=>(P.info? f.type).map fun i=>(f.offset,i.size))=some ps
 | [],ps,h=>by cases h;rfl
 | f::fa,ps,h=>by
  simp only [List.map_cons,znf] at h;split at h
  ·rename_i e he;split at h
   ·rename_i l hl;cases h;obtain ⟨h1,h2⟩:=zaQ hT he;obtain ⟨i,h3,h4,_⟩:=h1.ti.inf;rw [h2] at h3;rw [List.mapM_cons,h3,zjT hT hl,<- h4];rfl
   ·cases h
  ·cases h
def EV.isNil:EV->Bool
 | .nil=>true
 | _=>false
def zsO (u:Option Ty) (cs:List EV) (K:EV->Option R):Option R:=bif cs.any EV.isNil then K (.agg cs) else match u with
 | some u=>match zjs u cs with
  | some (y,[])=>bif u.agg then K (.d u y) else none
  | _=>K (.agg cs)
 | none=>K (.agg cs)
theorem zmc {u:Option Ty} {cs:List EV} {K:EV->Option R} {q:R} (h:zsO u cs K=some q):∃ x,Conv (.agg (EV.avL cs)) x.av/\K x=some q:=by
 unfold zsO at h;cases hn:cs.any EV.isNil
 case true=>rw [hn] at h;exact ⟨_,Conv.refl _,h⟩
 rw [hn] at h;simp only [cond_false] at h;split at h
 ·rename_i u;split at h
  ·rename_i y hy;have hb:=(zaa h).1;replace h:=(zaa h).2;obtain ⟨l1,h1,h2⟩:=zcI hy;rw [List.append_nil] at h1;subst h1;refine ⟨_,?_,h⟩;intro w S H v hv;show VRel w S H (.d (encD u y)) v;rw [zbz hb];exact VRel.packn hv h2
  ·exact ⟨_,Conv.refl _,h⟩
 ·exact ⟨_,Conv.refl _,h⟩
def zmA (TT:List TE) (s:ESt) (t:Nat) (parts:List (Nat×Operand)) (K:EV->Option R):Option R:=match fT TT t with
 | some e=>match zkr s parts with
  | some xs=>match e.z with
   | .agg zs=>match e.td with
    | .struct fs _=>match znf TT fs with
     | some places=>match zqj (fun i=>places[i]?) (zs.toList.map EV.con) xs with
      | some cs=>zsO e.ty cs K
      | none=>none
     | none=>none
    | .array _ el=>match fT TT el with
     | some E=>match zqj (fun i=>some (i * E.size,E.size)) (zs.toList.map EV.con) xs with
      | some cs=>zsO e.ty cs K
      | none=>none
     | none=>none
    | _=>none
   | _=>none
  | none=>none
 | none=>none
theorem zqU (zs:Array Value):EV.avL (zs.toList.map EV.con)=zs.toList.map avc:=by
 rw [zch,List.map_map];exact List.map_congr_left fun v _=>zpt v
section
variable {P:Program} {TT:List TE} {F:Fr} {s:ESt} {o:Oper} {q:R}
theorem zis (hT:TOK P TT) {K:EV->Option R} {t:Nat} {parts:Array (Nat×Operand)} (ho:o.op = .build t parts) (h:zmA TT s t parts.toList K=some q):∃ z,RO P F s.st o z.av/\K z=some q:=by
 unfold zmA at h;split at h
 ·rename_i e he;split at h
  ·rename_i xs hxs;split at h
   ·rename_i zs hz;obtain ⟨hte,rfl⟩:=zaQ hT he;have hti:=hte.ti;rw [hz] at hti;split at h
    ·rename_i fs _ htd;split at h
     ·rename_i places hp;split at h
      ·rename_i cs hcs;obtain ⟨x,hx,hk⟩:=zmc h;have htd':=hte.td;rw [htd] at htd';obtain ⟨⟨fa,hu,hfs⟩,_⟩:=htd';rw [<- hfs] at hp;refine ⟨x,RO.conv ?_ hx,hk⟩;have hf:=zmT hcs;rw [zqU] at hf;exact RO.build ho hu hti (zjT hT hp) (zfJ hxs) hf
      ·cases h
     ·cases h
    ·rename_i n el htd;split at h
     ·rename_i E hE;split at h
      ·rename_i cs hcs;obtain ⟨x,hx,hk⟩:=zmc h;have htd':=hte.td;rw [htd] at htd';obtain ⟨hEk,rfl⟩:=zaQ hT hE;refine ⟨x,RO.conv ?_ hx,hk⟩;have hf:=zmT hcs;rw [zqU] at hf;exact RO.buildA ho htd' hti hEk.ti (zfJ hxs) hf
      ·cases h
     ·cases h
    ·cases h
   ·cases h
  ·cases h
 ·cases h
end
theorem AL.ro {P:Program} {F:Fr} {σ:St} {o:Oper} {d:Nat} {x:AV} (hd:o.dst=some d) (hlt:Nat.blt d σ.n=true) (h:RO P F σ o x):AL P F σ o (·=σ.set d x):=by
 intro a w ⟨H,r⟩;obtain ⟨v,hv,hx⟩:=h H a w r;have hlt':d < σ.n:=by simpa using hlt
 have r':=r.set hlt' hx;rw [<- hd] at r';exact zjb hv ⟨⟨v,rfl⟩,Ext.refl w,_,rfl,H,r'⟩
def evA (TT:List TE) (Γ:List CE) (s:ESt) (o:Oper) (K:ESt->Option R):Option R:=match o.dst with
 | none=>none
 | some d=>bif Nat.blt s.nxt LIM && Nat.blt d s.n then (match o.op with
  | .box T x=>match (frzV TT s (s.ev x)).ev x with
   | some v=>match v.cellsOf with
    | some cs=>K (((frzV TT s (s.ev x)).new (.box T cs)).set d (.ptr s.nxt 0))
    | none=>none
   | none=>none
  | .alloc T=>match fT TT T with
   | some e=>match (EV.con e.z).cellsOf with
    | some cs=>K ((s.new (.box T cs)).set d (.ptr s.nxt 0))
    | none=>none
   | none=>none
  | .buildSlice t n parts=>match zbs TT t with
   | some e=>match tyT TT e with
    | some te=>match zmJ (zcu TT (fun _=>some e) s parts.toList) te parts.toList 0 with
     | some ys=>bif Nat.blt 0 te.sz && Nat.beq n parts.toList.length && Nat.ble (n * te.bts) most && Nat.ble (n * te.sz) 16777216 then
       K (((zcu TT (fun _=>some e) s parts.toList).new (.arr e te ys)).set d (.own s.nxt)) else none
     | none=>none
    | none=>none
   | none=>none
  | .makeSlice t l c=>match zbs TT t with
   | some e=>match tyT TT e with
    | some te=>match s.ev l,s.ev c with
     | some (.d (.int .i64) m),some (.d (.int .i64) k)=>bif Nat.blt 0 te.sz && Nat.blt 0 te.bts then
       G (mkOK m k te.bts) (K ((s.new (.arr e te (List.replicate m.toNat te.dflt))).set d (.own s.nxt))) else none
     | _,_=>none
    | none=>none
   | none=>none
  | .call c=>match c.callee with
   | .value f=>zpw TT Γ s f c.args d true K
   | _=>none
  | .slice t x none (some y) none=>match zbs TT t with
   | some e=>match tyT TT e with
    | some te=>match s.ev x,s.ev y with
     | some (.own k),some (.d (.int .i64) j)=>match s.ent k with
      | some (.arr E te' l)=>bif Ty.beq te' te then G (0<=j/\j<=(l.length:Int)) (K (((s.put k none).new (.arr E te' (l.take j.toNat))).set d (.own s.nxt))) else none
      | _=>none
     | _,_=>none
    | none=>none
   | none=>none
  | .slice t x (some y) none none=>match zbs TT t with
   | some e=>match tyT TT e with
    | some te=>match s.ev x,s.ev y with
     | some (.own k),some (.d (.int .i64) j)=>match s.ent k with
      | some (.arr E te' l)=>bif Ty.beq te' te then G (0<=j/\j<=(l.length:Int)) (K (((s.put k none).new (.arr E te' (l.drop j.toNat))).set d (.own s.nxt))) else none
      | _=>none
     | _,_=>none
    | none=>none
   | none=>none
  | .build t parts=>zmA TT s t parts.toList fun x=>K (s.set d x)
  | .load t x=>match fT TT t with
   | some e=>match s.ev x with
    | some (.ptr id k)=>match s.ent id with
     | some (.box _ cs)=>bif e.ag && Nat.ble (k+e.size) cs.length then K (s.set d (.agg ((cs.drop k).take e.size))) else none
     | _=>none
    | _=>none
   | none=>none
  | .makeMap t none=>match mapT TT t with
   | some (kt,et)=>match tyT TT kt,tyT TT et with
    | some k,some v=>K ((s.new (.box t [.d (.list k) ([]:List k.den),.d (.list v) ([]:List v.den)])).set d (.own s.nxt))
    | _,_=>none
   | none=>none
  | _=>none) else none
def zrn (TT:List TE) (s:ESt) (t:Nat) (x y c:Operand) (K:ESt->Option R):Option R:=match mapT TT t with
 | some _=>match s.ev x with
  | some (.own id)=>match s.ent id with
   | some (.box T [.d (.list k) ks,.d (.list v) vs])=>bif skT TT t k then (match s.ev y,s.ev c with
    | some yv,some cv=>match yv.exact k,cv.exact v with
     | some key,some el=>K (s.put id (some (.box T [.d (.list k) (zcj ks key),.d (.list v) (zlN ks vs key el)])))
     | _,_=>none
    | _,_=>none) else none
   | _=>none
  | _=>none
 | none=>none
def zsw (TT:List TE) (s:ESt) (t:Nat) (x y c:Operand) (K:ESt->Option R):Option R:=match s.ev x with
 | some (.own id)=>match s.ent id with
  | some (.box _ [.d _ _,.d (.list v) _])=>zrn TT (s.dat c v) t x y c K
  | _=>none
 | _=>none
def zrm (TT:List TE) (s:ESt) (t:Nat) (x y:Operand) (d:Nat) (K:ESt->Option R):Option R:=match mapT TT t with
 | some (_,et)=>match s.ev x with
  | some (.own id)=>match s.ent id with
   | some (.box T [.d (.list k) ks,.d (.list v) vs])=>bif skT TT t k && zs6 TT et v && Nat.blt d s.n then (match s.ev y with
    | some yv=>match yv.exact k with
     | some key=>K ((s.put id (some (.box T [.d (.list k) (zcj ks key),.d (.list v) (zeq ks vs key v.dflt)]))).set d (.tup [.d v (mget ks vs key v.dflt),.d (.int .i64) (mpos ks key)]))
     | none=>none
    | none=>none) else none
   | _=>none
  | _=>none
 | none=>none
def zrg (s:ESt) (x y c:Operand) (K:ESt->Option R):Option R:=match s.ev x with
 | some (.own id)=>match s.ent id with
  | some (.box T [.d (.list k) ks,.d (.list v) vs])=>match s.ev y,s.ev c with
   | some (.d (.int .i64) p),some cv=>match cv.exact v with
    | some el=>G (0<=p/\p < (vs.length:Int)) (K (s.put id (some (.box T [.d (.list k) ks,.d (.list v) (vs.set (Int.toNat p) el)]))))
    | none=>none
   | _,_=>none
  | _=>none
 | _=>none
def ztG (s:ESt) (x y c:Operand) (K:ESt->Option R):Option R:=match s.ev x with
 | some (.own id)=>match s.ent id with
  | some (.box _ [.d _ _,.d (.list v) _])=>zrg (s.dat c v) x y c K
  | _=>none
 | _=>none
def zuW (s:ESt) (y:Operand) (te:Ty):Option (List te.den):=match s.ev y with
 | some (.d ty yv)=>zaL ty (.list te) yv
 | some (.own id)=>match s.ent id with
  | some (.arr _ ty yv)=>zaL (.list ty) (.list te) yv
  | _=>none
 | some .nil=>some ([]:List te.den)
 | _=>none
def ztc (s:ESt) (y:Operand) (te:Ty):Option (Option (Nat×Nat×List te.den)):=match s.ev y with
 | some (.view id t i n)=>match s.ent id with
  | some (.arr _ ty yv)=>bif Ty.beq t te then (match zaL (.list ty) (.list te) yv with
   | some l=>some (some (i,n,l))
   | none=>some none) else some none
  | _=>some none
 | _=>none
def zlC {R:Type} (s:ESt) (y:Operand) (te:Ty) (K:List te.den->Option R):Option R:=match ztc s y te with
 | some (some (i,n,l))=>G (i+n<=l.length) (K ((l.drop i).take n))
 | some none=>none
 | none=>match zuW s y te with
  | some ys=>K ys
  | none=>none
theorem zg7 {R:Type} {s:ESt} {y:Operand} {te:Ty} {K:List te.den->Option R} {q:R} (h:zlC s y te K=some q):∃ ys,Src s.st y (α:=te.den) ys/\K ys=some q:=by
 unfold zlC at h;split at h
 ·rename_i i n l hv;obtain ⟨hg,h⟩:=zaF h;refine ⟨_,?_,h⟩;unfold ztc at hv;split at hv
  ·rename_i id t i' n' h1;split at hv
   ·rename_i E ty yv h2;cases hb:Ty.beq t te with
    | false=>rw [hb] at hv;cases hv
    | true=>
     rw [hb] at hv;simp only [cond_true] at hv;split at hv
     ·rename_i l' hl;cases hv;have:=Ty.eq_of_beq hb;subst this;obtain ⟨e',rfl⟩:=zaz hl;cases e';exact .inr (.inr (.inr ⟨id,E,i,n,_,zah h1,zat h2,rfl,hg⟩))
     ·cases hv
   ·cases hv
  ·cases hv
 ·cases h
 ·split at h
  ·rename_i ys hys;refine ⟨ys,?_,h⟩;unfold zuW at hys;split at hys
   ·rename_i ty yv h1;obtain ⟨rfl,rfl⟩:=zaz hys;exact .inl (zah h1)
   ·rename_i id h1;split at hys
    ·rename_i E ty yv h2;obtain ⟨e',rfl⟩:=zaz hys;cases e';exact .inr (.inl ⟨id,E,zah h1,zat h2⟩)
    ·cases hys
   ·rename_i h1;cases hys;exact .inr (.inr (.inl ⟨zah h1,rfl⟩))
   ·cases hys
  ·cases h
def zrc (TT:List TE) (s:ESt) (x y:Operand) (t:Nat) (d:Nat) (K:ESt->Option R):Option R:=match zbs TT t with
 | some e=>match tyT TT e with
  | some te=>bif Nat.blt d s.n then zlC s y te (fun ys=>match s.ev x with
    | some (.own k)=>match s.ent k with
     | some (.arr E ty xv)=>match zaL (.list ty) (.list te) xv with
      | some xs=>K ((s.put k (some (.arr E te (ys.take xs.length++xs.drop ys.length)))).set d (.d (.int .i64) ((min ys.length xs.length:Nat):Int)))
      | none=>none
     | _=>none
    | some (.view k t2 i m)=>match s.ent k with
     | some (.arr E ty xv)=>match zaL (.list ty) (.list te) xv with
      | some xs=>bif Ty.beq t2 te then G (i+m<=xs.length) (K ((s.put k (some (.arr E te (xs.take i++ys.take (min ys.length m)++xs.drop (i+min ys.length m))))).set d (.d (.int .i64) ((min ys.length m:Nat):Int)))) else none
      | none=>none
     | _=>none
    | _=>none) else none
  | none=>none
 | none=>none
def zoH (TT:List TE) (s:ESt) (x:Operand) (t:Nat) (K:ESt->Option R):Option R:=match zbs TT t with
 | some e=>match tyT TT e with
  | some te=>match s.ev x with
   | some (.view k t2 i m)=>match s.ent k with
    | some (.arr E ty xv)=>match zaL (.list ty) (.list te) xv with
     | some xs=>bif Ty.beq t2 te then G (i+m<=xs.length) (K (s.put k (some (.arr E te (xs.take i++List.replicate m te.dflt++xs.drop (i+m)))))) else none
     | none=>none
    | _=>none
   | _=>none
  | none=>none
 | none=>none
def zmz (TT:List TE) (s:ESt) (x y:Operand) (t:Nat) (d:Nat) (K:ESt->Option R):Option R:=match zbs TT t with
 | some e=>match tyT TT e with
  | some te=>bif Nat.blt 0 te.sz && Nat.blt 0 te.bts && Nat.blt s.nxt LIM && Nat.blt d s.n then zlC s y te (fun ys=>match s.ev x with
    | some (.own k)=>match s.ent k with
     | some (.arr E ty xv)=>match zaL (.list ty) (.list te) xv with
      | some xs=>bif Nat.beq E e then G (room xs ys te.bts) (K (((s.put k none).new (.arr e te (xs++ys))).set d (.own s.nxt))) else none
      | none=>none
     | _=>none
    | some .nil=>G (room ([]:List te.den) ys te.bts) (K ((s.new (.arr e te ys)).set d (.own s.nxt)))
    | some (.full ty xv)=>match zaL (.list ty) (.list te) xv with
     | some xs=>G (0 < ys.length/\room xs ys te.bts) (K ((s.new (.arr e te (xs++ys))).set d (.own s.nxt)))
     | none=>none
    | _=>none) else none
  | none=>none
 | none=>none
def intT (TT:List TE) (id:Nat):Option IntKind:=match fT TT id with
 | some ⟨_,.int k,_,_,_,_,_⟩=>some k
 | _=>none
theorem zrA {P:Program} {TT:List TE} {id:Nat} {k:IntKind} (hT:TOK P TT) (h:intT TT id=some k):P.underlying id=some (.int k):=by
 unfold intT at h;split at h
 ·rename_i he;cases h;obtain ⟨h1,h2⟩:=zaQ hT he;cases h2;exact h1.td
 ·cases h
def zkW (TT:List TE) (s:ESt) (x y:Operand) (t u:Nat) (d:Nat) (K:ESt->Option R):Option R:=match zbs TT t with
 | some e=>match tyT TT e with
  | some te=>match intT TT u,s.ev x,s.ev y with
   | some _,some .nil,some (.d (.int .i64) n)=>bif Nat.blt 0 te.sz && Nat.blt 0 te.bts && Nat.blt s.nxt LIM && Nat.blt d s.n then
     G (0 < n/\n * (te.bts:Int)<=140737488355328) (K ((s.new (.arr e te (List.replicate n.toNat te.dflt))).set d (.own s.nxt))) else none
   | _,_,_=>none
  | none=>none
 | none=>none
def zmP (TT:List TE) (s:ESt) (t:Nat) (x y:Operand) (K:ESt->Option R):Option R:=match s.ev x with
 | some (.ptr id k)=>match s.ent id with
  | some (.box T cs)=>match fT TT t with
   | some e=>match s.ev y with
    | some v=>match v.cellsOf with
     | some ys=>bif ys.all EV.oneB && Nat.beq ys.length e.size && Nat.ble (k+e.size) cs.length then
       K (s.put id (some (.box T (zoe cs k ys)))) else none
     | none=>none
    | none=>none
   | none=>none
  | _=>none
 | some (.eptr id te j k)=>match tyT TT t with
  | some u=>match (s.dat y u).ev y with
   | some v=>match v.exact u with
    | some c=>match (s.dat y u).ent id with
     | some (.arr E te' l)=>bif Ty.beq te te' then (match (s.dat y u).ev x with
       | some (.eptr id2 te2 j2 k2)=>bif Nat.beq id2 id && Ty.beq te2 te' && Nat.beq k2 k then (match zpf te' (l.getD j2 te'.dflt) k u c with
        | some z=>G (j2 < l.length) (K ((s.dat y u).put id (some (.arr E te' (l.set j2 z)))))
        | none=>none) else none
       | _=>none) else none
     | _=>none
    | none=>none
   | none=>none
  | none=>none
 | _=>none
def vecE (te:Ty) (l:List te.den) (n:Nat):List EV:=(List.range n).map fun i => .d te (l.getD i te.dflt)
def zmQ (TT:List TE) (s:ESt) (t:Nat) (x y:Operand) (K:ESt->Option R):Option R:=match s.ev x with
 | some (.vptr id off n te j)=>match s.ent id with
  | some (.box T cs)=>match fT TT t with
   | some e=>bif Nat.beq e.size 1 && !te.agg then (match znY te n (cs.drop off) with
    | some l=>match s.ev y with
     | some v=>match v.exact te with
      | some c=>G (j < n) (K (s.put id (some (.box T (zoe cs off (vecE te (l.set j c) n))))))
      | none=>none
     | none=>none
    | none=>none) else none
   | none=>none
  | _=>none
 | _=>none
def zmO (TT:List TE) (s:ESt) (t:Nat) (x y:Operand) (K:ESt->Option R):Option R:=zmP TT (frzV TT s (s.ev y)) t x y K
def evE (TT:List TE) (Γ:List CE) (s:ESt) (o:Oper) (K:ESt->Option R):Option R:=match o.op,o.dst with
 | .store t x y,none=>bif zpG s x then zmQ TT s t x y K else zmO TT s t x y K
 | .mapUpdate t x y c,none=>zsw TT s t x y c K
 | .insert t x y c,none=>zsw TT s t x y c K
 | .mapEntry t x y,some d=>zrm TT s t x y d K
 | .entryStore _ x y c,none=>ztG s x y c K
 | .call c,some d=>match c.callee,c.args.toList,c.argTypes.toList with
  | .builtin .append,[x,y],[t,t']=>bif Nat.beq t t' then zmz TT s x y t d K else zkW TT s x y t t' d K
  | .builtin .copy,[x,y],[t,_]=>zrc TT s x y t d K
  | .value f,_,_=>zpw TT Γ s f c.args d false K
  | _,_,_=>none
 | .call c,none=>match c.callee,c.args.toList,c.argTypes.toList with
  | .builtin .clear,[x],[t]=>zoH TT s x t K
  | _,_,_=>none
 | _,_=>evA TT Γ s o K
section
variable {P:Program} {TT:List TE} {Γ:List CE} {F:Fr} {s:ESt} {o:Oper} {K:ESt->Option R} {q:R}
def Post (s:ESt) (K:ESt->Option R) (q:R) (σ':St):Prop:=∃ s',σ'=s'.st/\Sfx s s'/\K s'=some q
theorem AL.post {σ:St} {p p':St->Prop} (h:AL P F σ o p) (hp:∀ x,p x->p' x):AL P F σ o p':=
 fun a w r=>Oper.wp_mono2 (fun _ _ ⟨h1,h2,x,h3,h4⟩=>⟨h1,h2,x,hp x h3,h4⟩) (fun _ _ _ h=>h) (h a w r)
theorem EF.post {σ:St} {p p':St->Prop} (h:EF P F σ o p) (hp:∀ x,p x->p' x):EF P F σ o p':=
 fun a w r=>Oper.wp_mono2 (fun _ _ ⟨h0,x,h3,h4⟩=>⟨h0,x,hp x h3,h4⟩) (fun _ _ _ h=>h) (h a w r)
theorem zfG (hG:GOK P Γ) {f:Operand} {args:Array Operand} {ts:Array TypeId} {d:Nat} {pure:Bool} (hd:o.dst=some d) (ho:o.op = .call { callee := .value f,args:=args,argTypes:=ts })
  (h:zd5 Γ s f args d pure K=some q):∀ (a:Act) (w:World),Rel F s.st a w->o.wp P a w (fun a' w'=>((∃ u,a'=a.put o.dst u)/\(pure=true->Ext w w'))/\∃ σ',Post s K q σ'/\Rel F σ' a' w') (fun _ _ _=>False):=by
 unfold zd5 at h;split at h
 ·rename_i g caps hf;split at h
  ·rename_i vals hv;have hb:=(zaa h).1;replace h:=(zaa h).2;obtain ⟨hrg,h⟩:=zm0 h;obtain ⟨c,hc,hcf,hpure,hat⟩:=zgq h;intro a w r;refine Oper.wp_mono2 (fun a' w' hh => ?_) (fun _ _ _ h=>h) (zhJ (hG c hc) hd hb ho (by rw [hcf];exact hf) hv hrg hat a w r);exact ⟨⟨hh.1.1,fun hp=>hh.1.2 (hpure hp)⟩,hh.2⟩
  ·cases h
 ·cases h
theorem zit (hG:GOK P Γ) {f:Operand} {args:Array Operand} {ts:Array TypeId} {d:Nat} {pure:Bool} (hd:o.dst=some d) (ho:o.op = .call { callee := .value f,args:=args,argTypes:=ts })
  (h:zmB TT Γ s f args d pure K=some q):∀ (a:Act) (w:World),Rel F s.st a w->o.wp P a w (fun a' w'=>((∃ u,a'=a.put o.dst u)/\(pure=true->Ext w w'))/\∃ σ',Post s K q σ'/\Rel F σ' a' w') (fun _ _ _=>False):=by
 unfold zmB at h;cases hb:fitC Γ s f args d pure with
 | true=>rw [hb] at h;exact zfG hG hd ho h
 | false=>
  rw [hb,cond_false] at h;have go:∀ s0:ESt,Wk s s0->Sfx s s0->zd5 Γ s0 f args d pure K=some q->∀ (a:Act) (w:World),Rel F s.st a w->o.wp P a w (fun a' w'=>((∃ u,a'=a.put o.dst u)/\(pure=true->Ext w w'))/\∃ σ',Post s K q σ'/\Rel F σ' a' w') (fun _ _ _=>False):=by
   intro s0 h1 h2 h a w r;refine Oper.wp_mono2 (fun a' w' ⟨g1,σ',⟨s',e1,e2,e3⟩,g3⟩ => ?_) (fun _ _ _ h=>h) (zfG hG hd ho h a w (h1.rel F a w r));exact ⟨g1,σ',⟨s',e1,h2.trans e2,e3⟩,g3⟩
  obtain ⟨h1,h2⟩:=ze7 args.toList s;split at h
  ·rename_i s1 e1;obtain ⟨u1,u2⟩:=zkT e1;exact go _ u1 u2 h
  ·rename_i s1 _ e1;obtain ⟨v1,v2⟩:=zkT e1;exact go _ (h1.trans v1) (h2.trans v2) h
  ·obtain ⟨k1,k2⟩:=ziq TT args.toList s;cases hb0:fitC Γ (ze6 TT s args.toList) f args d pure with
   | true=>rw [hb0] at h;exact go _ k1 k2 h
   | false=>
   rw [hb0,cond_false] at h;cases hb2:fitC Γ (zc2 s args.toList) f args d pure with
   | true=>rw [hb2] at h;exact go _ h1 h2 h
   | false=>
    rw [hb2] at h;obtain ⟨h3,h4⟩:=ziq TT args.toList (zc2 s args.toList);rw [cond_false] at h;cases hb3:fitC Γ (ze6 TT (zc2 s args.toList) args.toList) f args d pure with
    | true=>rw [hb3] at h;exact go _ (h1.trans h3) (h2.trans h4) h
    | false=>
     rw [hb3] at h;obtain ⟨h5,h6⟩:=zqd TT Γ (ze6 TT (zc2 s args.toList) args.toList) f args.size;exact go _ ((h1.trans h3).trans h5) ((h2.trans h4).trans h6) h
theorem zjK (hG:GOK P Γ) {f:Operand} {args:Array Operand} {ts:Array TypeId} {d:Nat} {pure:Bool} (hd:o.dst=some d) (ho:o.op = .call { callee := .value f,args:=args,argTypes:=ts })
  (h:zpw TT Γ s f args d pure K=some q):∀ (a:Act) (w:World),Rel F s.st a w->o.wp P a w (fun a' w'=>((∃ u,a'=a.put o.dst u)/\(pure=true->Ext w w'))/\∃ σ',Post s K q σ'/\Rel F σ' a' w') (fun _ _ _=>False):=by
 intro a w r;obtain ⟨h1,h2⟩:=zkp args.toList s;unfold zpw at h;cases hb : !(fitC Γ (zjh s args.toList) f args d pure) && fitC Γ (zk2 TT (zjh s args.toList) f args.toList) f args d pure with
 | true=>
  rw [hb,cond_true] at h;obtain ⟨h3,h4⟩:=znP TT (zjh s args.toList) f args.toList;refine Oper.wp_mono2 (fun a' w' ⟨g1,σ',⟨s',e1,e2,e3⟩,g3⟩ => ?_) (fun _ _ _ h=>h) (zfG hG hd ho h a w ((h1.trans h3).rel F a w r));exact ⟨g1,σ',⟨s',e1,(h2.trans h4).trans e2,e3⟩,g3⟩
 | false=>
 rw [hb,cond_false] at h;refine Oper.wp_mono2 (fun a' w' ⟨g1,σ',⟨s',e1,e2,e3⟩,g3⟩ => ?_) (fun _ _ _ h=>h) (zit hG hd ho h a w (h1.rel F a w r));exact ⟨g1,σ',⟨s',e1,h2.trans e2,e3⟩,g3⟩
theorem znC (hT:TOK P TT) (hG:GOK P Γ) (h:evA TT Γ s o K=some q):∃ s0,Wk s s0/\Sfx s s0/\AL P F s0.st o (Post s K q):=by
 unfold evA at h;split at h
 ·cases h
 ·rename_i d hd;have hb:=(zaa h).1;replace h:=(zaa h).2;simp only [Bool.and_eq_true] at hb;split at h
  ·rename_i T x ho;split at h
   ·rename_i v hv;split at h
    ·rename_i cs hcs;obtain ⟨h1,h2⟩:=zet hcs;obtain ⟨hw,hs⟩:=zry TT s (s.ev x);have hnxt:=zsC TT s (s.ev x);generalize frzV TT s (s.ev x)=s0 at h hv hw hs hnxt;refine ⟨s0,hw,hs,(AL.box (P:=P) (F:=F) (σ:=s0.st) s0.nxt rfl (by rw [hnxt];exact hb.1) hd (by show Nat.blt d s0.n=true;rw [hs.n];exact hb.2) ho (zah hv) h2).post fun x hx => ?_⟩;subst hx;exact ⟨_,by rw [zcY,zeF,h1,<- hnxt];rfl,hs.trans ((Sfx.new _ _).trans (Sfx.set _ _ _)),h⟩
    ·cases h
   ·cases h
  ·rename_i T ho;split at h
   ·rename_i e he;split at h
    ·rename_i cs hcs;obtain ⟨h1,h2⟩:=zet hcs;rw [zpt] at h1 h2;obtain ⟨hte,rfl⟩:=zaQ hT he;refine ⟨s,Wk.refl _,Sfx.refl _,(AL.alloc (P:=P) (F:=F) (σ:=s.st) s.nxt rfl hb.1 hd hb.2 ho hte.ti h2).post fun x hx => ?_⟩;subst hx;exact ⟨_,by rw [zcY,zeF,h1];rfl,(Sfx.new _ _).trans (Sfx.set _ _ _),h⟩
    ·cases h
   ·cases h
  ·rename_i t n parts ho;split at h
   ·rename_i e he;split at h
    ·rename_i te hte;split at h
     ·rename_i ys hys;have hb2:=(zaa h).1;replace h:=(zaa h).2;simp only [Bool.and_eq_true] at hb2;obtain ⟨⟨⟨g1,g2⟩,g3⟩,g4⟩:=hb2;obtain ⟨hw,hs⟩:=zd3 TT (fun _=>some e) parts.toList s;generalize hs0:zcu TT (fun _=>some e) s parts.toList=s0 at h hys hw hs;obtain ⟨z,hz,hzc⟩:=zaK hT hte;have g1':0 < te.sz:=by simpa using g1
      obtain ⟨k1,xs,k2,k3⟩:=zjL g1' [] hys (by simp);have hn:n=ys.length:=by rw [Nat.eq_of_beq_eq_true g2];exact k1
      have hnxt:s0.nxt=s.nxt:=by rw [<- hs0];exact zeu TT _ _ _
      refine ⟨s0,hw,hs,(AL.litsN (P:=P) (F:=F) (σ:=s0.st) (α:=te.den) (ys:=ys) (xs:=xs) s0.nxt rfl (by rw [hnxt];exact hb.1) hd (by show Nat.blt d s0.n=true;rw [hs.n];exact hb.2) ho (zai hT he) hz rfl g1 k2 (by rw [hn];rw [List.nil_append,List.nil_append] at k3;exact k3) hn rfl g3 g4).post fun x hx => ?_⟩;subst hx;exact ⟨_,by rw [zcY,zeF,hnxt];rfl,hs.trans ((Sfx.new _ _).trans (Sfx.set _ _ _)),h⟩
     ·cases h
    ·cases h
   ·cases h
  ·rename_i t l c ho;split at h
   ·rename_i e he;split at h
    ·rename_i te hte;split at h
     ·rename_i m k hm hk;have hb2:=(zaa h).1;replace h:=(zaa h).2;simp only [Bool.and_eq_true] at hb2;obtain ⟨hg,h⟩:=zaF h;obtain ⟨z,hz,hzc⟩:=zaK hT hte;have hpos:0 < te.sz:=by simpa using hb2.1
      have hbp:0 < te.bts:=by simpa using hb2.2
      have hk63:=zn3 k te.bts hbp hg.2.2;refine ⟨s,Wk.refl _,Sfx.refl _,(AL.make (P:=P) (F:=F) (σ:=s.st) (α:=te.den) (z0:=te.dflt) s.nxt rfl hb.1 hd hb.2 ho (zai hT he) hz rfl rfl hpos (zah hm) (zah hk) (by rw [hzc];exact zrs te) hg.1 hg.2.1 hg.2.2 hk63).post fun x hx => ?_⟩;subst hx;exact ⟨_,by rw [zcY,zeF];rfl,(Sfx.new _ _).trans (Sfx.set _ _ _),h⟩
     ·cases h
    ·cases h
   ·cases h
  ·rename_i c ho;split at h
   ·rename_i f hf;refine ⟨s,Wk.refl _,Sfx.refl _,fun a w r=>Oper.wp_mono2 (fun a' w' hh => ?_) (fun _ _ _ h=>h) (zjK hG hd (ts:=c.argTypes) (by rw [ho,<- hf]) h a w r)⟩;exact ⟨hh.1.1,hh.1.2 rfl,hh.2⟩
   ·cases h
  ·rename_i t x y ho;split at h
   ·rename_i e he;split at h
    ·rename_i te hte;split at h
     ·rename_i k j hx hy;split at h
      ·rename_i E te' l hk;have hb2:=(zaa h).1;replace h:=(zaa h).2;have:=Ty.eq_of_beq hb2;subst this;obtain ⟨hj,h⟩:=zaF h;obtain ⟨z,hz,hzc⟩:=zaK hT hte;refine ⟨s,Wk.refl _,Sfx.refl _,(AL.resl (P:=P) (F:=F) (σ:=s.st) (α:=te'.den) (xs:=l) s.nxt rfl hb.1 hd hb.2 ho (zai hT he) hz rfl (zah hx) (zat hk) (zah hy) hj).post fun x hx => ?_⟩;subst hx;exact ⟨_,by rw [zcY,zeF];rfl,(Sfx.put _ _ _).trans ((Sfx.new _ _).trans (Sfx.set _ _ _)),h⟩
      ·cases h
     ·cases h
    ·cases h
   ·cases h
  ·rename_i t x y ho;split at h
   ·rename_i e he;split at h
    ·rename_i te hte;split at h
     ·rename_i k j hx hy;split at h
      ·rename_i E te' l hk;have hb2:=(zaa h).1;replace h:=(zaa h).2;have:=Ty.eq_of_beq hb2;subst this;obtain ⟨hj,h⟩:=zaF h;obtain ⟨z,hz,hzc⟩:=zaK hT hte;refine ⟨s,Wk.refl _,Sfx.refl _,(AL.tail (P:=P) (F:=F) (σ:=s.st) (α:=te'.den) (xs:=l) s.nxt rfl hb.1 hd hb.2 ho (zai hT he) hz rfl (zah hx) (zat hk) (zah hy) hj).post fun x hx => ?_⟩;subst hx;exact ⟨_,by rw [zcY,zeF,zcp];rfl,(Sfx.put _ _ _).trans ((Sfx.new _ _).trans (Sfx.set _ _ _)),h⟩
      ·cases h
     ·cases h
    ·cases h
   ·cases h
  ·rename_i t parts ho;obtain ⟨z,h1,h2⟩:=zis (F:=F) hT ho h;refine ⟨s,Wk.refl _,Sfx.refl _,(AL.ro hd hb.2 h1).post fun x hx => ?_⟩;subst hx;exact ⟨_,by rw [zcY],Sfx.set _ _ _,h2⟩
  ·rename_i t x ho;split at h
   ·rename_i e he;split at h
    ·rename_i id k h1;split at h
     ·rename_i T cs h2;have hb2:=(zaa h).1;replace h:=(zaa h).2;simp only [Bool.and_eq_true] at hb2;obtain ⟨hte,rfl⟩:=zaQ hT he;have hti:=hte.ti;rw [hb2.1] at hti;have hle:k+e.size<=cs.length:=by simpa using hb2.2
      have h9:=RO.ld_ptr_sub (F:=F) ho hti (zah h1) (zat h2) (by rw [zb2];exact hle);refine ⟨s,Wk.refl _,Sfx.refl _,(AL.ro hd hb.2 h9).post fun y hy => ?_⟩;subst hy;refine ⟨_,?_,Sfx.set _ _ _,h⟩;rw [zcY,EV.av,zch,zch,List.map_take,List.map_drop]
     ·cases h
    ·cases h
   ·cases h
  ·rename_i t ho;split at h
   ·rename_i kt et hm;split at h
    ·rename_i k v hk hv;refine ⟨s,Wk.refl _,Sfx.refl _,(AL.makeMap (P:=P) (F:=F) (σ:=s.st) (T:=t) (α:=k.den) (β:=v.den) s.nxt rfl hb.1 hd hb.2 ho).post fun x hx => ?_⟩;subst hx;exact ⟨_,by rw [zcY,zeF];rfl,(Sfx.new _ _).trans (Sfx.set _ _ _),h⟩
    ·cases h
   ·cases h
  ·cases h
theorem zkX (hT:TOK P TT) {x y:Operand} {t u d:Nat} (hd:o.dst=some d) (ho:o.op = .call { callee := .builtin .append,args:=#[x,y],argTypes:=#[t,u] }) (h:zkW TT s x y t u d K=some q):EF P F s.st o (Post s K q):=by
 unfold zkW at h;split at h
 ·rename_i e he;split at h
  ·rename_i te hte;split at h
   ·rename_i ku n hu hx hy;have hb:=(zaa h).1;replace h:=(zaa h).2;simp only [Bool.and_eq_true] at hb;obtain ⟨⟨⟨g1,g2⟩,g3⟩,g4⟩:=hb;have hpos:0 < te.sz:=by simpa using g1
    have hbp:0 < te.bts:=by simpa using g2
    obtain ⟨hg,h⟩:=zaF h;obtain ⟨z,hz,hzc⟩:=zaK hT hte;refine (EF.append_zeros (P:=P) (F:=F) (σ:=s.st) (α:=te.den) te.dflt s.nxt rfl g3 hd g4 ho (zai hT he) (zrA hT hu) hz rfl rfl hpos (by rw [hzc];exact zrs te) (zah hx) (zah hy) hg.1 hg.2 (zn3 n te.bts hbp hg.2)).post fun x hx => ?_
    subst hx;exact ⟨_,by rw [zcY,zeF];rfl,(Sfx.new _ _).trans (Sfx.set _ _ _),h⟩
   ·cases h
  ·cases h
 ·cases h
theorem zlJ (hT:TOK P TT) {x y:Operand} {t d:Nat} (hd:o.dst=some d) (ho:o.op = .call { callee := .builtin .append,args:=#[x,y],argTypes:=#[t,t] }) (h:zmz TT s x y t d K=some q):EF P F s.st o (Post s K q):=by
 unfold zmz at h;split at h
 ·rename_i e he;split at h
  ·rename_i te hte;have hb:=(zaa h).1;replace h:=(zaa h).2;simp only [Bool.and_eq_true] at hb;obtain ⟨⟨⟨g1,g2⟩,g3⟩,g4⟩:=hb;have hpos:0 < te.sz:=by simpa using g1
   have hbp:0 < te.bts:=by simpa using g2
   obtain ⟨z,hz,hzc⟩:=zaK hT hte;obtain ⟨ys,hsrc,h⟩:=zg7 h;have hm:∀ n:Nat,n * te.bts<=140737488355328->n<=9223372036854775807:=by
    intro n hn;have:n * 1<=n * te.bts:=Nat.mul_le_mul_left n hbp;omega
   split at h
   ·rename_i k hk;split at h
    ·rename_i E ty xv hE;split at h
     ·rename_i xs hxs;have hbe:=(zaa h).1;replace h:=(zaa h).2;have:=Nat.eq_of_beq_eq_true hbe;subst this;obtain ⟨e',rfl⟩:=zaz hxs;cases e';obtain ⟨hg,h⟩:=zaF h;refine (EF.append (P:=P) (F:=F) (σ:=s.st) (α:=te.den) te.dflt s.nxt rfl g3 hd g4 ho (zai hT he) hz rfl rfl rfl hpos (by rw [hzc];exact zrs te) (zah hk) (zat hE) hsrc hg (hm _ hg)).post fun x hx => ?_
      subst hx;exact ⟨_,by rw [zcY,zeF,zcp];rfl,((Sfx.put _ _ _).trans (Sfx.new _ _)).trans (Sfx.set _ _ _),h⟩
     ·cases h
    ·cases h
   ·rename_i hk;obtain ⟨hg,h⟩:=zaF h;have hg':ys.length * te.bts<=140737488355328:=by
     have:room ([]:List te.den) ys te.bts:=hg;unfold room at this;simpa using this
    refine (EF.append_nil (P:=P) (F:=F) (σ:=s.st) (α:=te.den) te.dflt s.nxt rfl g3 hd g4 ho (zai hT he) hz rfl rfl hpos (by rw [hzc];exact zrs te) (zah hk) hsrc hg' (hm _ hg')).post fun x hx => ?_
    subst hx;exact ⟨_,by rw [zcY,zeF];rfl,(Sfx.new _ _).trans (Sfx.set _ _ _),h⟩
   ·rename_i ty xv hk;split at h
    ·rename_i xs hxs;obtain ⟨e',rfl⟩:=zaz hxs;cases e';obtain ⟨⟨hy0,hg⟩,h⟩:=zaF h;refine (EF.append_full (P:=P) (F:=F) (σ:=s.st) (α:=te.den) te.dflt s.nxt rfl g3 hd g4 ho (zai hT he) hz rfl rfl hpos (by rw [hzc];exact zrs te) (zah hk) hsrc hy0 hg (hm _ hg)).post fun x hx => ?_
     subst hx;exact ⟨_,by rw [zcY,zeF];rfl,(Sfx.new _ _).trans (Sfx.set _ _ _),h⟩
    ·cases h
   ·cases h
  ·cases h
 ·cases h
theorem zmC (hT:TOK P TT) {x:Operand} {t:Nat} (hd:o.dst=none) (ho:o.op = .call { callee := .builtin .clear,args:=#[x],argTypes:=#[t] }) (h:zoH TT s x t K=some q):EF P F s.st o (Post s K q):=by
 unfold zoH at h;split at h
 ·rename_i e he;split at h
  ·rename_i te hte;obtain ⟨z,hz,hzc⟩:=zaK hT hte;split at h
   ·rename_i k t2 i m hk;split at h
    ·rename_i E ty xv hE;split at h
     ·rename_i xs hxs;have hbe:=(zaa h).1;replace h:=(zaa h).2;have:=Ty.eq_of_beq hbe;subst this;obtain ⟨hg,h⟩:=zaF h;obtain ⟨e',rfl⟩:=zaz hxs;cases e';refine (EF.clearV (P:=P) (F:=F) (σ:=s.st) hd ho (zai hT he) hz (by rw [hzc];exact zrs _) (zah hk) (zat hE) hg).post fun x hx => ?_
      subst hx;exact ⟨_,by rw [zcp];rfl,Sfx.put _ _ _,h⟩
     ·cases h
    ·cases h
   ·cases h
  ·cases h
 ·cases h
theorem znE (hT:TOK P TT) {x y:Operand} {t t' d:Nat} (hd:o.dst=some d) (ho:o.op = .call { callee := .builtin .copy,args:=#[x,y],argTypes:=#[t,t'] }) (h:zrc TT s x y t d K=some q):EF P F s.st o (Post s K q):=by
 unfold zrc at h;split at h
 ·rename_i e he;split at h
  ·rename_i te hte;have hb:=(zaa h).1;replace h:=(zaa h).2;obtain ⟨z,hz,hzc⟩:=zaK hT hte;obtain ⟨ys,hsrc,h⟩:=zg7 h;split at h
   ·rename_i k hk;split at h
    ·rename_i E ty xv hE;split at h
     ·rename_i xs hxs;obtain ⟨e',rfl⟩:=zaz hxs;cases e';refine (EF.copy (P:=P) (F:=F) (σ:=s.st) hd hb ho (zai hT he) hz (zah hk) (zat hE) hsrc).post fun x hx => ?_
      subst hx;exact ⟨_,by rw [zcY,zcp];rfl,(Sfx.put _ _ _).trans (Sfx.set _ _ _),h⟩
     ·cases h
    ·cases h
   ·rename_i k t2 i m hk;split at h
    ·rename_i E ty xv hE;split at h
     ·rename_i xs hxs;have hbe:=(zaa h).1;replace h:=(zaa h).2;have:=Ty.eq_of_beq hbe;subst this;obtain ⟨hg,h⟩:=zaF h;obtain ⟨e',rfl⟩:=zaz hxs;cases e';refine (EF.copyV (P:=P) (F:=F) (σ:=s.st) hd hb ho (zai hT he) hz (zah hk) (zat hE) hg rfl hsrc).post fun x hx => ?_
      subst hx;exact ⟨_,by rw [zcY,zcp];rfl,(Sfx.put _ _ _).trans (Sfx.set _ _ _),h⟩
     ·cases h
    ·cases h
   ·cases h
  ·cases h
 ·cases h
theorem zlL (hT:TOK P TT) {t:Nat} {x y:Operand} (hd:o.dst=none) (ho:o.op = .store t x y) (h:zmP TT s t x y K=some q):∃ s0,Wk s s0/\Sfx s s0/\EF P F s0.st o (Post s K q):=by
 unfold zmP at h;split at h
 ·rename_i id k hx;split at h
  ·rename_i T cs hid;split at h
   ·rename_i e he;split at h
    ·rename_i v hv;split at h
     ·rename_i ys hys;have hb:=(zaa h).1;replace h:=(zaa h).2;simp only [Bool.and_eq_true] at hb;obtain ⟨⟨g1,g2⟩,g3⟩:=hb;obtain ⟨h1,h2⟩:=zet hys;obtain ⟨hte,rfl⟩:=zaQ hT he;refine ⟨s,Wk.refl _,Sfx.refl _,(EF.st_ptr (P:=P) (F:=F) (σ:=s.st) hd ho hte.ti (zah hx) (zat hid) (zah hv) h2 (by rw [h1];exact zkI g1) (by rw [h1,zb2];exact Nat.eq_of_beq_eq_true g2) (by rw [zb2];simpa using g3)).post fun x hx => ?_⟩;subst hx;exact ⟨_,by rw [zcp,h1,<- znj];rfl,Sfx.put _ _ _,h⟩
     ·cases h
    ·cases h
   ·cases h
  ·cases h
 ·rename_i id te j k hx;split at h
  ·rename_i u hu;split at h
   ·rename_i v hv;split at h
    ·rename_i c hc;split at h
     ·rename_i E te' l hl
      replace h:=(zaa h).2
      split at h
      ·rename_i id2 te2 j2 k2 hx2;have hb2:=(zaa h).1;replace h:=(zaa h).2;simp only [Bool.and_eq_true] at hb2;have e1:=Nat.eq_of_beq_eq_true hb2.1.1;have e2:=Ty.eq_of_beq hb2.1.2;have e3:=Nat.eq_of_beq_eq_true hb2.2;subst e1 e2 e3;split at h
       ·rename_i z hz;obtain ⟨hg,h⟩:=zaF h;obtain ⟨zz,hti,_⟩:=zaK hT hu;have hve:=zbJ hc;subst hve;refine ⟨s.dat y u,zev s y u,Sfx.dat s y u,(EF.st_eptr_sub (P:=P) (F:=F) (σ:=(s.dat y u).st) hd ho hti (zah hx2) (zat hl) (zah hv) hg hz).post fun x hx => ?_⟩;subst hx;exact ⟨_,by rw [zcp];rfl,(Sfx.dat s y u).trans (Sfx.put _ _ _),h⟩
       ·cases h
      ·cases h
     ·cases h
    ·cases h
   ·cases h
  ·cases h
 ·cases h
theorem ziw (hT:TOK P TT) {t:Nat} {x y:Operand} (hd:o.dst=none) (ho:o.op = .store t x y) (h:zmO TT s t x y K=some q):∃ s0,Wk s s0/\Sfx s s0/\EF P F s0.st o (Post s K q):=by
 unfold zmO at h;obtain ⟨h1,h2⟩:=zry TT s (s.ev y);obtain ⟨s0,k1,k2,k3⟩:=zlL hT hd ho h;refine ⟨s0,h1.trans k1,h2.trans k2,fun a w r => ?_⟩;exact Oper.wp_mono2 (fun a' w' ⟨g0,σ',⟨s',e1,e2,e3⟩,g3⟩=>⟨g0,σ',⟨s',e1,h2.trans e2,e3⟩,g3⟩) (fun _ _ _ h=>h) (k3 a w r)
theorem zr9 {te:Ty} {cs:List EV} {off n j:Nat} {l:List te.den} {c:te.den} (hl:znY te n (cs.drop off)=some l) (hj:j < n) (hle:off+n<=cs.length):zoe cs off (vecE te (l.set j c) n)=zoe cs (off+j) [.d te c]:=by
 obtain ⟨h1,_,h3⟩:=zhl hl;refine List.ext_getElem? fun k => ?_
 have hv:(vecE te (l.set j c) n).length=n:=by simp [vecE]
 unfold zoe;rw [hv];by_cases c1:k < off
 ·rw [List.getElem?_append_left (by rw [List.length_append,List.length_take];omega),List.getElem?_append_left (by rw [List.length_take];omega),
   List.getElem?_append_left (by rw [List.length_append,List.length_take];omega),List.getElem?_append_left (by rw [List.length_take];omega),List.getElem?_take_of_lt c1,List.getElem?_take_of_lt (by omega)]
 ·by_cases c2:k < off+n
  ·rw [List.getElem?_append_left (by rw [List.length_append,List.length_take,hv];omega),List.getElem?_append_right (by rw [List.length_take];omega),List.length_take,Nat.min_eq_left (by omega)];have e1:(vecE te (l.set j c) n)[k - off]? =some (.d te ((l.set j c).getD (k - off) te.dflt)):=by
    unfold vecE;rw [List.getElem?_map,List.getElem?_range (by omega)];rfl
   rw [e1];by_cases c3:k=off+j
   ·subst c3;rw [List.getElem?_append_left (by simp;omega),List.getElem?_append_right (by rw [List.length_take];omega),List.length_take,Nat.min_eq_left (by omega),Nat.sub_self,show off+j - off=j by omega];have:j < l.length:=by omega
    simp [List.getD_eq_getElem?_getD,this]
   ·have e2:(l.set j c).getD (k - off) te.dflt=l.getD (k - off) te.dflt:=by
     rw [List.getD_eq_getElem?_getD,List.getD_eq_getElem?_getD,List.getElem?_set_ne (by omega)]
    have h4:=h3 (k - off) (by omega);rw [List.getElem?_drop,show off+(k - off)=k by omega] at h4;rw [e2,<- h4];by_cases c4:k < off+j
    ·rw [List.getElem?_append_left (by rw [List.length_append,List.length_take];omega),List.getElem?_append_left (by rw [List.length_take];omega),List.getElem?_take_of_lt c4]
    ·rw [List.getElem?_append_right (by simp;omega),List.getElem?_drop];congr 1;simp;omega
  ·rw [List.getElem?_append_right (by rw [List.length_append,List.length_take,hv];omega),List.getElem?_append_right (by simp;omega),List.getElem?_drop,List.getElem?_drop];congr 1;simp [hv];omega
theorem zlM (hT:TOK P TT) {t:Nat} {x y:Operand} (hd:o.dst=none) (ho:o.op = .store t x y) (h:zmQ TT s t x y K=some q):EF P F s.st o (Post s K q):=by
 unfold zmQ at h;split at h
 ·rename_i id off n te j hx;split at h
  ·rename_i T cs hid;split at h
   ·rename_i e he;have hb:=(zaa h).1;replace h:=(zaa h).2;simp only [Bool.and_eq_true] at hb;obtain ⟨hs1,hag⟩:=hb;split at h
    ·rename_i l hl;split at h
     ·rename_i v hv;split at h
      ·rename_i c hc;obtain ⟨hj,h⟩:=zaF h;obtain ⟨hte,rfl⟩:=zaQ hT he;have hag':te.agg=false:=by simpa using hag
       have hsz:=Nat.eq_of_beq_eq_true hs1;have hle:off+n<=cs.length:=by
        obtain ⟨g1,g2,g3⟩:=zhl hl;rw [List.length_drop] at g2;omega
       have hy:=zah hv;rw [zbJ hc] at hy;have hcells:zap (EV.d te c).av=[(EV.d te c).av]:=by
        show (encD te c).cells.map AV.d=_;rw [zca hag'];rfl
       have hone:AV.one (EV.d te c).av=true:=by
        cases te with
        | unit=>cases hag'
        | pair _ _=>cases hag'
        | tree _=>exact zkq _ _
        | _=>rfl
       refine (EF.st_ptr (P:=P) (F:=F) (σ:=s.st) hd ho hte.ti (zah hx) (zat hid) hy rfl (by rw [hcells];simp [hone]) (by rw [hcells,hsz];rfl) (by rw [zb2,hsz];omega)).post fun x hx => ?_
       subst hx;refine ⟨_,?_,Sfx.put _ _ _,h⟩;rw [zcp,zr9 hl hj hle,hcells];rw [show [(EV.d te c).av]=EV.avL [.d te c] from rfl,<- znj];rfl
      ·cases h
     ·cases h
    ·cases h
   ·cases h
  ·cases h
 ·cases h
theorem znO (hT:TOK P TT) {t:Nat} {x y c:Operand} (hd:o.dst=none) (ho:o.op = .mapUpdate t x y c\/o.op = .insert t x y c) (h:zrn TT s t x y c K=some q):EF P F s.st o (Post s K q):=by
 unfold zrn at h;split at h
 ·rename_i kt et hm;split at h
  ·rename_i id hx;split at h
   ·rename_i T k ks v vs he;have hk:=(zaa h).1;replace h:=(zaa h).2;split at h
    ·rename_i yv cv hy hc;split at h
     ·rename_i key el hkey hel;have SKk:=znk hT hk hm;have hy':=zah hy;rw [zbJ hkey] at hy';have hc':=zah hc;rw [zbJ hel] at hc';refine (EF.mapUpdate (P:=P) (F:=F) (σ:=s.st) (α:=k.den) (β:=v.den) (ks:=ks) (vs:=vs) (k:=key) (c:=el) hd ho (ziP hT hm) SKk (zah hx) (zat he) hy' hc').post fun z hz => ?_
      subst hz;exact ⟨_,by rw [zcp];rfl,Sfx.put _ _ _,h⟩
     ·cases h
    ·cases h
   ·cases h
  ·cases h
 ·cases h
theorem zk1 (hT:TOK P TT) {t:Nat} {x y c:Operand} (hd:o.dst=none) (ho:o.op = .mapUpdate t x y c\/o.op = .insert t x y c) (h:zsw TT s t x y c K=some q):∃ s0,Wk s s0/\Sfx s s0/\EF P F s0.st o (Post s K q):=by
 unfold zsw at h;split at h
 ·split at h
  ·rename_i v _ _;refine ⟨_,zev s c v,Sfx.dat s c v,fun a w r => ?_⟩;exact Oper.wp_mono2 (fun a' w' ⟨g0,σ',⟨s',e1,e2,e3⟩,g3⟩=>⟨g0,σ',⟨s',e1,(Sfx.dat s c v).trans e2,e3⟩,g3⟩) (fun _ _ _ h=>h) (znO hT hd ho h a w r)
  ·cases h
 ·cases h
theorem znN (hT:TOK P TT) {t d:Nat} {x y:Operand} (hd:o.dst=some d) (ho:o.op = .mapEntry t x y) (h:zrm TT s t x y d K=some q):EF P F s.st o (Post s K q):=by
 unfold zrm at h;split at h
 ·rename_i kt et hm;split at h
  ·rename_i id hx;split at h
   ·rename_i T k ks v vs he;have hk:=(zaa h).1;replace h:=(zaa h).2;simp only [Bool.and_eq_true] at hk;obtain ⟨⟨hk,hze⟩,hlt⟩:=hk;split at h
    ·rename_i yv hy;split at h
     ·rename_i key hkey;have SKk:=znk hT hk hm;obtain ⟨_,_,_,z,hti,hz⟩:=zmr hT hze;have hy':=zah hy;rw [zbJ hkey] at hy';refine (EF.mapEntry (P:=P) (F:=F) (σ:=s.st) (α:=k.den) (β:=v.den) (ks:=ks) (vs:=vs) (k:=key) (z0:=v.dflt) hd hlt ho (ziP hT hm) SKk hti hz (zah hx) (zat he) hy').post fun z hz => ?_
      subst hz;exact ⟨_,by rw [zcY,zcp];rfl,(Sfx.put _ _ _).trans (Sfx.set _ _ _),h⟩
     ·cases h
    ·cases h
   ·cases h
  ·cases h
 ·cases h
theorem znH {t:Nat} {x y c:Operand} (hd:o.dst=none) (ho:o.op = .entryStore t x y c) (h:zrg s x y c K=some q):EF P F s.st o (Post s K q):=by
 unfold zrg at h;split at h
 ·rename_i id hx;split at h
  ·rename_i T k ks v vs he;split at h
   ·rename_i p cv hy hc;split at h
    ·rename_i el hel;obtain ⟨hg,h⟩:=zaF h;have hc':=zah hc;rw [zbJ hel] at hc';refine (EF.entryStore (P:=P) (F:=F) (σ:=s.st) (α:=k.den) (β:=v.den) (ks:=ks) (vs:=vs) (p:=p) (c:=el) hd ho (zah hx) (zat he) (zah hy) hg.1 hg.2 hc').post fun z hz => ?_
     subst hz;exact ⟨_,by rw [zcp];rfl,Sfx.put _ _ _,h⟩
    ·cases h
   ·cases h
  ·cases h
 ·cases h
theorem zoP {t:Nat} {x y c:Operand} (hd:o.dst=none) (ho:o.op = .entryStore t x y c) (h:ztG s x y c K=some q):∃ s0,Wk s s0/\Sfx s s0/\EF P F s0.st o (Post s K q):=by
 unfold ztG at h;split at h
 ·split at h
  ·rename_i v _ _;refine ⟨_,zev s c v,Sfx.dat s c v,fun a w r => ?_⟩;exact Oper.wp_mono2 (fun a' w' ⟨g0,σ',⟨s',e1,e2,e3⟩,g3⟩=>⟨g0,σ',⟨s',e1,(Sfx.dat s c v).trans e2,e3⟩,g3⟩) (fun _ _ _ h=>h) (znH hd ho h a w r)
  ·cases h
 ·cases h
theorem zdn (hT:TOK P TT) (hG:GOK P Γ) (h:evE TT Γ s o K=some q):∃ s0,Wk s s0/\Sfx s s0/\EF P F s0.st o (Post s K q):=by
 unfold evE at h;split at h
 ·rename_i t x y ho hd;cases hb:zpG s x with
  | true=>rw [hb] at h;exact ⟨s,Wk.refl _,Sfx.refl _,zlM hT hd ho h⟩
  | false=>rw [hb] at h;exact ziw hT hd ho h
 ·rename_i t x y c ho hd;exact zk1 hT hd (.inl ho) h
 ·rename_i t x y c ho hd;exact zk1 hT hd (.inr ho) h
 ·rename_i t x y d ho hd;exact ⟨s,Wk.refl _,Sfx.refl _,znN hT hd ho h⟩
 ·rename_i t x y c ho hd;exact zoP hd ho h
 ·rename_i c d ho hd;split at h
  ·rename_i x y t t' h1 h2 h3;have hcall:o.op = .call { callee := .builtin .append,args:=#[x,y],argTypes:=#[t,t'] }:=by
    rw [ho];obtain ⟨cc,ca,ct⟩:=c;simp only at h1 h2 h3;subst h1;rw [show ca=#[x,y] from Array.ext' h2,show ct=#[t,t'] from Array.ext' h3]
   cases hb:Nat.beq t t' with
   | true=>
    rw [hb] at h;have:=Nat.eq_of_beq_eq_true hb;subst this;exact ⟨s,Wk.refl _,Sfx.refl _,zlJ hT hd hcall h⟩
   | false=>
    rw [hb] at h;exact ⟨s,Wk.refl _,Sfx.refl _,zkX hT hd hcall h⟩
  ·rename_i x y t t' h1 h2 h3;refine ⟨s,Wk.refl _,Sfx.refl _,znE hT hd (t':=t') ?_ h⟩;rw [ho];obtain ⟨cc,ca,ct⟩:=c;simp only at h1 h2 h3;subst h1;rw [show ca=#[x,y] from Array.ext' h2,show ct=#[t,t'] from Array.ext' h3]
  ·rename_i f h1;refine ⟨s,Wk.refl _,Sfx.refl _,fun a w r=>Oper.wp_mono2 (fun a' w' hh=>⟨hh.1.1,hh.2⟩) (fun _ _ _ h=>h) (zjK hG hd (ts:=c.argTypes) (by rw [ho,<- h1]) h a w r)⟩
  ·cases h
 ·rename_i c ho hd;split at h
  ·rename_i x t h1 h2 h3;refine ⟨s,Wk.refl _,Sfx.refl _,zmC hT hd (x:=x) (t:=t) ?_ h⟩;rw [ho];obtain ⟨cc,ca,ct⟩:=c;simp only at h1 h2 h3;subst h1;rw [show ca=#[x] from Array.ext' h2,show ct=#[t] from Array.ext' h3]
  ·cases h
 ·obtain ⟨s0,h1,h2,h3⟩:=znC hT hG h;exact ⟨s0,h1,h2,h3.ef⟩
end
end
end Go.Ab
