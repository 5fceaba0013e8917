import Derived.Test.YtajabcfngklacaaEv40n13
import Derived.Test.YtajabcfngklacaaEv40n22
import Derived.Test.YtajabcfngklacaaEv40n26
set_option linter.unusedVariables false
set_option linter.unusedSimpArgs false
set_option linter.unusedSectionVars false
namespace Go.Ab
noncomputable section
open Enc (enc)
variable {R:Type}
def room {α:Type} (xs ys:List α) (b:Nat):Prop:=(xs.length+ys.length) * b<=140737488355328
instance {α:Type} (xs ys:List α) (b:Nat):Decidable (room xs ys b):=inferInstanceAs (Decidable (_<=_))
def mkOK (m c:Int) (b:Nat):Prop:=0<=m/\m<=c/\c * b<=140737488355328
instance (m c:Int) (b:Nat):Decidable (mkOK m c b):=inferInstanceAs (Decidable (_/\_))
def zhH (TT:List TE) (a:Nat->Option Nat):ESt->List (Nat×Operand)->ESt
 | s,[]=>s
 | s,(i,x)::r=>match a i with
  | some f=>match tyT TT f with
   | some t=>zhH TT a (s.dat x t) r
   | none=>zhH TT a s r
  | none=>zhH TT a s r
theorem zkN (TT:List TE) (a:Nat->Option Nat):∀ (l:List (Nat×Operand)) (s:ESt),Wk s (zhH TT a s l)/\Sfx s (zhH TT a s l)
 | [],s=>⟨Wk.refl s,Sfx.refl s⟩
 | (i,x)::r,s=>by
  simp only [zhH];split
  ·split
   ·rename_i t _;obtain ⟨b,c⟩:=zkN TT a r (s.dat x t);exact ⟨(zog s x t).trans b,(Sfx.dat s x t).trans c⟩
   ·exact zkN TT a r s
  ·exact zkN TT a r s
theorem zmU (x:EV):∀ (ks:List Nat) (s:ESt),(s.setAll ks x).nxt=s.nxt
 | [],_=>rfl
 | k::ks,s=>zmU x ks (s.set k x)
theorem zlT (a:Ty) (l:List a.den):∀ (ks:List Nat) (s:ESt),(ESt.setViews a l ks s).nxt=s.nxt
 | [],s=>rfl
 | k::ks,s=>by
  simp only [ESt.setViews];split
  ·cases Ty.beq _ a with
   | true=>exact zlT a l ks _
   | false=>exact zlT a l ks s
  ·exact zlT a l ks s
theorem zqH (s:ESt) (id:Nat) (a:Ty) (l:List a.den):(s.freezeArr id a l).nxt=s.nxt:=by
 unfold ESt.freezeArr;rw [zlT,zmU];rfl
theorem zzN {s a:ESt} {k:Nat} {t:Ty} (h:s.datify k t=some a):a.nxt=s.nxt:=by
 unfold ESt.datify at h;split at h
 ·split at h
  ·obtain ⟨_,h⟩:=zad h;cases h;exact zqH _ _ _ _
  ·split at h
   ·obtain ⟨_,h⟩:=zad h;cases h;rw [zmU];rfl
   ·cases h
  ·cases h
 ·split at h
  ·obtain ⟨_,h⟩:=zad h;cases h;exact zqH _ _ _ _
  ·cases h
 ·obtain ⟨_,h⟩:=zad h;cases h;rfl
 ·split at h
  ·cases h;rfl
  ·cases h
 ·cases h
theorem zyW (s:ESt) (x:Operand) (t:Ty):(s.dat0 x t).nxt=s.nxt:=by
 unfold ESt.dat0;split
 ·split
  ·rename_i h;exact zzN h
  ·rfl
 ·rfl
theorem zxR (s:ESt) (id j:Nat):(s.boxDat1 id j).nxt=s.nxt:=by
 unfold ESt.boxDat1;split
 ·split
  ·split
   ·cases Nat.beq _ id<;>rfl
   ·split
    ·cases (!(Nat.beq _ id) && _ && _ && _)<;>rfl
    ·rfl
   ·rfl
  ·rfl
 ·rfl
theorem zva (id:Nat):∀ (n:Nat) (s:ESt) (k:Nat),(s.boxDat id k n).nxt=s.nxt
 | 0,s,_=>rfl
 | n+1,s,k=>(zva id n _ (k+1)).trans (zxR s id k)
theorem zxC (s:ESt) (id:Nat) (u:Ty):(s.treeify2 id u).nxt=s.nxt:=by
 unfold ESt.treeify2;split
 ·split
  ·cases u.chain with
   | false=>rfl
   | true=>simp only [cond_true];rw [zmU,zmU];rfl
  ·rfl
 ·rfl
theorem zyN (s:ESt) (k:Nat) (u:Ty):(s.treeify k u).nxt=s.nxt:=by
 unfold ESt.treeify;split
 ·split
  ·rw [zxC,zva]
  ·rfl
 ·rfl
theorem zDs (s:ESt) (x:Operand) (t:Ty):(s.dat x t).nxt=s.nxt:=by
 unfold ESt.dat;split
 ·rw [zyW,zyN]
 ·exact zyW s x t
theorem zlG (TT:List TE) (a:Nat->Option Nat):∀ (l:List (Nat×Operand)) (s:ESt),(zhH TT a s l).nxt=s.nxt
 | [],_=>rfl
 | (i,x)::r,s=>by
  simp only [zhH];split
  ·split
   ·rw [zlG TT a r,zDs]
   ·exact zlG TT a r s
  ·exact zlG TT a r s
theorem zBo (k:Int) (b:Nat) (c:0 < b) (h:k * b<=140737488355328):k<=9223372036854775807:=by
 by_cases a:0<=k
 ·have:k * 1<=k * (b:Int):=Int.mul_le_mul_of_nonneg_left (by omega) a;omega
 ·omega
def zrw (s:ESt) (g:Nat) (vals:List EV) (d:Nat) (pure:Bool) (K:ESt->Option R):List CE->Option R
 | []=>none
 | c::r=>bif Nat.beq c.f g && (!pure || c.sig.ents.isEmpty) then (match znc s c vals d K with
  | some x=>x
  | none=>zrw s g vals d pure K r) else zrw s g vals d pure K r
theorem zoh {s:ESt} {g:Nat} {vals:List EV} {d:Nat} {pure:Bool} {K:ESt->Option R} {q:R}:∀ {Γ:List CE},zrw s g vals d pure K Γ=some q->∃ c∈Γ,c.f=g/\(pure=true->c.sig.ents=[])/\znc s c vals d K=some (some q)
 | [],h=>by cases h
 | c::r,h=>by
  simp only [zrw] at h;cases a:(Nat.beq c.f g && (!pure || c.sig.ents.isEmpty)) with
  | true=>
   rw [a] at h;simp only [cond_true] at h;split at h
   ·rename_i x j;subst h;simp only [Bool.and_eq_true] at a;refine ⟨c,by simp,Nat.eq_of_beq_eq_true a.1,fun i => ?_,j⟩;have:=a.2;rw [i] at this;simpa using this
   ·obtain ⟨b,e,f⟩:=zoh h;exact ⟨b,by simp [e],f⟩
  | false=>
   rw [a] at h;obtain ⟨b,e,f⟩:=zoh (show zrw s g vals d pure K r=some q from h);exact ⟨b,by simp [e],f⟩
def zkP (Γ:List CE) (s:ESt) (f:Operand) (args:Array Operand) (d:Nat) (pure:Bool) (K:ESt->Option R):Option R:=
 match s.ev f with
 | some (.fn g caps)=>match zrv s args.toList with
  | some vals=>bif Nat.blt d s.n then grd (zu2 s (vals++caps)) (zrw s g (vals++caps) d pure K Γ) else none
  | none=>none
 | _=>none
def ziT:ESt->List Operand->ESt
 | s,[]=>s
 | s,x::r=>match s.ev x with
  | some (.own id)=>match s.ent id with
   | some (.arr _ t _)=>ziT (s.dat x (.list t)) r
   | some (.out f _)=>match look s.rws f with
    | some (some q)=>ziT (s.dat x (.list (.list q.t))) r
    | _=>ziT s r
   | _=>ziT s r
  | _=>ziT s r
theorem zmr:∀ (l:List Operand) (s:ESt),Wk s (ziT s l)/\Sfx s (ziT s l)
 | [],s=>⟨Wk.refl s,Sfx.refl s⟩
 | x::r,s=>by
  simp only [ziT];split
  ·split
   ·rename_i t _ _;obtain ⟨a,b⟩:=zmr r (s.dat x (.list t));exact ⟨(zog s x _).trans a,(Sfx.dat s x _).trans b⟩
   ·split
    ·rename_i q _;obtain ⟨a,b⟩:=zmr r (s.dat x (.list (.list q.t)));exact ⟨(zog s x _).trans a,(Sfx.dat s x _).trans b⟩
    ·exact zmr r s
   ·exact zmr r s
  ·exact zmr r s
def fitC (Γ:List CE) (s:ESt) (f:Operand) (args:Array Operand) (d:Nat) (pure:Bool):Bool:=match s.ev f with
 | some (.fn g caps)=>match zrv s args.toList with
  | some vals=>Γ.any fun c=>Nat.beq c.f g && (!pure || c.sig.ents.isEmpty) && (match znc (R:=Unit) s c (vals++caps) d (fun _=>none) with
   | some _=>true
   | none=>false)
  | none=>false
 | _=>false
def zjQ (TT:List TE):ESt->List EV->ESt
 | s,[]=>s
 | s,.ptr id _::r=>match s.ent id with
  | some (.box _ cs)=>zjQ TT ((s.boxDat id 0 cs.length).freeze1 TT id) r
  | _=>zjQ TT s r
 | s,_::r=>zjQ TT s r
theorem zkG (TT:List TE):∀ (l:List EV) (s:ESt),Wk s (zjQ TT s l)/\Sfx s (zjQ TT s l)
 | [],s=>⟨Wk.refl s,Sfx.refl s⟩
 | y::r,s=>by
  cases y with
  | ptr id o=>
   simp only [zjQ];split
   ·rename_i cs _;obtain ⟨a,b⟩:=zvg TT (s.boxDat id 0 cs.length) id;obtain ⟨c,d⟩:=zkG TT r ((s.boxDat id 0 cs.length).freeze1 TT id);exact ⟨((zmp id cs.length s 0).trans a).trans c,((Sfx.boxDat id cs.length s 0).trans b).trans d⟩
   ·exact zkG TT r s
  | _=>
   simp only [zjQ];exact zkG TT r s
def zmq (TT:List TE):ESt->List Operand->ESt
 | s,[]=>s
 | s,x::r=>match s.ev x with
  | some (.fn _ c)=>zmq TT (zjQ TT s c) r
  | _=>zmq TT s r
theorem zqu (TT:List TE):∀ (l:List Operand) (s:ESt),Wk s (zmq TT s l)/\Sfx s (zmq TT s l)
 | [],s=>⟨Wk.refl s,Sfx.refl s⟩
 | x::r,s=>by
  simp only [zmq];split
  ·rename_i c _;obtain ⟨a,b⟩:=zkG TT c s;obtain ⟨d,e⟩:=zqu TT r (zjQ TT s c);exact ⟨a.trans d,b.trans e⟩
  ·exact zqu TT r s
def zwl (a:List (Nat×SV)):Nat->List EV->List EV
 | _,[]=>[]
 | k,x::r=>match look a k with
  | some (.addr _)=>x::zwl a (k+1) r
  | _=>zwl a (k+1) r
def zvR (TT:List TE) (Γ:List CE) (s:ESt) (f:Operand) (n:Nat):ESt:=match s.ev f with
 | some (.fn g caps)=>match Γ.find? (fun c=>Nat.beq c.f g) with
  | some c=>zjQ TT s (zwl c.sig.slots n caps)
  | none=>s
 | _=>s
theorem zzM (TT:List TE) (Γ:List CE) (s:ESt) (f:Operand) (n:Nat):Wk s (zvR TT Γ s f n)/\Sfx s (zvR TT Γ s f n):=by
 unfold zvR;split
 ·split
  ·exact zkG TT _ s
  ·exact ⟨Wk.refl s,Sfx.refl s⟩
 ·exact ⟨Wk.refl s,Sfx.refl s⟩
def ESt.cellDat (s:ESt) (id j:Nat):ESt:=match s.ent id with
 | some (.box _ cs)=>match cs[j]? with
  | some (.own id2)=>match s.ent id2 with
   | some (.out _ _)=>s.boxDat1 id j
   | _=>s
  | _=>s
 | _=>s
theorem zzJ (s:ESt) (id j:Nat):Wk s (s.cellDat id j)/\Sfx s (s.cellDat id j):=by
 unfold ESt.cellDat;split
 ·split
  ·split
   ·exact ⟨zrn _ _ _,Sfx.boxDat1 _ _ _⟩
   ·exact ⟨Wk.refl _,Sfx.refl _⟩
  ·exact ⟨Wk.refl _,Sfx.refl _⟩
 ·exact ⟨Wk.refl _,Sfx.refl _⟩
def ESt.cellsDat (id:Nat):Nat->ESt->ESt
 | 0,s=>s
 | j+1,s=>(ESt.cellsDat id j s).cellDat id j
theorem ztz (id:Nat):∀ (j:Nat) (s:ESt),Wk s (ESt.cellsDat id j s)/\Sfx s (ESt.cellsDat id j s)
 | 0,s=>⟨Wk.refl s,Sfx.refl s⟩
 | j+1,s=>by
  obtain ⟨a,b⟩:=ztz id j s;obtain ⟨c,d⟩:=zzJ (ESt.cellsDat id j s) id j;exact ⟨a.trans c,b.trans d⟩
def ztv (s:ESt) (id:Nat):ESt:=match s.ent id with
 | some (.box _ cs)=>ESt.cellsDat id cs.length s
 | _=>s
theorem zzG (s:ESt) (id:Nat):Wk s (ztv s id)/\Sfx s (ztv s id):=by
 unfold ztv;split
 ·exact ztz _ _ _
 ·exact ⟨Wk.refl _,Sfx.refl _⟩
def zrp:ESt->List Operand->ESt
 | s,[]=>s
 | s,x::r=>match s.ev x with
  | some (.view _ t _ _)=>zrp (s.dat x (.list t)) r
  | some (.ptr id _)=>zrp (ztv s id) r
  | _=>zrp s r
theorem ztc:∀ (l:List Operand) (s:ESt),Wk s (zrp s l)/\Sfx s (zrp s l)
 | [],s=>⟨Wk.refl s,Sfx.refl s⟩
 | x::r,s=>by
  simp only [zrp];split
  ·rename_i t _ _ _;obtain ⟨a,b⟩:=ztc r (s.dat x (.list t));exact ⟨(zog s x _).trans a,(Sfx.dat s x _).trans b⟩
  ·rename_i id _ _;obtain ⟨d,c⟩:=zzG s id;obtain ⟨a,b⟩:=ztc r (ztv s id);exact ⟨d.trans a,c.trans b⟩
  ·exact ztc r s
def ESt.datV (s:ESt) (TT:List TE) (x:Operand) (T:Nat):ESt:=match s.ev x with
 | some (.view _ _ _ _)=>match tyT TT T with
  | some t=>s.dat x t
  | none=>s
 | _=>s
theorem zAG (s:ESt) (TT:List TE) (x:Operand) (T:Nat):Wk s (s.datV TT x T)/\Sfx s (s.datV TT x T):=by
 unfold ESt.datV;split
 ·split
  ·exact ⟨zog _ _ _,Sfx.dat _ _ _⟩
  ·exact ⟨Wk.refl _,Sfx.refl _⟩
 ·exact ⟨Wk.refl _,Sfx.refl _⟩
def zBf:List SV->List EV->List EV
 | .addr _::r,x::l=>x::zBf r l
 | _::r,_::l=>zBf r l
 | _,_=>[]
def zy9 (s:ESt) (a:List (Nat×SE)):List SV->List EV->List EV
 | .addr _::r,x::l=>x::zy9 s a r l
 | .ptr i _::r,.ptr id _::l=>(match look a i,s.ent id with
  | some (.box _ svs),some (.box _ cs)=>zBf svs cs
  | _,_=>[])++zy9 s a r l
 | _::r,_::l=>zy9 s a r l
 | _,_=>[]
def zxf (s:ESt) (sh:Shape):Nat->List EV->List EV
 | _,[]=>[]
 | k,.fn _ caps::r=>(match look sh.slots k with
  | some (.fn _ svs)=>zy9 s sh.ents svs caps
  | _=>[])++zxf s sh (k+1) r
 | k,_::r=>zxf s sh (k+1) r
def ztb (TT:List TE) (Γ:List CE) (s:ESt) (f:Operand) (args:Array Operand) (d:Nat) (pure:Bool):Option ESt:=match s.ev f with
 | some (.fn g _)=>match zrv s args.toList with
  | some vals=>match Γ.find? (fun c=>Nat.beq c.f g && !(zxf s c.sig 0 vals).isEmpty && fitC Γ (zjQ TT s (zxf s c.sig 0 vals)) f args d pure) with
   | some c=>some (zjQ TT s (zxf s c.sig 0 vals))
   | none=>none
  | none=>none
 | _=>none
theorem ztG {TT:List TE} {Γ:List CE} {s a:ESt} {f:Operand} {args:Array Operand} {d:Nat} {pure:Bool} (h:ztb TT Γ s f args d pure=some a):Wk s a/\Sfx s a:=by
 unfold ztb at h;split at h
 ·split at h
  ·split at h
   ·cases h;exact zkG TT _ s
   ·cases h
  ·cases h
 ·cases h
def zvW (TT:List TE) (Γ:List CE) (s:ESt) (f:Operand) (args:Array Operand) (d:Nat) (pure:Bool) (K:ESt->Option R):Option R:=
 bif fitC Γ s f args d pure then zkP Γ s f args d pure K else
  match ztb TT Γ s f args d pure,ztb TT Γ (ziT s args.toList) f args d pure with
  | some s1,_=>zkP Γ s1 f args d pure K
  | none,some s1=>zkP Γ s1 f args d pure K
  | none,none=>
  bif fitC Γ (zmq TT s args.toList) f args d pure then zkP Γ (zmq TT s args.toList) f args d pure K else
  bif fitC Γ (ziT s args.toList) f args d pure then zkP Γ (ziT s args.toList) f args d pure K else
   bif fitC Γ (zmq TT (ziT s args.toList) args.toList) f args d pure then zkP Γ (zmq TT (ziT s args.toList) args.toList) f args d pure K else
    zkP Γ (zvR TT Γ (zmq TT (ziT s args.toList) args.toList) f args.size) f args d pure K
def ESt.nil1 (s:ESt) (id j E:Nat) (t:Ty):ESt:=match s.ent id with
 | some (.box T cs)=>match cs[j]? with
  | some .nil=>bif Nat.blt s.nxt LIM && Nat.blt 0 t.sz then (s.new (.arr E t ([]:List t.den))).put id (some (.box T (cs.set j (.own s.nxt)))) else s
  | _=>s
 | _=>s
theorem zwq (s:ESt) (id j E:Nat) (t:Ty):Wk s (s.nil1 id j E t)/\Sfx s (s.nil1 id j E t):=by
 unfold ESt.nil1;split
 ·rename_i T cs e;split
  ·rename_i f;have b:(EV.avL cs)[j]? =some .nil:=by rw [zhf,List.getElem?_map,f];rfl
   cases c:Nat.blt s.nxt LIM && Nat.blt 0 t.sz with
   | false=>exact ⟨Wk.refl _,Sfx.refl _⟩
   | true=>
    simp only [Bool.and_eq_true] at c;refine ⟨⟨fun F a w ⟨H,r⟩=>⟨H.add s.nxt (.slice none 0 0),?_⟩,fun k t x d=>d⟩,(Sfx.new _ _).trans (Sfx.put _ _ _)⟩;have:=r.nilcell (E:=E) (bts:=t.bts) (by have:=c.1;show s.nxt < LIM;simpa using this) (show 0 < t.sz by simpa using c.2) (zbw e) b;rw [cond_true,zkU,znB];simp only [Option.map,EEnt.ent,zp2];exact this
  ·exact ⟨Wk.refl _,Sfx.refl _⟩
 ·exact ⟨Wk.refl _,Sfx.refl _⟩
def zDt (TT:List TE) (t:Nat):Option (Nat×Ty):=match zgs TT t with
 | some e=>match tyT TT e with
  | some a=>some (e,a)
  | none=>none
 | none=>none
def zEP (TT:List TE) (T j:Nat):Option (Nat×Ty):=match fT TT T with
 | some ⟨_,.struct fs _,_,_,_,_,_⟩=>match fs.find? (fun p=>Nat.beq p.1 j) with
  | some (_,ft)=>zDt TT ft
  | none=>none
 | some ⟨_,.slice _,_,_,_,_,_⟩=>bif Nat.beq j 0 then zDt TT T else none
 | _=>none
def ESt.nilB (TT:List TE) (id T:Nat):Nat->ESt->ESt
 | 0,s=>s
 | j+1,s=>match zEP TT T j with
  | some (E,t)=>(ESt.nilB TT id T j s).nil1 id j E t
  | none=>ESt.nilB TT id T j s
theorem zyj (TT:List TE) (id T:Nat):∀ (j:Nat) (s:ESt),Wk s (ESt.nilB TT id T j s)/\Sfx s (ESt.nilB TT id T j s)
 | 0,s=>⟨Wk.refl _,Sfx.refl _⟩
 | j+1,s=>by
  obtain ⟨a,b⟩:=zyj TT id T j s;simp only [ESt.nilB];split
  ·rename_i E t _;obtain ⟨c,d⟩:=zwq (ESt.nilB TT id T j s) id j E t;exact ⟨a.trans c,b.trans d⟩
  ·exact ⟨a,b⟩
def zBp (TT:List TE) (s:ESt) (x:EV):ESt:=match x with
 | .ptr id _=>match s.ent id with
  | some (.box T cs)=>ESt.nilB TT id T cs.length s
  | _=>s
 | _=>s
theorem zCw (TT:List TE) (s:ESt) (x:EV):Wk s (zBp TT s x)/\Sfx s (zBp TT s x):=by
 unfold zBp;split
 ·split
  ·exact zyj TT _ _ _ s
  ·exact ⟨Wk.refl _,Sfx.refl _⟩
 ·exact ⟨Wk.refl _,Sfx.refl _⟩
def zzf (TT:List TE):ESt->List EV->ESt
 | s,[]=>s
 | s,x::r=>zzf TT (zBp TT s x) r
theorem zxh (TT:List TE):∀ (l:List EV) (s:ESt),Wk s (zzf TT s l)/\Sfx s (zzf TT s l)
 | [],s=>⟨Wk.refl _,Sfx.refl _⟩
 | x::r,s=>by
  obtain ⟨a,b⟩:=zCw TT s x;obtain ⟨c,d⟩:=zxh TT r (zBp TT s x);exact ⟨a.trans c,b.trans d⟩
def nilP (TT:List TE) (s:ESt) (x:EV):ESt:=match x with
 | .ptr id _=>match s.ent id with
  | some (.box T cs)=>zzf TT (ESt.nilB TT id T cs.length s) cs
  | _=>s
 | _=>s
theorem zBq (TT:List TE) (s:ESt) (x:EV):Wk s (nilP TT s x)/\Sfx s (nilP TT s x):=by
 unfold nilP;split
 ·split
  ·rename_i T cs _;obtain ⟨a,b⟩:=zyj TT _ T cs.length s;obtain ⟨c,d⟩:=zxh TT cs _;exact ⟨a.trans c,b.trans d⟩
  ·exact ⟨Wk.refl _,Sfx.refl _⟩
 ·exact ⟨Wk.refl _,Sfx.refl _⟩
def zzZ (TT:List TE):ESt->List EV->ESt
 | s,[]=>s
 | s,x::r=>zzZ TT (nilP TT s x) r
theorem zwr (TT:List TE):∀ (l:List EV) (s:ESt),Wk s (zzZ TT s l)/\Sfx s (zzZ TT s l)
 | [],s=>⟨Wk.refl _,Sfx.refl _⟩
 | x::r,s=>by
  obtain ⟨a,b⟩:=zBq TT s x;obtain ⟨c,d⟩:=zwr TT r (nilP TT s x);exact ⟨a.trans c,b.trans d⟩
def zow (TT:List TE):ESt->List EV->ESt
 | s,[]=>s
 | s,.fn _ c::r=>zow TT (zzZ TT s c) r
 | s,x::r=>zow TT (nilP TT s x) r
theorem zrB (TT:List TE):∀ (l:List EV) (s:ESt),Wk s (zow TT s l)/\Sfx s (zow TT s l)
 | [],s=>⟨Wk.refl _,Sfx.refl _⟩
 | x::r,s=>by
  by_cases h:∃ f c,x = .fn f c
  ·obtain ⟨f,c,rfl⟩:=h;simp only [zow];obtain ⟨a,b⟩:=zwr TT c s;obtain ⟨d,g⟩:=zrB TT r (zzZ TT s c);exact ⟨a.trans d,b.trans g⟩
  ·have e:zow TT s (x::r)=zow TT (nilP TT s x) r:=by
    cases x<;>first | rfl | exact absurd ⟨_,_,rfl⟩ h
   rw [e];obtain ⟨a,b⟩:=zBq TT s x;obtain ⟨d,g⟩:=zrB TT r (nilP TT s x);exact ⟨a.trans d,b.trans g⟩
def ztO (TT:List TE) (s:ESt) (f:Operand) (args:List Operand):ESt:=match s.ev f with
 | some (.fn g caps)=>match zrv s args with
  | some vals=>zow TT s (vals++[.fn g caps])
  | none=>s
 | _=>s
theorem zw8 (TT:List TE) (s:ESt) (f:Operand) (args:List Operand):Wk s (ztO TT s f args)/\Sfx s (ztO TT s f args):=by
 unfold ztO;split
 ·split
  ·exact zrB TT _ s
  ·exact ⟨Wk.refl _,Sfx.refl _⟩
 ·exact ⟨Wk.refl _,Sfx.refl _⟩
def zyX (TT:List TE) (Γ:List CE) (s:ESt) (f:Operand) (args:Array Operand) (d:Nat) (pure:Bool) (K:ESt->Option R):Option R:=
 bif !(fitC Γ (zrp s args.toList) f args d pure) && fitC Γ (ztO TT (zrp s args.toList) f args.toList) f args d pure then
  zkP Γ (ztO TT (zrp s args.toList) f args.toList) f args d pure K else zvW TT Γ (zrp s args.toList) f args d pure K
def zwA (TT:List TE):List (Nat×Nat)->Option (List (Nat×Nat))
 | []=>some []
 | (off,ft)::r=>match fT TT ft with
  | some e=>match zwA TT r with
   | some l=>some ((off,e.size)::l)
   | none=>none
  | none=>none
theorem zsk {P:Program} {TT:List TE} (a:TOK P TT):∀ {fa:List Field} {ps:List (Nat×Nat)},zwA TT (fa.map fun f=>(f.offset,f.type))=some ps->fa.mapM (fun f=>(P.info? f.type).map fun i=>(f.offset,i.size))=some ps
 | [],ps,h=>by cases h;rfl
 | f::fa,ps,h=>by
  simp only [List.map_cons,zwA] at h;split at h
  ·rename_i e c;split at h
   ·rename_i l d;cases h;obtain ⟨g,j⟩:=zdf a c;obtain ⟨i,b,k,_⟩:=g.ti.inf;rw [j] at b;rw [List.mapM_cons,b,zsk a d,<- k];rfl
   ·cases h
  ·cases h
def EV.isNil:EV->Bool
 | .nil=>true
 | _=>false
def zCx (u:Option Ty) (cs:List EV) (K:EV->Option R):Option R:=bif cs.any EV.isNil then K (.agg cs) else match u with
 | some u=>match zrC u cs with
  | some (y,[])=>bif u.agg then K (.d u y) else none
  | _=>K (.agg cs)
 | none=>K (.agg cs)
theorem zvr {u:Option Ty} {cs:List EV} {K:EV->Option R} {q:R} (h:zCx u cs K=some q):∃ x,Conv (.agg (EV.avL cs)) x.av/\K x=some q:=by
 unfold zCx at h;cases a:cs.any EV.isNil
 case true=>rw [a] at h;exact ⟨_,Conv.refl _,h⟩
 rw [a] at h;simp only [cond_false] at h;split at h
 ·rename_i u;split at h
  ·rename_i y c;have e:=(zad h).1;replace h:=(zad h).2;obtain ⟨l1,b,f⟩:=zh1 c;rw [List.append_nil] at b;subst b;refine ⟨_,?_,h⟩;intro w S H v d;show VRel w S H (.d (encD u y)) v;rw [zfi e];exact VRel.packn d f
  ·exact ⟨_,Conv.refl _,h⟩
 ·exact ⟨_,Conv.refl _,h⟩
def zvV (TT:List TE) (s:ESt) (t:Nat) (b:List (Nat×Operand)) (K:EV->Option R):Option R:=match fT TT t with
 | some e=>match ztd s b with
  | some xs=>match e.z with
   | .agg c=>match e.td with
    | .struct d _=>match zwA TT d with
     | some a=>match zzR (fun i=>a[i]?) (c.toList.map EV.con) xs with
      | some cs=>zCx e.ty cs K
      | none=>none
     | none=>none
    | .array _ f=>match fT TT f with
     | some E=>match zzR (fun i=>some (i * E.size,E.size)) (c.toList.map EV.con) xs with
      | some cs=>zCx e.ty cs K
      | none=>none
     | none=>none
    | _=>none
   | _=>none
  | none=>none
 | none=>none
theorem zAE (a:Array Value):EV.avL (a.toList.map EV.con)=a.toList.map avc:=by
 rw [zhf,List.map_map];exact List.map_congr_left fun v _=>zAD v
section
variable {P:Program} {TT:List TE} {F:Fr} {s:ESt} {o:Oper} {q:R}
theorem zqw (l:TOK P TT) {K:EV->Option R} {t:Nat} {b:Array (Nat×Operand)} (v:o.op = .build t b) (h:zvV TT s t b.toList K=some q):∃ z,RO P F s.st o z.av/\K z=some q:=by
 unfold zvV at h;split at h
 ·rename_i e y;split at h
  ·rename_i xs i;split at h
   ·rename_i D A;obtain ⟨g,rfl⟩:=zdf l y;have f:=g.ti;rw [A] at f;split at h
    ·rename_i H _ c;split at h
     ·rename_i k w;split at h
      ·rename_i cs d;obtain ⟨x,m,p⟩:=zvr h;have a:=g.td;rw [c] at a;obtain ⟨⟨J,C,r⟩,_⟩:=a;rw [<- r] at w;refine ⟨x,RO.conv ?_ m,p⟩;have j:=zwb d;rw [zAE] at j;exact RO.build v C f (zsk l w) (zne i) j
      ·cases h
     ·cases h
    ·rename_i n I c;split at h
     ·rename_i E B;split at h
      ·rename_i cs d;obtain ⟨x,m,p⟩:=zvr h;have a:=g.td;rw [c] at a;obtain ⟨u,rfl⟩:=zdf l B;refine ⟨x,RO.conv ?_ m,p⟩;have j:=zwb d;rw [zAE] at j;exact RO.buildA v a f u.ti (zne i) j
      ·cases h
     ·cases h
    ·cases h
   ·cases h
  ·cases h
 ·cases h
end
theorem AL.ro {P:Program} {F:Fr} {σ:St} {o:Oper} {d:Nat} {x:AV} (f:o.dst=some d) (c:Nat.blt d σ.n=true) (h:RO P F σ o x):AL P F σ o (·=σ.set d x):=by
 intro a w ⟨H,r⟩;obtain ⟨v,g,i⟩:=h H a w r;have b:d < σ.n:=by simpa using c
 have e:=r.set b i;rw [<- f] at e;exact zrk g ⟨⟨v,rfl⟩,Ext.refl w,_,rfl,H,e⟩
def evA (TT:List TE) (Γ:List CE) (s:ESt) (o:Oper) (K:ESt->Option R):Option R:=match o.dst with
 | none=>none
 | some d=>bif Nat.blt s.nxt LIM && Nat.blt d s.n then (match o.op with
  | .box T x=>match (frzV TT s (s.ev x)).ev x with
   | some v=>match v.cellsOf with
    | some cs=>K (((frzV TT s (s.ev x)).new (.box T cs)).set d (.ptr s.nxt 0))
    | none=>none
   | none=>none
  | .alloc T=>match fT TT T with
   | some e=>match (EV.con e.z).cellsOf with
    | some cs=>K ((s.new (.box T cs)).set d (.ptr s.nxt 0))
    | none=>none
   | none=>none
  | .buildSlice t n a=>match zgs TT t with
   | some e=>match tyT TT e with
    | some b=>match zvY (zhH TT (fun _=>some e) s a.toList) b a.toList 0 with
     | some ys=>bif Nat.blt 0 b.sz && Nat.beq n a.toList.length && Nat.ble (n * b.bts) most && Nat.ble (n * b.sz) 16777216 then
       K (((zhH TT (fun _=>some e) s a.toList).new (.arr e b ys)).set d (.own s.nxt)) else none
     | none=>none
    | none=>none
   | none=>none
  | .makeSlice t l c=>match zgs TT t with
   | some e=>match tyT TT e with
    | some b=>match s.ev l,s.ev c with
     | some (.d (.int .i64) m),some (.d (.int .i64) k)=>bif Nat.blt 0 b.sz && Nat.blt 0 b.bts then
       G (mkOK m k b.bts) (K ((s.new (.arr e b (List.replicate m.toNat b.dflt))).set d (.own s.nxt))) else none
     | _,_=>none
    | none=>none
   | none=>none
  | .call c=>match c.callee with
   | .value f=>zyX TT Γ s f c.args d true K
   | _=>none
  | .slice t x none (some y) none=>match zgs TT t with
   | some e=>match tyT TT e with
    | some b=>match s.ev x,s.ev y with
     | some (.own k),some (.d (.int .i64) j)=>match s.ent k with
      | some (.arr E te' l)=>bif Ty.beq te' b then G (0<=j/\j<=(l.length:Int)) (K (((s.put k none).new (.arr E te' (l.take j.toNat))).set d (.own s.nxt))) else none
      | _=>none
     | _,_=>none
    | none=>none
   | none=>none
  | .slice t x (some y) none none=>match zgs TT t with
   | some e=>match tyT TT e with
    | some b=>match s.ev x,s.ev y with
     | some (.own k),some (.d (.int .i64) j)=>match s.ent k with
      | some (.arr E te' l)=>bif Ty.beq te' b then G (0<=j/\j<=(l.length:Int)) (K (((s.put k none).new (.arr E te' (l.drop j.toNat))).set d (.own s.nxt))) else none
      | _=>none
     | _,_=>none
    | none=>none
   | none=>none
  | .build t a=>zvV TT s t a.toList fun x=>K (s.set d x)
  | .load t x=>match fT TT t with
   | some e=>match s.ev x with
    | some (.ptr id k)=>match s.ent id with
     | some (.box _ cs)=>bif e.ag && Nat.ble (k+e.size) cs.length then K (s.set d (.agg ((cs.drop k).take e.size))) else none
     | _=>none
    | _=>none
   | none=>none
  | .makeMap t none=>match mapT TT t with
   | some (kt,et)=>match tyT TT kt,tyT TT et with
    | some k,some v=>K ((s.new (.box t [.d (.list k) ([]:List k.den),.d (.list v) ([]:List v.den)])).set d (.own s.nxt))
    | _,_=>none
   | none=>none
  | _=>none) else none
def zCc (TT:List TE) (s:ESt) (t:Nat) (x y c:Operand) (K:ESt->Option R):Option R:=bif Nat.beq s.n 0 && Nat.beq s.n 1 then K s else none
def zAW (TT:List TE) (s:ESt) (t:Nat) (x y:Operand) (d:Nat) (K:ESt->Option R):Option R:=bif Nat.beq s.n 0 && Nat.beq s.n 1 then K s else none
def zDw (s:ESt) (x y c:Operand) (K:ESt->Option R):Option R:=bif Nat.beq s.n 0 && Nat.beq s.n 1 then K s else none
def zEU (s:ESt) (y:Operand) (a:Ty):Option (List a.den):=match s.ev y with
 | some (.d ty yv)=>zcF ty (.list a) yv
 | some (.own id)=>match s.ent id with
  | some (.arr _ ty yv)=>zcF (.list ty) (.list a) yv
  | _=>none
 | some .nil=>some ([]:List a.den)
 | _=>none
def zCZ (s:ESt) (y:Operand) (a:Ty):Option (Option (Nat×Nat×List a.den)):=match s.ev y with
 | some (.view id t i n)=>match s.ent id with
  | some (.arr _ ty yv)=>bif Ty.beq t a then (match zcF (.list ty) (.list a) yv with
   | some l=>some (some (i,n,l))
   | none=>some none) else some none
  | _=>some none
 | _=>none
def zyQ {R:Type} (s:ESt) (y:Operand) (a:Ty) (K:List a.den->Option R):Option R:=match zCZ s y a with
 | some (some (i,n,l))=>G (i+n<=l.length) (K ((l.drop i).take n))
 | some none=>none
 | none=>match zEU s y a with
  | some ys=>K ys
  | none=>none
theorem zxE {R:Type} {s:ESt} {y:Operand} {d:Ty} {K:List d.den->Option R} {q:R} (h:zyQ s y d K=some q):∃ ys,Src s.st y (α:=d.den) ys/\K ys=some q:=by
 unfold zyQ at h;split at h
 ·rename_i i n l b;obtain ⟨m,h⟩:=zdU h;refine ⟨_,?_,h⟩;unfold zCZ at b;split at b
  ·rename_i id t o p c;split at b
   ·rename_i E g j e;cases f:Ty.beq t d with
    | false=>rw [f] at b;cases b
    | true=>
     rw [f] at b;simp only [cond_true] at b;split at b
     ·rename_i r k;cases b;have:=Ty.eq_of_beq f;subst this;obtain ⟨e',rfl⟩:=zcf k;cases e';exact .inr (.inr (.inr ⟨id,E,i,n,_,za0 c,zbw e,rfl,m⟩))
     ·cases b
   ·cases b
  ·cases b
 ·cases h
 ·split at h
  ·rename_i ys a;refine ⟨ys,?_,h⟩;unfold zEU at a;split at a
   ·rename_i g j c;obtain ⟨rfl,rfl⟩:=zcf a;exact .inl (za0 c)
   ·rename_i id c;split at a
    ·rename_i E g j e;obtain ⟨e',rfl⟩:=zcf a;cases e';exact .inr (.inl ⟨id,E,za0 c,zbw e⟩)
    ·cases a
   ·rename_i c;cases a;exact .inr (.inr (.inl ⟨za0 c,rfl⟩))
   ·cases a
  ·cases h
def zAP (TT:List TE) (s:ESt) (x y:Operand) (t:Nat) (d:Nat) (K:ESt->Option R):Option R:=bif Nat.beq s.n 0 && Nat.beq s.n 1 then K s else none
def zx0 (TT:List TE) (s:ESt) (x:Operand) (t:Nat) (K:ESt->Option R):Option R:=match zgs TT t with
 | some e=>match tyT TT e with
  | some a=>match s.ev x with
   | some (.view k t2 i m)=>match s.ent k with
    | some (.arr E ty xv)=>match zcF (.list ty) (.list a) xv with
     | some xs=>bif Ty.beq t2 a then G (i+m<=xs.length) (K (s.put k (some (.arr E a (xs.take i++List.replicate m a.dflt++xs.drop (i+m)))))) else none
     | none=>none
    | _=>none
   | _=>none
  | none=>none
 | none=>none
def zvU (TT:List TE) (s:ESt) (x y:Operand) (t:Nat) (d:Nat) (K:ESt->Option R):Option R:=match zgs TT t with
 | some e=>match tyT TT e with
  | some a=>bif Nat.blt 0 a.sz && Nat.blt 0 a.bts && Nat.blt s.nxt LIM && Nat.blt d s.n then zyQ s y a (fun ys=>match s.ev x with
    | some (.own k)=>match s.ent k with
     | some (.arr E ty xv)=>match zcF (.list ty) (.list a) xv with
      | some xs=>bif Nat.beq E e then G (room xs ys a.bts) (K (((s.put k none).new (.arr e a (xs++ys))).set d (.own s.nxt))) else none
      | none=>none
     | _=>none
    | some .nil=>G (room ([]:List a.den) ys a.bts) (K ((s.new (.arr e a ys)).set d (.own s.nxt)))
    | some (.full ty xv)=>match zcF (.list ty) (.list a) xv with
     | some xs=>G (0 < ys.length/\room xs ys a.bts) (K ((s.new (.arr e a (xs++ys))).set d (.own s.nxt)))
     | none=>none
    | _=>none) else none
  | none=>none
 | none=>none
def ztI (TT:List TE) (s:ESt) (x y:Operand) (t u:Nat) (d:Nat) (K:ESt->Option R):Option R:=bif Nat.beq s.n 0 && Nat.beq s.n 1 then K s else none
def zv4 (TT:List TE) (s:ESt) (t:Nat) (x y:Operand) (K:ESt->Option R):Option R:=match s.ev x with
 | some (.ptr id k)=>match s.ent id with
  | some (.box T cs)=>match fT TT t with
   | some e=>match s.ev y with
    | some v=>match v.cellsOf with
     | some ys=>bif ys.all EV.oneB && Nat.beq ys.length e.size && Nat.ble (k+e.size) cs.length then
       K (s.put id (some (.box T (zCM cs k ys)))) else none
     | none=>none
    | none=>none
   | none=>none
  | _=>none
 | some (.eptr id te j k)=>match tyT TT t with
  | some u=>match (s.dat y u).ev y with
   | some v=>match v.exact u with
    | some c=>match (s.dat y u).ent id with
     | some (.arr E te' l)=>bif Ty.beq te te' then (match (s.dat y u).ev x with
       | some (.eptr id2 te2 j2 k2)=>bif Nat.beq id2 id && Ty.beq te2 te' && Nat.beq k2 k then (match zAg te' (l.getD j2 te'.dflt) k u c with
        | some z=>G (j2 < l.length) (K ((s.dat y u).put id (some (.arr E te' (l.set j2 z)))))
        | none=>none) else none
       | _=>none) else none
     | _=>none
    | none=>none
   | none=>none
  | none=>none
 | _=>none
def zv5 (TT:List TE) (s:ESt) (t:Nat) (x y:Operand) (K:ESt->Option R):Option R:=bif Nat.beq s.n 0 && Nat.beq s.n 1 then K s else none
def zv3 (TT:List TE) (s:ESt) (t:Nat) (x y:Operand) (K:ESt->Option R):Option R:=zv4 TT (frzV TT s (s.ev y)) t x y K
def evE (TT:List TE) (Γ:List CE) (s:ESt) (o:Oper) (K:ESt->Option R):Option R:=match o.op,o.dst with
 | .store t x y,none=>bif zy6 s x then zv5 TT s t x y K else zv3 TT s t x y K
 | .mapUpdate t x y c,none=>zCc TT s t x y c K
 | .insert t x y c,none=>zCc TT s t x y c K
 | .mapEntry t x y,some d=>zAW TT s t x y d K
 | .entryStore _ x y c,none=>zDw s x y c K
 | .call c,some d=>match c.callee,c.args.toList,c.argTypes.toList with
  | .builtin .append,[x,y],[t,t']=>bif Nat.beq t t' then zvU TT s x y t d K else ztI TT s x y t t' d K
  | .builtin .copy,[x,y],[t,_]=>zAP TT s x y t d K
  | .value f,_,_=>zyX TT Γ s f c.args d false K
  | _,_,_=>none
 | .call c,none=>match c.callee,c.args.toList,c.argTypes.toList with
  | .builtin .clear,[x],[t]=>zx0 TT s x t K
  | _,_,_=>none
 | _,_=>evA TT Γ s o K
section
variable {P:Program} {TT:List TE} {Γ:List CE} {F:Fr} {s:ESt} {o:Oper} {K:ESt->Option R} {q:R}
def Post (s:ESt) (K:ESt->Option R) (q:R) (σ':St):Prop:=∃ a,σ'=a.st/\Sfx s a/\K a=some q
theorem AL.post {σ:St} {p b:St->Prop} (h:AL P F σ o p) (c:∀ x,p x->b x):AL P F σ o b:=
 fun a w r=>Oper.wp_mono2 (fun _ _ ⟨h1,h2,x,h3,h4⟩=>⟨h1,h2,x,c x h3,h4⟩) (fun _ _ _ h=>h) (h a w r)
theorem EF.post {σ:St} {p b:St->Prop} (h:EF P F σ o p) (c:∀ x,p x->b x):EF P F σ o b:=
 fun a w r=>Oper.wp_mono2 (fun _ _ ⟨h0,x,h3,h4⟩=>⟨h0,x,c x h3,h4⟩) (fun _ _ _ h=>h) (h a w r)
theorem znb (n:GOK P Γ) {f:Operand} {args:Array Operand} {ts:Array TypeId} {d:Nat} {pure:Bool} (p:o.dst=some d) (t:o.op = .call { callee := .value f,args:=args,argTypes:=ts })
  (h:zkP Γ s f args d pure K=some q):∀ (a:Act) (w:World),Rel F s.st a w->o.wp P a w (fun e w'=>((∃ u,e=a.put o.dst u)/\(pure=true->Ext w w'))/\∃ σ',Post s K q σ'/\Rel F σ' e w') (fun _ _ _=>False):=by
 unfold zkP at h;split at h
 ·rename_i g m x;split at h
  ·rename_i vals y;have z:=(zad h).1;replace h:=(zad h).2;obtain ⟨j,h⟩:=zwf h;obtain ⟨c,A,k,b,l⟩:=zoh h;intro a w r;refine Oper.wp_mono2 (fun e w' i => ?_) (fun _ _ _ h=>h) (zpC (n c A) p z t (by rw [k];exact x) y j l a w r);exact ⟨⟨i.1.1,fun v=>i.1.2 (b v)⟩,i.2⟩
  ·cases h
 ·cases h
theorem zqx (m:GOK P Γ) {f:Operand} {args:Array Operand} {ts:Array TypeId} {d:Nat} {pure:Bool} (n:o.dst=some d) (p:o.op = .call { callee := .value f,args:=args,argTypes:=ts })
  (h:zvW TT Γ s f args d pure K=some q):∀ (a:Act) (w:World),Rel F s.st a w->o.wp P a w (fun b w'=>((∃ u,b=a.put o.dst u)/\(pure=true->Ext w w'))/\∃ σ',Post s K q σ'/\Rel F σ' b w') (fun _ _ _=>False):=by
 unfold zvW at h;cases t:fitC Γ s f args d pure with
 | true=>rw [t] at h;exact znb m n p h
 | false=>
  rw [t,cond_false] at h;have g:∀ s0:ESt,Wk s s0->Sfx s s0->zkP Γ s0 f args d pure K=some q->∀ (a:Act) (w:World),Rel F s.st a w->o.wp P a w (fun b w'=>((∃ u,b=a.put o.dst u)/\(pure=true->Ext w w'))/\∃ σ',Post s K q σ'/\Rel F σ' b w') (fun _ _ _=>False):=by
   intro s0 c e h a w r;refine Oper.wp_mono2 (fun b w' ⟨g1,σ',⟨s',i,e2,e3⟩,g3⟩ => ?_) (fun _ _ _ h=>h) (znb m n p h a w (c.rel F a w r));exact ⟨g1,σ',⟨s',i,e.trans e2,e3⟩,g3⟩
  obtain ⟨c,e⟩:=zmr args.toList s;split at h
  ·rename_i y i;obtain ⟨z,A⟩:=ztG i;exact g _ z A h
  ·rename_i y _ i;obtain ⟨B,C⟩:=ztG i;exact g _ (c.trans B) (e.trans C) h
  ·obtain ⟨D,E⟩:=zqu TT args.toList s;cases j:fitC Γ (zmq TT s args.toList) f args d pure with
   | true=>rw [j] at h;exact g _ D E h
   | false=>
   rw [j,cond_false] at h;cases k:fitC Γ (ziT s args.toList) f args d pure with
   | true=>rw [k] at h;exact g _ c e h
   | false=>
    rw [k] at h;obtain ⟨v,x⟩:=zqu TT args.toList (ziT s args.toList);rw [cond_false] at h;cases l:fitC Γ (zmq TT (ziT s args.toList) args.toList) f args d pure with
    | true=>rw [l] at h;exact g _ (c.trans v) (e.trans x) h
    | false=>
     rw [l] at h;obtain ⟨H,I⟩:=zzM TT Γ (zmq TT (ziT s args.toList) args.toList) f args.size;exact g _ ((c.trans v).trans H) ((e.trans x).trans I) h
theorem zsb (c:GOK P Γ) {f:Operand} {args:Array Operand} {ts:Array TypeId} {d:Nat} {pure:Bool} (e:o.dst=some d) (g:o.op = .call { callee := .value f,args:=args,argTypes:=ts })
  (h:zyX TT Γ s f args d pure K=some q):∀ (a:Act) (w:World),Rel F s.st a w->o.wp P a w (fun b w'=>((∃ u,b=a.put o.dst u)/\(pure=true->Ext w w'))/\∃ σ',Post s K q σ'/\Rel F σ' b w') (fun _ _ _=>False):=by
 intro a w r;obtain ⟨j,k⟩:=ztc args.toList s;unfold zyX at h;cases i : !(fitC Γ (zrp s args.toList) f args d pure) && fitC Γ (ztO TT (zrp s args.toList) f args.toList) f args d pure with
 | true=>
  rw [i,cond_true] at h;obtain ⟨l,m⟩:=zw8 TT (zrp s args.toList) f args.toList;refine Oper.wp_mono2 (fun b w' ⟨g1,σ',⟨s',e1,e2,e3⟩,g3⟩ => ?_) (fun _ _ _ h=>h) (znb c e g h a w ((j.trans l).rel F a w r));exact ⟨g1,σ',⟨s',e1,(k.trans m).trans e2,e3⟩,g3⟩
 | false=>
 rw [i,cond_false] at h;refine Oper.wp_mono2 (fun b w' ⟨g1,σ',⟨s',e1,e2,e3⟩,g3⟩ => ?_) (fun _ _ _ h=>h) (zqx c e g h a w (j.rel F a w r));exact ⟨g1,σ',⟨s',e1,k.trans e2,e3⟩,g3⟩
theorem zwZ (C:TOK P TT) (hG:GOK P Γ) (h:evA TT Γ s o K=some q):∃ s0,Wk s s0/\Sfx s s0/\AL P F s0.st o (Post s K q):=by
 unfold evA at h;split at h
 ·cases h
 ·rename_i d I;have A:=(zad h).1;replace h:=(zad h).2;simp only [Bool.and_eq_true] at A;split at h
  ·rename_i T x u;split at h
   ·rename_i v hv;split at h
    ·rename_i cs N;obtain ⟨L,M⟩:=zlE N;obtain ⟨Y,hs⟩:=zA5 TT s (s.ev x);have i:=zCk TT s (s.ev x);generalize frzV TT s (s.ev x)=s0 at h hv Y hs i;refine ⟨s0,Y,hs,(AL.box (P:=P) (F:=F) (σ:=s0.st) s0.nxt rfl (by rw [i];exact A.1) I (by show Nat.blt d s0.n=true;rw [hs.n];exact A.2) u (za0 hv) M).post fun x p => ?_⟩;subst p;exact ⟨_,by rw [zlV,znB,L,<- i];rfl,hs.trans ((Sfx.new _ _).trans (Sfx.set _ _ _)),h⟩
    ·cases h
   ·cases h
  ·rename_i T u;split at h
   ·rename_i e D;split at h
    ·rename_i cs N;obtain ⟨L,M⟩:=zlE N;rw [zAD] at L M;obtain ⟨g,rfl⟩:=zdf C D;refine ⟨s,Wk.refl _,Sfx.refl _,(AL.alloc (P:=P) (F:=F) (σ:=s.st) s.nxt rfl A.1 I A.2 u g.ti M).post fun x p => ?_⟩;subst p;exact ⟨_,by rw [zlV,znB,L];rfl,(Sfx.new _ _).trans (Sfx.set _ _ _),h⟩
    ·cases h
   ·cases h
  ·rename_i t n B u;split at h
   ·rename_i e D;split at h
    ·rename_i H g;split at h
     ·rename_i ys U;have b:=(zad h).1;replace h:=(zad h).2;simp only [Bool.and_eq_true] at b;obtain ⟨⟨⟨g1,g2⟩,g3⟩,g4⟩:=b;obtain ⟨Y,hs⟩:=zkN TT (fun _=>some e) B.toList s;generalize hs0:zhH TT (fun _=>some e) s B.toList=s0 at h U Y hs;obtain ⟨z,Q,J⟩:=zeD C g;have g1':0 < H.sz:=by simpa using g1
      obtain ⟨k1,xs,k2,k3⟩:=zsc g1' [] U (by simp);have hn:n=ys.length:=by rw [Nat.eq_of_beq_eq_true g2];exact k1
      have i:s0.nxt=s.nxt:=by rw [<- hs0];exact zlG TT _ _ _
      refine ⟨s0,Y,hs,(AL.litsN (P:=P) (F:=F) (σ:=s0.st) (α:=H.den) (ys:=ys) (xs:=xs) s0.nxt rfl (by rw [i];exact A.1) I (by show Nat.blt d s0.n=true;rw [hs.n];exact A.2) u (zbv C D) Q rfl g1 k2 (by rw [hn];rw [List.nil_append,List.nil_append] at k3;exact k3) hn rfl g3 g4).post fun x p => ?_⟩;subst p;exact ⟨_,by rw [zlV,znB,i];rfl,hs.trans ((Sfx.new _ _).trans (Sfx.set _ _ _)),h⟩
     ·cases h
    ·cases h
   ·cases h
  ·rename_i t l c u;split at h
   ·rename_i e D;split at h
    ·rename_i H g;split at h
     ·rename_i m k hm R;have b:=(zad h).1;replace h:=(zad h).2;simp only [Bool.and_eq_true] at b;obtain ⟨Z,h⟩:=zdU h;obtain ⟨z,Q,J⟩:=zeD C g;have V:0 < H.sz:=by simpa using b.1
      have hbp:0 < H.bts:=by simpa using b.2
      have W:=zBo k H.bts hbp Z.2.2;refine ⟨s,Wk.refl _,Sfx.refl _,(AL.make (P:=P) (F:=F) (σ:=s.st) (α:=H.den) (z0:=H.dflt) s.nxt rfl A.1 I A.2 u (zbv C D) Q rfl rfl V (za0 hm) (za0 R) (by rw [J];exact zrs H) Z.1 Z.2.1 Z.2.2 W).post fun x p => ?_⟩;subst p;exact ⟨_,by rw [zlV,znB];rfl,(Sfx.new _ _).trans (Sfx.set _ _ _),h⟩
     ·cases h
    ·cases h
   ·cases h
  ·rename_i c u;split at h
   ·rename_i f hf;refine ⟨s,Wk.refl _,Sfx.refl _,fun a w r=>Oper.wp_mono2 (fun a' w' hh => ?_) (fun _ _ _ h=>h) (zsb hG I (ts:=c.argTypes) (by rw [u,<- hf]) h a w r)⟩;exact ⟨hh.1.1,hh.1.2 rfl,hh.2⟩
   ·cases h
  ·rename_i t x y u;split at h
   ·rename_i e D;split at h
    ·rename_i H g;split at h
     ·rename_i k j p S;split at h
      ·rename_i E O l R;have b:=(zad h).1;replace h:=(zad h).2;have:=Ty.eq_of_beq b;subst this;obtain ⟨hj,h⟩:=zdU h;obtain ⟨z,Q,J⟩:=zeD C g;refine ⟨s,Wk.refl _,Sfx.refl _,(AL.resl (P:=P) (F:=F) (σ:=s.st) (α:=O.den) (xs:=l) s.nxt rfl A.1 I A.2 u (zbv C D) Q rfl (za0 p) (zbw R) (za0 S) hj).post fun x p => ?_⟩;subst p;exact ⟨_,by rw [zlV,znB];rfl,(Sfx.put _ _ _).trans ((Sfx.new _ _).trans (Sfx.set _ _ _)),h⟩
      ·cases h
     ·cases h
    ·cases h
   ·cases h
  ·rename_i t x y u;split at h
   ·rename_i e D;split at h
    ·rename_i H g;split at h
     ·rename_i k j p S;split at h
      ·rename_i E O l R;have b:=(zad h).1;replace h:=(zad h).2;have:=Ty.eq_of_beq b;subst this;obtain ⟨hj,h⟩:=zdU h;obtain ⟨z,Q,J⟩:=zeD C g;refine ⟨s,Wk.refl _,Sfx.refl _,(AL.tail (P:=P) (F:=F) (σ:=s.st) (α:=O.den) (xs:=l) s.nxt rfl A.1 I A.2 u (zbv C D) Q rfl (za0 p) (zbw R) (za0 S) hj).post fun x p => ?_⟩;subst p;exact ⟨_,by rw [zlV,znB,zkU];rfl,(Sfx.put _ _ _).trans ((Sfx.new _ _).trans (Sfx.set _ _ _)),h⟩
      ·cases h
     ·cases h
    ·cases h
   ·cases h
  ·rename_i t B u;obtain ⟨z,L,M⟩:=zqw (F:=F) C u h;refine ⟨s,Wk.refl _,Sfx.refl _,(AL.ro I A.2 L).post fun x p => ?_⟩;subst p;exact ⟨_,by rw [zlV],Sfx.set _ _ _,M⟩
  ·rename_i t x u;split at h
   ·rename_i e D;split at h
    ·rename_i id k L;split at h
     ·rename_i T cs M;have b:=(zad h).1;replace h:=(zad h).2;simp only [Bool.and_eq_true] at b;obtain ⟨g,rfl⟩:=zdf C D;have X:=g.ti;rw [b.1] at X;have hle:k+e.size<=cs.length:=by simpa using b.2
      have h9:=RO.ld_ptr_sub (F:=F) u X (za0 L) (zbw M) (by rw [zhe];exact hle);refine ⟨s,Wk.refl _,Sfx.refl _,(AL.ro I A.2 h9).post fun y S => ?_⟩;subst S;refine ⟨_,?_,Sfx.set _ _ _,h⟩;rw [zlV,EV.av,zhf,zhf,List.map_take,List.map_drop]
     ·cases h
    ·cases h
   ·cases h
  ·rename_i t u;split at h
   ·rename_i kt et hm;split at h
    ·rename_i k v R hv;refine ⟨s,Wk.refl _,Sfx.refl _,(AL.makeMap (P:=P) (F:=F) (σ:=s.st) (T:=t) (α:=k.den) (β:=v.den) s.nxt rfl A.1 I A.2 u).post fun x p => ?_⟩;subst p;exact ⟨_,by rw [zlV,znB];rfl,(Sfx.new _ _).trans (Sfx.set _ _ _),h⟩
    ·cases h
   ·cases h
  ·cases h
theorem ztJ (b:TOK P TT) {x y:Operand} {t u d:Nat} (c:o.dst=some d) (e:o.op = .call { callee := .builtin .append,args:=#[x,y],argTypes:=#[t,u] }) (h:ztI TT s x y t u d K=some q):EF P F s.st o (Post s K q):=by unfold ztI at h;obtain ⟨a,i⟩:=zad h;simp only [Bool.and_eq_true] at a;have f:=Nat.eq_of_beq_eq_true a.1;have g:=Nat.eq_of_beq_eq_true a.2;omega
theorem zuS (p:TOK P TT) {x y:Operand} {t d:Nat} (r:o.dst=some d) (u:o.op = .call { callee := .builtin .append,args:=#[x,y],argTypes:=#[t,t] }) (h:zvU TT s x y t d K=some q):EF P F s.st o (Post s K q):=by
 unfold zvU at h;split at h
 ·rename_i e v;split at h
  ·rename_i a w;have I:=(zad h).1;replace h:=(zad h).2;simp only [Bool.and_eq_true] at I;obtain ⟨⟨⟨N,O⟩,g3⟩,g4⟩:=I;have b:0 < a.sz:=by simpa using N
   have A:0 < a.bts:=by simpa using O
   obtain ⟨z,D,g⟩:=zeD p w;obtain ⟨ys,c,h⟩:=zxE h;have B:∀ n:Nat,n * a.bts<=140737488355328->n<=9223372036854775807:=by
    intro n Q;have:n * 1<=n * a.bts:=Nat.mul_le_mul_left n A;omega
   split at h
   ·rename_i k l;split at h
    ·rename_i E J L M;split at h
     ·rename_i xs f;have C:=(zad h).1;replace h:=(zad h).2;have:=Nat.eq_of_beq_eq_true C;subst this;obtain ⟨e',rfl⟩:=zcf f;cases e';obtain ⟨i,h⟩:=zdU h;refine (EF.append (P:=P) (F:=F) (σ:=s.st) (α:=a.den) a.dflt s.nxt rfl g3 r g4 u (zbv p v) D rfl rfl rfl b (by rw [g];exact zrs a) (za0 l) (zbw M) c i (B _ i)).post fun x j => ?_
      subst j;exact ⟨_,by rw [zlV,znB,zkU];rfl,((Sfx.put _ _ _).trans (Sfx.new _ _)).trans (Sfx.set _ _ _),h⟩
     ·cases h
    ·cases h
   ·rename_i l;obtain ⟨i,h⟩:=zdU h;have m:ys.length * a.bts<=140737488355328:=by
     have:room ([]:List a.den) ys a.bts:=i;unfold room at this;simpa using this
    refine (EF.append_nil (P:=P) (F:=F) (σ:=s.st) (α:=a.den) a.dflt s.nxt rfl g3 r g4 u (zbv p v) D rfl rfl b (by rw [g];exact zrs a) (za0 l) c m (B _ m)).post fun x j => ?_
    subst j;exact ⟨_,by rw [zlV,znB];rfl,(Sfx.new _ _).trans (Sfx.set _ _ _),h⟩
   ·rename_i J L l;split at h
    ·rename_i xs f;obtain ⟨e',rfl⟩:=zcf f;cases e';obtain ⟨⟨H,i⟩,h⟩:=zdU h;refine (EF.append_full (P:=P) (F:=F) (σ:=s.st) (α:=a.den) a.dflt s.nxt rfl g3 r g4 u (zbv p v) D rfl rfl b (by rw [g];exact zrs a) (za0 l) c H i (B _ i)).post fun x j => ?_
     subst j;exact ⟨_,by rw [zlV,znB];rfl,(Sfx.new _ _).trans (Sfx.set _ _ _),h⟩
    ·cases h
   ·cases h
  ·cases h
 ·cases h
theorem zvX (f:TOK P TT) {x:Operand} {t:Nat} (g:o.dst=none) (j:o.op = .call { callee := .builtin .clear,args:=#[x],argTypes:=#[t] }) (h:zx0 TT s x t K=some q):EF P F s.st o (Post s K q):=by
 unfold zx0 at h;split at h
 ·rename_i e n;split at h
  ·rename_i w a;obtain ⟨z,u,d⟩:=zeD f a;split at h
   ·rename_i k y i m p;split at h
    ·rename_i E A B r;split at h
     ·rename_i xs b;have c:=(zad h).1;replace h:=(zad h).2;have:=Ty.eq_of_beq c;subst this;obtain ⟨v,h⟩:=zdU h;obtain ⟨e',rfl⟩:=zcf b;cases e';refine (EF.clearV (P:=P) (F:=F) (σ:=s.st) g j (zbv f n) u (by rw [d];exact zrs _) (za0 p) (zbw r) v).post fun x l => ?_
      subst l;exact ⟨_,by rw [zkU];rfl,Sfx.put _ _ _,h⟩
     ·cases h
    ·cases h
   ·cases h
  ·cases h
 ·cases h
theorem zw1 (b:TOK P TT) {x y:Operand} {t t' d:Nat} (c:o.dst=some d) (e:o.op = .call { callee := .builtin .copy,args:=#[x,y],argTypes:=#[t,t'] }) (h:zAP TT s x y t d K=some q):EF P F s.st o (Post s K q):=by unfold zAP at h;obtain ⟨a,i⟩:=zad h;simp only [Bool.and_eq_true] at a;have f:=Nat.eq_of_beq_eq_true a.1;have g:=Nat.eq_of_beq_eq_true a.2;omega
theorem zuT (w:TOK P TT) {t:Nat} {x y:Operand} (A:o.dst=none) (B:o.op = .store t x y) (h:zv4 TT s t x y K=some q):∃ s0,Wk s s0/\Sfx s s0/\EF P F s0.st o (Post s K q):=by
 unfold zv4 at h;split at h
 ·rename_i id k b;split at h
  ·rename_i T cs d;split at h
   ·rename_i e D;split at h
    ·rename_i v f;split at h
     ·rename_i ys g;have C:=(zad h).1;replace h:=(zad h).2;simp only [Bool.and_eq_true] at C;obtain ⟨⟨S,U⟩,g3⟩:=C;obtain ⟨n,V⟩:=zlE g;obtain ⟨p,rfl⟩:=zdf w D;refine ⟨s,Wk.refl _,Sfx.refl _,(EF.st_ptr (P:=P) (F:=F) (σ:=s.st) A B p.ti (za0 b) (zbw d) (za0 f) V (by rw [n];exact ztr S) (by rw [n,zhe];exact Nat.eq_of_beq_eq_true U) (by rw [zhe];simpa using g3)).post fun x b => ?_⟩;subst b;exact ⟨_,by rw [zkU,n,<- zzs];rfl,Sfx.put _ _ _,h⟩
     ·cases h
    ·cases h
   ·cases h
  ·cases h
 ·rename_i id X j k b;split at h
  ·rename_i u H;split at h
   ·rename_i v f;split at h
    ·rename_i c I;split at h
     ·rename_i E J l L
      replace h:=(zad h).2
      split at h
      ·rename_i id2 M Y Z i;have a:=(zad h).1;replace h:=(zad h).2;simp only [Bool.and_eq_true] at a;have O:=Nat.eq_of_beq_eq_true a.1.1;have Q:=Ty.eq_of_beq a.1.2;have R:=Nat.eq_of_beq_eq_true a.2;subst O Q R;split at h
       ·rename_i z N;obtain ⟨W,h⟩:=zdU h;obtain ⟨zz,r,_⟩:=zeD w H;have m:=zo7 I;subst m;refine ⟨s.dat y u,zog s y u,Sfx.dat s y u,(EF.st_eptr_sub (P:=P) (F:=F) (σ:=(s.dat y u).st) A B r (za0 i) (zbw L) (za0 f) W N).post fun x b => ?_⟩;subst b;exact ⟨_,by rw [zkU];rfl,(Sfx.dat s y u).trans (Sfx.put _ _ _),h⟩
       ·cases h
      ·cases h
     ·cases h
    ·cases h
   ·cases h
  ·cases h
 ·cases h
theorem zqA (c:TOK P TT) {t:Nat} {x y:Operand} (d:o.dst=none) (e:o.op = .store t x y) (h:zv3 TT s t x y K=some q):∃ s0,Wk s s0/\Sfx s s0/\EF P F s0.st o (Post s K q):=by
 unfold zv3 at h;obtain ⟨f,b⟩:=zA5 TT s (s.ev y);obtain ⟨s0,g,i,j⟩:=zuT c d e h;refine ⟨s0,f.trans g,b.trans i,fun a w r => ?_⟩;exact Oper.wp_mono2 (fun a' w' ⟨g0,σ',⟨s',e1,e2,e3⟩,g3⟩=>⟨g0,σ',⟨s',e1,b.trans e2,e3⟩,g3⟩) (fun _ _ _ h=>h) (j a w r)
theorem zuU (b:TOK P TT) {t:Nat} {x y:Operand} (c:o.dst=none) (d:o.op = .store t x y) (h:zv5 TT s t x y K=some q):EF P F s.st o (Post s K q):=by unfold zv5 at h;obtain ⟨a,g⟩:=zad h;simp only [Bool.and_eq_true] at a;have e:=Nat.eq_of_beq_eq_true a.1;have f:=Nat.eq_of_beq_eq_true a.2;omega
theorem ztN (b:TOK P TT) {t:Nat} {x y c:Operand} (d:o.dst=none) (e:o.op = .mapUpdate t x y c\/o.op = .insert t x y c) (h:zCc TT s t x y c K=some q):∃ s0,Wk s s0/\Sfx s s0/\EF P F s0.st o (Post s K q):=by unfold zCc at h;obtain ⟨a,i⟩:=zad h;simp only [Bool.and_eq_true] at a;have f:=Nat.eq_of_beq_eq_true a.1;have g:=Nat.eq_of_beq_eq_true a.2;omega
theorem zw7 (b:TOK P TT) {t d:Nat} {x y:Operand} (c:o.dst=some d) (e:o.op = .mapEntry t x y) (h:zAW TT s t x y d K=some q):EF P F s.st o (Post s K q):=by unfold zAW at h;obtain ⟨a,i⟩:=zad h;simp only [Bool.and_eq_true] at a;have f:=Nat.eq_of_beq_eq_true a.1;have g:=Nat.eq_of_beq_eq_true a.2;omega
theorem zx3 {t:Nat} {x y c:Operand} (b:o.dst=none) (d:o.op = .entryStore t x y c) (h:zDw s x y c K=some q):∃ s0,Wk s s0/\Sfx s s0/\EF P F s0.st o (Post s K q):=by unfold zDw at h;obtain ⟨a,g⟩:=zad h;simp only [Bool.and_eq_true] at a;have e:=Nat.eq_of_beq_eq_true a.1;have f:=Nat.eq_of_beq_eq_true a.2;omega
theorem zjt (j:TOK P TT) (u:GOK P Γ) (h:evE TT Γ s o K=some q):∃ s0,Wk s s0/\Sfx s s0/\EF P F s0.st o (Post s K q):=by
 unfold evE at h;split at h
 ·rename_i t x y e b;cases m:zy6 s x with
  | true=>rw [m] at h;exact ⟨s,Wk.refl _,Sfx.refl _,zuU j b e h⟩
  | false=>rw [m] at h;exact zqA j b e h
 ·rename_i t x y c e b;exact ztN j b (.inl e) h
 ·rename_i t x y c e b;exact ztN j b (.inr e) h
 ·rename_i t x y d e b;exact ⟨s,Wk.refl _,Sfx.refl _,zw7 j b e h⟩
 ·rename_i t x y c e b;exact zx3 b e h
 ·rename_i c d e b;split at h
  ·rename_i x y t t' g k l;have i:o.op = .call { callee := .builtin .append,args:=#[x,y],argTypes:=#[t,t'] }:=by
    rw [e];obtain ⟨z,n,p⟩:=c;simp only at g k l;subst g;rw [show n=#[x,y] from Array.ext' k,show p=#[t,t'] from Array.ext' l]
   cases m:Nat.beq t t' with
   | true=>
    rw [m] at h;have:=Nat.eq_of_beq_eq_true m;subst this;exact ⟨s,Wk.refl _,Sfx.refl _,zuS j b i h⟩
   | false=>
    rw [m] at h;exact ⟨s,Wk.refl _,Sfx.refl _,ztJ j b i h⟩
  ·rename_i x y t t' g k l;refine ⟨s,Wk.refl _,Sfx.refl _,zw1 j b (t':=t') ?_ h⟩;rw [e];obtain ⟨z,n,p⟩:=c;simp only at g k l;subst g;rw [show n=#[x,y] from Array.ext' k,show p=#[t,t'] from Array.ext' l]
  ·rename_i f g;refine ⟨s,Wk.refl _,Sfx.refl _,fun a w r=>Oper.wp_mono2 (fun A w' v=>⟨v.1.1,v.2⟩) (fun _ _ _ h=>h) (zsb u b (ts:=c.argTypes) (by rw [e,<- g]) h a w r)⟩
  ·cases h
 ·rename_i c e b;split at h
  ·rename_i x t g k l;refine ⟨s,Wk.refl _,Sfx.refl _,zvX j b (x:=x) (t:=t) ?_ h⟩;rw [e];obtain ⟨z,n,p⟩:=c;simp only at g k l;subst g;rw [show n=#[x] from Array.ext' k,show p=#[t] from Array.ext' l]
  ·cases h
 ·obtain ⟨s0,g,k,l⟩:=zwZ j u h;exact ⟨s0,g,k,l.ef⟩
end
end
end Go.Ab
