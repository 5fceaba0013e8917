import Derived.Test.YtfjfjemoehnpbaaEv40n13
import Derived.Test.YtfjfjemoehnpbaaEv40n22
import Derived.Test.YtfjfjemoehnpbaaEv40n26
set_option linter.unusedVariables false
set_option linter.unusedSimpArgs false
set_option linter.unusedSectionVars false
namespace Go.Ab
noncomputable section
open Enc (enc)
variable {R:Type}
def room {α:Type} (xs ys:List α) (b:Nat):Prop:=(xs.length+ys.length) * b<=140737488355328
instance {α:Type} (xs ys:List α) (b:Nat):Decidable (room xs ys b):=inferInstanceAs (Decidable (_<=_))
def mkOK (m c:Int) (b:Nat):Prop:=0<=m/\m<=c/\c * b<=140737488355328
instance (m c:Int) (b:Nat):Decidable (mkOK m c b):=inferInstanceAs (Decidable (_/\_))
def zca (TT:List TE) (ft:Nat->Option Nat):ESt->List (Nat×Operand)->ESt
 | s,[]=>s
 | s,(i,x)::r=>match ft i with
  | some f=>match tyT TT f with
   | some t=>zca TT ft (s.dat x t) r
   | none=>zca TT ft s r
  | none=>zca TT ft s r
theorem zdy (TT:List TE) (ft:Nat->Option Nat):∀ (l:List (Nat×Operand)) (s:ESt),Wk s (zca TT ft s l)/\Sfx s (zca TT ft s l)
 | [],s=>⟨Wk.refl s,Sfx.refl s⟩
 | (i,x)::r,s=>by
  simp only [zca];split
  ·split
   ·rename_i t _;obtain ⟨h1,h2⟩:=zdy TT ft r (s.dat x t);exact ⟨(zdW s x t).trans h1,(Sfx.dat s x t).trans h2⟩
   ·exact zdy TT ft r s
  ·exact zdy TT ft r s
theorem zeM (x:EV):∀ (ks:List Nat) (s:ESt),(s.setAll ks x).nxt=s.nxt
 | [],_=>rfl
 | k::ks,s=>zeM x ks (s.set k x)
theorem zd9 (te:Ty) (l:List te.den):∀ (ks:List Nat) (s:ESt),(ESt.setViews te l ks s).nxt=s.nxt
 | [],s=>rfl
 | k::ks,s=>by
  simp only [ESt.setViews];split
  ·cases Ty.beq _ te with
   | true=>exact zd9 te l ks _
   | false=>exact zd9 te l ks s
  ·exact zd9 te l ks s
theorem zhq (s:ESt) (id:Nat) (te:Ty) (l:List te.den):(s.freezeArr id te l).nxt=s.nxt:=by
 unfold ESt.freezeArr;rw [zd9,zeM];rfl
theorem zoM {s s':ESt} {k:Nat} {t:Ty} (h:s.datify k t=some s'):s'.nxt=s.nxt:=by
 unfold ESt.datify at h;split at h
 ·split at h
  ·obtain ⟨_,h⟩:=zaa h;cases h;exact zhq _ _ _ _
  ·split at h
   ·obtain ⟨_,h⟩:=zaa h;cases h;rw [zeM];rfl
   ·cases h
  ·cases h
 ·split at h
  ·obtain ⟨_,h⟩:=zaa h;cases h;exact zhq _ _ _ _
  ·cases h
 ·obtain ⟨_,h⟩:=zaa h;cases h;rfl
 ·split at h
  ·cases h;rfl
  ·cases h
 ·cases h
theorem zn6 (s:ESt) (x:Operand) (t:Ty):(s.dat0 x t).nxt=s.nxt:=by
 unfold ESt.dat0;split
 ·split
  ·rename_i h;exact zoM h
  ·rfl
 ·rfl
theorem znb (s:ESt) (id j:Nat):(s.boxDat1 id j).nxt=s.nxt:=by
 unfold ESt.boxDat1;split
 ·split
  ·split
   ·cases Nat.beq _ id<;>rfl
   ·split
    ·cases (!(Nat.beq _ id) && _ && _ && _)<;>rfl
    ·rfl
   ·rfl
  ·rfl
 ·rfl
theorem zkB (id:Nat):∀ (n:Nat) (s:ESt) (k:Nat),(s.boxDat id k n).nxt=s.nxt
 | 0,s,_=>rfl
 | n+1,s,k=>(zkB id n _ (k+1)).trans (znb s id k)
theorem zm0 (s:ESt) (id:Nat) (u:Ty):(s.treeify2 id u).nxt=s.nxt:=by
 unfold ESt.treeify2;split
 ·split
  ·cases u.chain with
   | false=>rfl
   | true=>simp only [cond_true];rw [zeM,zeM];rfl
  ·rfl
 ·rfl
theorem znV (s:ESt) (k:Nat) (u:Ty):(s.treeify k u).nxt=s.nxt:=by
 unfold ESt.treeify;split
 ·split
  ·rw [zm0,zkB]
  ·rfl
 ·rfl
theorem zr6 (s:ESt) (x:Operand) (t:Ty):(s.dat x t).nxt=s.nxt:=by
 unfold ESt.dat;split
 ·rw [zn6,znV]
 ·exact zn6 s x t
theorem zdV (TT:List TE) (ft:Nat->Option Nat):∀ (l:List (Nat×Operand)) (s:ESt),(zca TT ft s l).nxt=s.nxt
 | [],_=>rfl
 | (i,x)::r,s=>by
  simp only [zca];split
  ·split
   ·rw [zdV TT ft r,zr6]
   ·exact zdV TT ft r s
  ·exact zdV TT ft r s
theorem zmF (k:Int) (b:Nat) (hb:0 < b) (h:k * b<=140737488355328):k<=9223372036854775807:=by
 by_cases h0:0<=k
 ·have:k * 1<=k * (b:Int):=Int.mul_le_mul_of_nonneg_left (by omega) h0;omega
 ·omega
def zh7 (s:ESt) (g:Nat) (vals:List EV) (d:Nat) (pure:Bool) (K:ESt->Option R):List CE->Option R
 | []=>none
 | c::r=>bif Nat.beq c.f g && (!pure || c.sig.ents.isEmpty) then (match zeT s c vals d K with
  | some x=>x
  | none=>zh7 s g vals d pure K r) else zh7 s g vals d pure K r
theorem zft {s:ESt} {g:Nat} {vals:List EV} {d:Nat} {pure:Bool} {K:ESt->Option R} {q:R}:∀ {Γ:List CE},zh7 s g vals d pure K Γ=some q->∃ c∈Γ,c.f=g/\(pure=true->c.sig.ents=[])/\zeT s c vals d K=some (some q)
 | [],h=>by cases h
 | c::r,h=>by
  simp only [zh7] at h;cases hb:(Nat.beq c.f g && (!pure || c.sig.ents.isEmpty)) with
  | true=>
   rw [hb] at h;simp only [cond_true] at h;split at h
   ·rename_i x hx;subst h;simp only [Bool.and_eq_true] at hb;refine ⟨c,by simp,Nat.eq_of_beq_eq_true hb.1,fun hp => ?_,hx⟩;have:=hb.2;rw [hp] at this;simpa using this
   ·obtain ⟨c',h1,h2⟩:=zft h;exact ⟨c',by simp [h1],h2⟩
  | false=>
   rw [hb] at h;obtain ⟨c',h1,h2⟩:=zft (show zh7 s g vals d pure K r=some q from h);exact ⟨c',by simp [h1],h2⟩
def zdA (Γ:List CE) (s:ESt) (f:Operand) (args:Array Operand) (d:Nat) (pure:Bool) (K:ESt->Option R):Option R:=
 match s.ev f with
 | some (.fn g caps)=>match zh6 s args.toList with
  | some vals=>bif Nat.blt d s.n then grd (zkw s (vals++caps)) (zh7 s g (vals++caps) d pure K Γ) else none
  | none=>none
 | _=>none
def zcE:ESt->List Operand->ESt
 | s,[]=>s
 | s,x::r=>match s.ev x with
  | some (.own id)=>match s.ent id with
   | some (.arr _ t _)=>zcE (s.dat x (.list t)) r
   | some (.out f _)=>match look s.rws f with
    | some (some q)=>zcE (s.dat x (.list (.list q.t))) r
    | _=>zcE s r
   | _=>zcE s r
  | _=>zcE s r
theorem zem:∀ (l:List Operand) (s:ESt),Wk s (zcE s l)/\Sfx s (zcE s l)
 | [],s=>⟨Wk.refl s,Sfx.refl s⟩
 | x::r,s=>by
  simp only [zcE];split
  ·split
   ·rename_i t _ _;obtain ⟨h1,h2⟩:=zem r (s.dat x (.list t));exact ⟨(zdW s x _).trans h1,(Sfx.dat s x _).trans h2⟩
   ·split
    ·rename_i q _;obtain ⟨h1,h2⟩:=zem r (s.dat x (.list (.list q.t)));exact ⟨(zdW s x _).trans h1,(Sfx.dat s x _).trans h2⟩
    ·exact zem r s
   ·exact zem r s
  ·exact zem r s
def fitC (Γ:List CE) (s:ESt) (f:Operand) (args:Array Operand) (d:Nat) (pure:Bool):Bool:=match s.ev f with
 | some (.fn g caps)=>match zh6 s args.toList with
  | some vals=>Γ.any fun c=>Nat.beq c.f g && (!pure || c.sig.ents.isEmpty) && (match zeT (R:=Unit) s c (vals++caps) d (fun _=>none) with
   | some _=>true
   | none=>false)
  | none=>false
 | _=>false
def zc6 (TT:List TE):ESt->List EV->ESt
 | s,[]=>s
 | s,.ptr id _::r=>match s.ent id with
  | some (.box _ cs)=>zc6 TT ((s.boxDat id 0 cs.length).freeze1 TT id) r
  | _=>zc6 TT s r
 | s,_::r=>zc6 TT s r
theorem zdt (TT:List TE):∀ (l:List EV) (s:ESt),Wk s (zc6 TT s l)/\Sfx s (zc6 TT s l)
 | [],s=>⟨Wk.refl s,Sfx.refl s⟩
 | y::r,s=>by
  cases y with
  | ptr id o=>
   simp only [zc6];split
   ·rename_i cs _;obtain ⟨h1,h2⟩:=zkG TT (s.boxDat id 0 cs.length) id;obtain ⟨h3,h4⟩:=zdt TT r ((s.boxDat id 0 cs.length).freeze1 TT id);exact ⟨((zek id cs.length s 0).trans h1).trans h3,((Sfx.boxDat id cs.length s 0).trans h2).trans h4⟩
   ·exact zdt TT r s
  | _=>
   simp only [zc6];exact zdt TT r s
def zel (TT:List TE):ESt->List Operand->ESt
 | s,[]=>s
 | s,x::r=>match s.ev x with
  | some (.fn _ c)=>zel TT (zc6 TT s c) r
  | _=>zel TT s r
theorem zhd (TT:List TE):∀ (l:List Operand) (s:ESt),Wk s (zel TT s l)/\Sfx s (zel TT s l)
 | [],s=>⟨Wk.refl s,Sfx.refl s⟩
 | x::r,s=>by
  simp only [zel];split
  ·rename_i c _;obtain ⟨h1,h2⟩:=zdt TT c s;obtain ⟨h3,h4⟩:=zhd TT r (zc6 TT s c);exact ⟨h1.trans h3,h2.trans h4⟩
  ·exact zhd TT r s
def zlI (slots:List (Nat×SV)):Nat->List EV->List EV
 | _,[]=>[]
 | k,x::r=>match look slots k with
  | some (.addr _)=>x::zlI slots (k+1) r
  | _=>zlI slots (k+1) r
def zlb (TT:List TE) (Γ:List CE) (s:ESt) (f:Operand) (n:Nat):ESt:=match s.ev f with
 | some (.fn g caps)=>match Γ.find? (fun c=>Nat.beq c.f g) with
  | some c=>zc6 TT s (zlI c.sig.slots n caps)
  | none=>s
 | _=>s
theorem zoL (TT:List TE) (Γ:List CE) (s:ESt) (f:Operand) (n:Nat):Wk s (zlb TT Γ s f n)/\Sfx s (zlb TT Γ s f n):=by
 unfold zlb;split
 ·split
  ·exact zdt TT _ s
  ·exact ⟨Wk.refl s,Sfx.refl s⟩
 ·exact ⟨Wk.refl s,Sfx.refl s⟩
def ESt.cellDat (s:ESt) (id j:Nat):ESt:=match s.ent id with
 | some (.box _ cs)=>match cs[j]? with
  | some (.own id2)=>match s.ent id2 with
   | some (.out _ _)=>s.boxDat1 id j
   | _=>s
  | _=>s
 | _=>s
theorem zoI (s:ESt) (id j:Nat):Wk s (s.cellDat id j)/\Sfx s (s.cellDat id j):=by
 unfold ESt.cellDat;split
 ·split
  ·split
   ·exact ⟨zhZ _ _ _,Sfx.boxDat1 _ _ _⟩
   ·exact ⟨Wk.refl _,Sfx.refl _⟩
  ·exact ⟨Wk.refl _,Sfx.refl _⟩
 ·exact ⟨Wk.refl _,Sfx.refl _⟩
def ESt.cellsDat (id:Nat):Nat->ESt->ESt
 | 0,s=>s
 | j+1,s=>(ESt.cellsDat id j s).cellDat id j
theorem zjv (id:Nat):∀ (j:Nat) (s:ESt),Wk s (ESt.cellsDat id j s)/\Sfx s (ESt.cellsDat id j s)
 | 0,s=>⟨Wk.refl s,Sfx.refl s⟩
 | j+1,s=>by
  obtain ⟨h1,h2⟩:=zjv id j s;obtain ⟨h3,h4⟩:=zoI (ESt.cellsDat id j s) id j;exact ⟨h1.trans h3,h2.trans h4⟩
def zjt (s:ESt) (id:Nat):ESt:=match s.ent id with
 | some (.box _ cs)=>ESt.cellsDat id cs.length s
 | _=>s
theorem zoG (s:ESt) (id:Nat):Wk s (zjt s id)/\Sfx s (zjt s id):=by
 unfold zjt;split
 ·exact zjv _ _ _
 ·exact ⟨Wk.refl _,Sfx.refl _⟩
def zh2:ESt->List Operand->ESt
 | s,[]=>s
 | s,x::r=>match s.ev x with
  | some (.view _ t _ _)=>zh2 (s.dat x (.list t)) r
  | some (.ptr id _)=>zh2 (zjt s id) r
  | _=>zh2 s r
theorem zi5:∀ (l:List Operand) (s:ESt),Wk s (zh2 s l)/\Sfx s (zh2 s l)
 | [],s=>⟨Wk.refl s,Sfx.refl s⟩
 | x::r,s=>by
  simp only [zh2];split
  ·rename_i t _ _ _;obtain ⟨h1,h2⟩:=zi5 r (s.dat x (.list t));exact ⟨(zdW s x _).trans h1,(Sfx.dat s x _).trans h2⟩
  ·rename_i id _ _;obtain ⟨h0,h0'⟩:=zoG s id;obtain ⟨h1,h2⟩:=zi5 r (zjt s id);exact ⟨h0.trans h1,h0'.trans h2⟩
  ·exact zi5 r s
def ESt.datV (s:ESt) (TT:List TE) (x:Operand) (T:Nat):ESt:=match s.ev x with
 | some (.view _ _ _ _)=>match tyT TT T with
  | some t=>s.dat x t
  | none=>s
 | _=>s
theorem zpu (s:ESt) (TT:List TE) (x:Operand) (T:Nat):Wk s (s.datV TT x T)/\Sfx s (s.datV TT x T):=by
 unfold ESt.datV;split
 ·split
  ·exact ⟨zdW _ _ _,Sfx.dat _ _ _⟩
  ·exact ⟨Wk.refl _,Sfx.refl _⟩
 ·exact ⟨Wk.refl _,Sfx.refl _⟩
def zqf:List SV->List EV->List EV
 | .addr _::r,x::l=>x::zqf r l
 | _::r,_::l=>zqf r l
 | _,_=>[]
def zoj (s:ESt) (ents:List (Nat×SE)):List SV->List EV->List EV
 | .addr _::r,x::l=>x::zoj s ents r l
 | .ptr i _::r,.ptr id _::l=>(match look ents i,s.ent id with
  | some (.box _ svs),some (.box _ cs)=>zqf svs cs
  | _,_=>[])++zoj s ents r l
 | _::r,_::l=>zoj s ents r l
 | _,_=>[]
def zmy (s:ESt) (sh:Shape):Nat->List EV->List EV
 | _,[]=>[]
 | k,.fn _ caps::r=>(match look sh.slots k with
  | some (.fn _ svs)=>zoj s sh.ents svs caps
  | _=>[])++zmy s sh (k+1) r
 | k,_::r=>zmy s sh (k+1) r
def zi4 (TT:List TE) (Γ:List CE) (s:ESt) (f:Operand) (args:Array Operand) (d:Nat) (pure:Bool):Option ESt:=match s.ev f with
 | some (.fn g _)=>match zh6 s args.toList with
  | some vals=>match Γ.find? (fun c=>Nat.beq c.f g && !(zmy s c.sig 0 vals).isEmpty && fitC Γ (zc6 TT s (zmy s c.sig 0 vals)) f args d pure) with
   | some c=>some (zc6 TT s (zmy s c.sig 0 vals))
   | none=>none
  | none=>none
 | _=>none
theorem zjz {TT:List TE} {Γ:List CE} {s s1:ESt} {f:Operand} {args:Array Operand} {d:Nat} {pure:Bool} (h:zi4 TT Γ s f args d pure=some s1):Wk s s1/\Sfx s s1:=by
 unfold zi4 at h;split at h
 ·split at h
  ·split at h
   ·cases h;exact zdt TT _ s
   ·cases h
  ·cases h
 ·cases h
def zlf (TT:List TE) (Γ:List CE) (s:ESt) (f:Operand) (args:Array Operand) (d:Nat) (pure:Bool) (K:ESt->Option R):Option R:=
 bif fitC Γ s f args d pure then zdA Γ s f args d pure K else
  match zi4 TT Γ s f args d pure,zi4 TT Γ (zcE s args.toList) f args d pure with
  | some s1,_=>zdA Γ s1 f args d pure K
  | none,some s1=>zdA Γ s1 f args d pure K
  | none,none=>
  bif fitC Γ (zel TT s args.toList) f args d pure then zdA Γ (zel TT s args.toList) f args d pure K else
  bif fitC Γ (zcE s args.toList) f args d pure then zdA Γ (zcE s args.toList) f args d pure K else
   bif fitC Γ (zel TT (zcE s args.toList) args.toList) f args d pure then zdA Γ (zel TT (zcE s args.toList) args.toList) f args d pure K else
    zdA Γ (zlb TT Γ (zel TT (zcE s args.toList) args.toList) f args.size) f args d pure K
def ESt.nil1 (s:ESt) (id j E:Nat) (t:Ty):ESt:=match s.ent id with
 | some (.box T cs)=>match cs[j]? with
  | some .nil=>bif Nat.blt s.nxt LIM && Nat.blt 0 t.sz then (s.new (.arr E t ([]:List t.den))).put id (some (.box T (cs.set j (.own s.nxt)))) else s
  | _=>s
 | _=>s
theorem zlN (s:ESt) (id j E:Nat) (t:Ty):Wk s (s.nil1 id j E t)/\Sfx s (s.nil1 id j E t):=by
 unfold ESt.nil1;split
 ·rename_i T cs he;split
  ·rename_i hj;have hj':(EV.avL cs)[j]? =some .nil:=by rw [zbZ,List.getElem?_map,hj];rfl
   cases hb:Nat.blt s.nxt LIM && Nat.blt 0 t.sz with
   | false=>exact ⟨Wk.refl _,Sfx.refl _⟩
   | true=>
    simp only [Bool.and_eq_true] at hb;refine ⟨⟨fun F a w ⟨H,r⟩=>⟨H.add s.nxt (.slice none 0 0),?_⟩,fun k t x hx=>hx⟩,(Sfx.new _ _).trans (Sfx.put _ _ _)⟩;have:=r.nilcell (E:=E) (bts:=t.bts) (by have:=hb.1;show s.nxt < LIM;simpa using this) (show 0 < t.sz by simpa using hb.2) (zaq he) hj';rw [cond_true,zb7,zd4];simp only [Option.map,EEnt.ent,zgP];exact this
  ·exact ⟨Wk.refl _,Sfx.refl _⟩
 ·exact ⟨Wk.refl _,Sfx.refl _⟩
def zr7 (TT:List TE) (t:Nat):Option (Nat×Ty):=match zbe TT t with
 | some e=>match tyT TT e with
  | some te=>some (e,te)
  | none=>none
 | none=>none
def zti (TT:List TE) (T j:Nat):Option (Nat×Ty):=match fT TT T with
 | some ⟨_,.struct fs _,_,_,_,_,_⟩=>match fs.find? (fun p=>Nat.beq p.1 j) with
  | some (_,ft)=>zr7 TT ft
  | none=>none
 | some ⟨_,.slice _,_,_,_,_,_⟩=>bif Nat.beq j 0 then zr7 TT T else none
 | _=>none
def ESt.nilB (TT:List TE) (id T:Nat):Nat->ESt->ESt
 | 0,s=>s
 | j+1,s=>match zti TT T j with
  | some (E,t)=>(ESt.nilB TT id T j s).nil1 id j E t
  | none=>ESt.nilB TT id T j s
theorem znF (TT:List TE) (id T:Nat):∀ (j:Nat) (s:ESt),Wk s (ESt.nilB TT id T j s)/\Sfx s (ESt.nilB TT id T j s)
 | 0,s=>⟨Wk.refl _,Sfx.refl _⟩
 | j+1,s=>by
  obtain ⟨h1,h2⟩:=znF TT id T j s;simp only [ESt.nilB];split
  ·rename_i E t _;obtain ⟨h3,h4⟩:=zlN (ESt.nilB TT id T j s) id j E t;exact ⟨h1.trans h3,h2.trans h4⟩
  ·exact ⟨h1,h2⟩
def zqo (TT:List TE) (s:ESt) (x:EV):ESt:=match x with
 | .ptr id _=>match s.ent id with
  | some (.box T cs)=>ESt.nilB TT id T cs.length s
  | _=>s
 | _=>s
theorem zrj (TT:List TE) (s:ESt) (x:EV):Wk s (zqo TT s x)/\Sfx s (zqo TT s x):=by
 unfold zqo;split
 ·split
  ·exact znF TT _ _ _ s
  ·exact ⟨Wk.refl _,Sfx.refl _⟩
 ·exact ⟨Wk.refl _,Sfx.refl _⟩
def zop (TT:List TE):ESt->List EV->ESt
 | s,[]=>s
 | s,x::r=>zop TT (zqo TT s x) r
theorem zmG (TT:List TE):∀ (l:List EV) (s:ESt),Wk s (zop TT s l)/\Sfx s (zop TT s l)
 | [],s=>⟨Wk.refl _,Sfx.refl _⟩
 | x::r,s=>by
  obtain ⟨h1,h2⟩:=zrj TT s x;obtain ⟨h3,h4⟩:=zmG TT r (zqo TT s x);exact ⟨h1.trans h3,h2.trans h4⟩
def nilP (TT:List TE) (s:ESt) (x:EV):ESt:=match x with
 | .ptr id _=>match s.ent id with
  | some (.box T cs)=>zop TT (ESt.nilB TT id T cs.length s) cs
  | _=>s
 | _=>s
theorem zqp (TT:List TE) (s:ESt) (x:EV):Wk s (nilP TT s x)/\Sfx s (nilP TT s x):=by
 unfold nilP;split
 ·split
  ·rename_i T cs _;obtain ⟨h1,h2⟩:=znF TT _ T cs.length s;obtain ⟨h3,h4⟩:=zmG TT cs _;exact ⟨h1.trans h3,h2.trans h4⟩
  ·exact ⟨Wk.refl _,Sfx.refl _⟩
 ·exact ⟨Wk.refl _,Sfx.refl _⟩
def zo1 (TT:List TE):ESt->List EV->ESt
 | s,[]=>s
 | s,x::r=>zo1 TT (nilP TT s x) r
theorem zlO (TT:List TE):∀ (l:List EV) (s:ESt),Wk s (zo1 TT s l)/\Sfx s (zo1 TT s l)
 | [],s=>⟨Wk.refl _,Sfx.refl _⟩
 | x::r,s=>by
  obtain ⟨h1,h2⟩:=zqp TT s x;obtain ⟨h3,h4⟩:=zlO TT r (nilP TT s x);exact ⟨h1.trans h3,h2.trans h4⟩
def zfU (TT:List TE):ESt->List EV->ESt
 | s,[]=>s
 | s,.fn _ c::r=>zfU TT (zo1 TT s c) r
 | s,x::r=>zfU TT (nilP TT s x) r
theorem zib (TT:List TE):∀ (l:List EV) (s:ESt),Wk s (zfU TT s l)/\Sfx s (zfU TT s l)
 | [],s=>⟨Wk.refl _,Sfx.refl _⟩
 | x::r,s=>by
  by_cases hx:∃ f c,x = .fn f c
  ·obtain ⟨f,c,rfl⟩:=hx;simp only [zfU];obtain ⟨h1,h2⟩:=zlO TT c s;obtain ⟨h3,h4⟩:=zib TT r (zo1 TT s c);exact ⟨h1.trans h3,h2.trans h4⟩
  ·have e:zfU TT s (x::r)=zfU TT (nilP TT s x) r:=by
    cases x<;>first | rfl | exact absurd ⟨_,_,rfl⟩ hx
   rw [e];obtain ⟨h1,h2⟩:=zqp TT s x;obtain ⟨h3,h4⟩:=zib TT r (nilP TT s x);exact ⟨h1.trans h3,h2.trans h4⟩
def zjI (TT:List TE) (s:ESt) (f:Operand) (args:List Operand):ESt:=match s.ev f with
 | some (.fn g caps)=>match zh6 s args with
  | some vals=>zfU TT s (vals++[.fn g caps])
  | none=>s
 | _=>s
theorem zmr (TT:List TE) (s:ESt) (f:Operand) (args:List Operand):Wk s (zjI TT s f args)/\Sfx s (zjI TT s f args):=by
 unfold zjI;split
 ·split
  ·exact zib TT _ s
  ·exact ⟨Wk.refl _,Sfx.refl _⟩
 ·exact ⟨Wk.refl _,Sfx.refl _⟩
def zn7 (TT:List TE) (Γ:List CE) (s:ESt) (f:Operand) (args:Array Operand) (d:Nat) (pure:Bool) (K:ESt->Option R):Option R:=
 bif !(fitC Γ (zh2 s args.toList) f args d pure) && fitC Γ (zjI TT (zh2 s args.toList) f args.toList) f args d pure then
  zdA Γ (zjI TT (zh2 s args.toList) f args.toList) f args d pure K else zlf TT Γ (zh2 s args.toList) f args d pure K
def zlT (TT:List TE):List (Nat×Nat)->Option (List (Nat×Nat))
 | []=>some []
 | (off,ft)::r=>match fT TT ft with
  | some e=>match zlT TT r with
   | some l=>some ((off,e.size)::l)
   | none=>none
  | none=>none
theorem ziA {P:Program} {TT:List TE} (hT:TOK P TT):∀ {fa:List Field} {ps:List (Nat×Nat)},zlT TT (fa.map fun f=>(f.offset,f.type))=some ps->fa.mapM (fun f=>(P.info? f.type).map fun i=>(f.offset,i.size))=some ps
 | [],ps,h=>by cases h;rfl
 | f::fa,ps,h=>by
  simp only [List.map_cons,zlT] at h;split at h
  ·rename_i e he;split at h
   ·rename_i l hl;cases h;obtain ⟨h1,h2⟩:=zaK hT he;obtain ⟨i,h3,h4,_⟩:=h1.ti.inf;rw [h2] at h3;rw [List.mapM_cons,h3,ziA hT hl,<- h4];rfl
   ·cases h
  ·cases h
def EV.isNil:EV->Bool
 | .nil=>true
 | _=>false
def zrk (u:Option Ty) (cs:List EV) (K:EV->Option R):Option R:=bif cs.any EV.isNil then K (.agg cs) else match u with
 | some u=>match zic u cs with
  | some (y,[])=>bif u.agg then K (.d u y) else none
  | _=>K (.agg cs)
 | none=>K (.agg cs)
theorem zkO {u:Option Ty} {cs:List EV} {K:EV->Option R} {q:R} (h:zrk u cs K=some q):∃ x,Conv (.agg (EV.avL cs)) x.av/\K x=some q:=by
 unfold zrk at h;cases hn:cs.any EV.isNil
 case true=>rw [hn] at h;exact ⟨_,Conv.refl _,h⟩
 rw [hn] at h;simp only [cond_false] at h;split at h
 ·rename_i u;split at h
  ·rename_i y hy;have hb:=(zaa h).1;replace h:=(zaa h).2;obtain ⟨l1,h1,h2⟩:=zcn hy;rw [List.append_nil] at h1;subst h1;refine ⟨_,?_,h⟩;intro w S H v hv;show VRel w S H (.d (encD u y)) v;rw [zbn hb];exact VRel.packn hv h2
  ·exact ⟨_,Conv.refl _,h⟩
 ·exact ⟨_,Conv.refl _,h⟩
def zle (TT:List TE) (s:ESt) (t:Nat) (parts:List (Nat×Operand)) (K:EV->Option R):Option R:=match fT TT t with
 | some e=>match zi7 s parts with
  | some xs=>match e.z with
   | .agg zs=>match e.td with
    | .struct fs _=>match zlT TT fs with
     | some places=>match zoR (fun i=>places[i]?) (zs.toList.map EV.con) xs with
      | some cs=>zrk e.ty cs K
      | none=>none
     | none=>none
    | .array _ el=>match fT TT el with
     | some E=>match zoR (fun i=>some (i * E.size,E.size)) (zs.toList.map EV.con) xs with
      | some cs=>zrk e.ty cs K
      | none=>none
     | none=>none
    | _=>none
   | _=>none
  | none=>none
 | none=>none
theorem zpq (zs:Array Value):EV.avL (zs.toList.map EV.con)=zs.toList.map avc:=by
 rw [zbZ,List.map_map];exact List.map_congr_left fun v _=>zn4 v
section
variable {P:Program} {TT:List TE} {F:Fr} {s:ESt} {o:Oper} {q:R}
theorem zhf (hT:TOK P TT) {K:EV->Option R} {t:Nat} {parts:Array (Nat×Operand)} (ho:o.op = .build t parts) (h:zle TT s t parts.toList K=some q):∃ z,RO P F s.st o z.av/\K z=some q:=by
 unfold zle at h;split at h
 ·rename_i e he;split at h
  ·rename_i xs hxs;split at h
   ·rename_i zs hz;obtain ⟨hte,rfl⟩:=zaK hT he;have hti:=hte.ti;rw [hz] at hti;split at h
    ·rename_i fs _ htd;split at h
     ·rename_i places hp;split at h
      ·rename_i cs hcs;obtain ⟨x,hx,hk⟩:=zkO h;have htd':=hte.td;rw [htd] at htd';obtain ⟨⟨fa,hu,hfs⟩,_⟩:=htd';rw [<- hfs] at hp;refine ⟨x,RO.conv ?_ hx,hk⟩;have hf:=zlx hcs;rw [zpq] at hf;exact RO.build ho hu hti (ziA hT hp) (zeV hxs) hf
      ·cases h
     ·cases h
    ·rename_i n el htd;split at h
     ·rename_i E hE;split at h
      ·rename_i cs hcs;obtain ⟨x,hx,hk⟩:=zkO h;have htd':=hte.td;rw [htd] at htd';obtain ⟨hEk,rfl⟩:=zaK hT hE;refine ⟨x,RO.conv ?_ hx,hk⟩;have hf:=zlx hcs;rw [zpq] at hf;exact RO.buildA ho htd' hti hEk.ti (zeV hxs) hf
      ·cases h
     ·cases h
    ·cases h
   ·cases h
  ·cases h
 ·cases h
end
theorem AL.ro {P:Program} {F:Fr} {σ:St} {o:Oper} {d:Nat} {x:AV} (hd:o.dst=some d) (hlt:Nat.blt d σ.n=true) (h:RO P F σ o x):AL P F σ o (·=σ.set d x):=by
 intro a w ⟨H,r⟩;obtain ⟨v,hv,hx⟩:=h H a w r;have hlt':d < σ.n:=by simpa using hlt
 have r':=r.set hlt' hx;rw [<- hd] at r';exact zhV hv ⟨⟨v,rfl⟩,Ext.refl w,_,rfl,H,r'⟩
def evA (TT:List TE) (Γ:List CE) (s:ESt) (o:Oper) (K:ESt->Option R):Option R:=match o.dst with
 | none=>none
 | some d=>bif Nat.blt s.nxt LIM && Nat.blt d s.n then (match o.op with
  | .box T x=>match (frzV TT s (s.ev x)).ev x with
   | some v=>match v.cellsOf with
    | some cs=>K (((frzV TT s (s.ev x)).new (.box T cs)).set d (.ptr s.nxt 0))
    | none=>none
   | none=>none
  | .alloc T=>match fT TT T with
   | some e=>match (EV.con e.z).cellsOf with
    | some cs=>K ((s.new (.box T cs)).set d (.ptr s.nxt 0))
    | none=>none
   | none=>none
  | .buildSlice t n parts=>match zbe TT t with
   | some e=>match tyT TT e with
    | some te=>match zln (zca TT (fun _=>some e) s parts.toList) te parts.toList 0 with
     | some ys=>bif Nat.blt 0 te.sz && Nat.beq n parts.toList.length && Nat.ble (n * te.bts) most && Nat.ble (n * te.sz) 16777216 then
       K (((zca TT (fun _=>some e) s parts.toList).new (.arr e te ys)).set d (.own s.nxt)) else none
     | none=>none
    | none=>none
   | none=>none
  | .makeSlice t l c=>match zbe TT t with
   | some e=>match tyT TT e with
    | some te=>match s.ev l,s.ev c with
     | some (.d (.int .i64) m),some (.d (.int .i64) k)=>bif Nat.blt 0 te.sz && Nat.blt 0 te.bts then
       G (mkOK m k te.bts) (K ((s.new (.arr e te (List.replicate m.toNat te.dflt))).set d (.own s.nxt))) else none
     | _,_=>none
    | none=>none
   | none=>none
  | .call c=>match c.callee with
   | .value f=>zn7 TT Γ s f c.args d true K
   | _=>none
  | .slice t x none (some y) none=>match zbe TT t with
   | some e=>match tyT TT e with
    | some te=>match s.ev x,s.ev y with
     | some (.own k),some (.d (.int .i64) j)=>match s.ent k with
      | some (.arr E te' l)=>bif Ty.beq te' te then G (0<=j/\j<=(l.length:Int)) (K (((s.put k none).new (.arr E te' (l.take j.toNat))).set d (.own s.nxt))) else none
      | _=>none
     | _,_=>none
    | none=>none
   | none=>none
  | .slice t x (some y) none none=>match zbe TT t with
   | some e=>match tyT TT e with
    | some te=>match s.ev x,s.ev y with
     | some (.own k),some (.d (.int .i64) j)=>match s.ent k with
      | some (.arr E te' l)=>bif Ty.beq te' te then G (0<=j/\j<=(l.length:Int)) (K (((s.put k none).new (.arr E te' (l.drop j.toNat))).set d (.own s.nxt))) else none
      | _=>none
     | _,_=>none
    | none=>none
   | none=>none
  | .build t parts=>zle TT s t parts.toList fun x=>K (s.set d x)
  | .load t x=>match fT TT t with
   | some e=>match s.ev x with
    | some (.ptr id k)=>match s.ent id with
     | some (.box _ cs)=>bif e.ag && Nat.ble (k+e.size) cs.length then K (s.set d (.agg ((cs.drop k).take e.size))) else none
     | _=>none
    | _=>none
   | none=>none
  | .makeMap t none=>match mapT TT t with
   | some (kt,et)=>match tyT TT kt,tyT TT et with
    | some k,some v=>K ((s.new (.box t [.d (.list k) ([]:List k.den),.d (.list v) ([]:List v.den)])).set d (.own s.nxt))
    | _,_=>none
   | none=>none
  | _=>none) else none
def zpT (TT:List TE) (s:ESt) (t:Nat) (x y c:Operand) (K:ESt->Option R):Option R:=match mapT TT t with
 | some _=>match s.ev x with
  | some (.own id)=>match s.ent id with
   | some (.box T [.d (.list k) ks,.d (.list v) vs])=>bif skT TT t k then (match s.ev y,s.ev c with
    | some yv,some cv=>match yv.exact k,cv.exact v with
     | some key,some el=>K (s.put id (some (.box T [.d (.list k) (zb1 ks key),.d (.list v) (zks ks vs key el)])))
     | _,_=>none
    | _,_=>none) else none
   | _=>none
  | _=>none
 | none=>none
def zq2 (TT:List TE) (s:ESt) (t:Nat) (x y c:Operand) (K:ESt->Option R):Option R:=match s.ev x with
 | some (.own id)=>match s.ent id with
  | some (.box _ [.d _ _,.d (.list v) _])=>zpT TT (s.dat c v) t x y c K
  | _=>none
 | _=>none
def zpS (TT:List TE) (s:ESt) (t:Nat) (x y:Operand) (d:Nat) (K:ESt->Option R):Option R:=match mapT TT t with
 | some (_,et)=>match s.ev x with
  | some (.own id)=>match s.ent id with
   | some (.box T [.d (.list k) ks,.d (.list v) vs])=>bif skT TT t k && zrD TT et v && Nat.blt d s.n then (match s.ev y with
    | some yv=>match yv.exact k with
     | some key=>K ((s.put id (some (.box T [.d (.list k) (zb1 ks key),.d (.list v) (zdS ks vs key v.dflt)]))).set d (.tup [.d v (mget ks vs key v.dflt),.d (.int .i64) (mpos ks key)]))
     | none=>none
    | none=>none) else none
   | _=>none
  | _=>none
 | none=>none
def zpM (s:ESt) (x y c:Operand) (K:ESt->Option R):Option R:=match s.ev x with
 | some (.own id)=>match s.ent id with
  | some (.box T [.d (.list k) ks,.d (.list v) vs])=>match s.ev y,s.ev c with
   | some (.d (.int .i64) p),some cv=>match cv.exact v with
    | some el=>G (0<=p/\p < (vs.length:Int)) (K (s.put id (some (.box T [.d (.list k) ks,.d (.list v) (vs.set (Int.toNat p) el)]))))
    | none=>none
   | _,_=>none
  | _=>none
 | _=>none
def zsa (s:ESt) (x y c:Operand) (K:ESt->Option R):Option R:=match s.ev x with
 | some (.own id)=>match s.ent id with
  | some (.box _ [.d _ _,.d (.list v) _])=>zpM (s.dat c v) x y c K
  | _=>none
 | _=>none
def zto (s:ESt) (y:Operand) (te:Ty):Option (List te.den):=match s.ev y with
 | some (.d ty yv)=>zaG ty (.list te) yv
 | some (.own id)=>match s.ent id with
  | some (.arr _ ty yv)=>zaG (.list ty) (.list te) yv
  | _=>none
 | some .nil=>some ([]:List te.den)
 | _=>none
def zrH (s:ESt) (y:Operand) (te:Ty):Option (Option (Nat×Nat×List te.den)):=match s.ev y with
 | some (.view id t i n)=>match s.ent id with
  | some (.arr _ ty yv)=>bif Ty.beq t te then (match zaG (.list ty) (.list te) yv with
   | some l=>some (some (i,n,l))
   | none=>some none) else some none
  | _=>some none
 | _=>none
def zkg {R:Type} (s:ESt) (y:Operand) (te:Ty) (K:List te.den->Option R):Option R:=match zrH s y te with
 | some (some (i,n,l))=>G (i+n<=l.length) (K ((l.drop i).take n))
 | some none=>none
 | none=>match zto s y te with
  | some ys=>K ys
  | none=>none
theorem zf4 {R:Type} {s:ESt} {y:Operand} {te:Ty} {K:List te.den->Option R} {q:R} (h:zkg s y te K=some q):∃ ys,Src s.st y (α:=te.den) ys/\K ys=some q:=by
 unfold zkg at h;split at h
 ·rename_i i n l hv;obtain ⟨hg,h⟩:=zaB h;refine ⟨_,?_,h⟩;unfold zrH at hv;split at hv
  ·rename_i id t i' n' h1;split at hv
   ·rename_i E ty yv h2;cases hb:Ty.beq t te with
    | false=>rw [hb] at hv;cases hv
    | true=>
     rw [hb] at hv;simp only [cond_true] at hv;split at hv
     ·rename_i l' hl;cases hv;have:=Ty.eq_of_beq hb;subst this;obtain ⟨e',rfl⟩:=zaw hl;cases e';exact .inr (.inr (.inr ⟨id,E,i,n,_,zag h1,zaq h2,rfl,hg⟩))
     ·cases hv
   ·cases hv
  ·cases hv
 ·cases h
 ·split at h
  ·rename_i ys hys;refine ⟨ys,?_,h⟩;unfold zto at hys;split at hys
   ·rename_i ty yv h1;obtain ⟨rfl,rfl⟩:=zaw hys;exact .inl (zag h1)
   ·rename_i id h1;split at hys
    ·rename_i E ty yv h2;obtain ⟨e',rfl⟩:=zaw hys;cases e';exact .inr (.inl ⟨id,E,zag h1,zaq h2⟩)
    ·cases hys
   ·rename_i h1;cases hys;exact .inr (.inr (.inl ⟨zag h1,rfl⟩))
   ·cases hys
  ·cases h
def zpI (TT:List TE) (s:ESt) (x y:Operand) (t:Nat) (d:Nat) (K:ESt->Option R):Option R:=match zbe TT t with
 | some e=>match tyT TT e with
  | some te=>bif Nat.blt d s.n then zkg s y te (fun ys=>match s.ev x with
    | some (.own k)=>match s.ent k with
     | some (.arr E ty xv)=>match zaG (.list ty) (.list te) xv with
      | some xs=>K ((s.put k (some (.arr E te (ys.take xs.length++xs.drop ys.length)))).set d (.d (.int .i64) ((min ys.length xs.length:Nat):Int)))
      | none=>none
     | _=>none
    | some (.view k t2 i m)=>match s.ent k with
     | some (.arr E ty xv)=>match zaG (.list ty) (.list te) xv with
      | some xs=>bif Ty.beq t2 te then G (i+m<=xs.length) (K ((s.put k (some (.arr E te (xs.take i++ys.take (min ys.length m)++xs.drop (i+min ys.length m))))).set d (.d (.int .i64) ((min ys.length m:Nat):Int)))) else none
      | none=>none
     | _=>none
    | _=>none) else none
  | none=>none
 | none=>none
def znk (TT:List TE) (s:ESt) (x:Operand) (t:Nat) (K:ESt->Option R):Option R:=match zbe TT t with
 | some e=>match tyT TT e with
  | some te=>match s.ev x with
   | some (.view k t2 i m)=>match s.ent k with
    | some (.arr E ty xv)=>match zaG (.list ty) (.list te) xv with
     | some xs=>bif Ty.beq t2 te then G (i+m<=xs.length) (K (s.put k (some (.arr E te (xs.take i++List.replicate m te.dflt++xs.drop (i+m)))))) else none
     | none=>none
    | _=>none
   | _=>none
  | none=>none
 | none=>none
def zld (TT:List TE) (s:ESt) (x y:Operand) (t:Nat) (d:Nat) (K:ESt->Option R):Option R:=match zbe TT t with
 | some e=>match tyT TT e with
  | some te=>bif Nat.blt 0 te.sz && Nat.blt 0 te.bts && Nat.blt s.nxt LIM && Nat.blt d s.n then zkg s y te (fun ys=>match s.ev x with
    | some (.own k)=>match s.ent k with
     | some (.arr E ty xv)=>match zaG (.list ty) (.list te) xv with
      | some xs=>bif Nat.beq E e then G (room xs ys te.bts) (K (((s.put k none).new (.arr e te (xs++ys))).set d (.own s.nxt))) else none
      | none=>none
     | _=>none
    | some .nil=>G (room ([]:List te.den) ys te.bts) (K ((s.new (.arr e te ys)).set d (.own s.nxt)))
    | some (.full ty xv)=>match zaG (.list ty) (.list te) xv with
     | some xs=>G (0 < ys.length/\room xs ys te.bts) (K ((s.new (.arr e te (xs++ys))).set d (.own s.nxt)))
     | none=>none
    | _=>none) else none
  | none=>none
 | none=>none
def intT (TT:List TE) (id:Nat):Option IntKind:=match fT TT id with
 | some ⟨_,.int k,_,_,_,_,_⟩=>some k
 | _=>none
theorem zp5 {P:Program} {TT:List TE} {id:Nat} {k:IntKind} (hT:TOK P TT) (h:intT TT id=some k):P.underlying id=some (.int k):=by
 unfold intT at h;split at h
 ·rename_i he;cases h;obtain ⟨h1,h2⟩:=zaK hT he;cases h2;exact h1.td
 ·cases h
def zjC (TT:List TE) (s:ESt) (x y:Operand) (t u:Nat) (d:Nat) (K:ESt->Option R):Option R:=match zbe TT t with
 | some e=>match tyT TT e with
  | some te=>match intT TT u,s.ev x,s.ev y with
   | some _,some .nil,some (.d (.int .i64) n)=>bif Nat.blt 0 te.sz && Nat.blt 0 te.bts && Nat.blt s.nxt LIM && Nat.blt d s.n then
     G (0 < n/\n * (te.bts:Int)<=140737488355328) (K ((s.new (.arr e te (List.replicate n.toNat te.dflt))).set d (.own s.nxt))) else none
   | _,_,_=>none
  | none=>none
 | none=>none
def zlt (TT:List TE) (s:ESt) (t:Nat) (x y:Operand) (K:ESt->Option R):Option R:=match s.ev x with
 | some (.ptr id k)=>match s.ent id with
  | some (.box T cs)=>match fT TT t with
   | some e=>match s.ev y with
    | some v=>match v.cellsOf with
     | some ys=>bif ys.all EV.oneB && Nat.beq ys.length e.size && Nat.ble (k+e.size) cs.length then
       K (s.put id (some (.box T (zmU cs k ys)))) else none
     | none=>none
    | none=>none
   | none=>none
  | _=>none
 | some (.eptr id te j k)=>match tyT TT t with
  | some u=>match (s.dat y u).ev y with
   | some v=>match v.exact u with
    | some c=>match (s.dat y u).ent id with
     | some (.arr E te' l)=>bif Ty.beq te te' then (match (s.dat y u).ev x with
       | some (.eptr id2 te2 j2 k2)=>bif Nat.beq id2 id && Ty.beq te2 te' && Nat.beq k2 k then (match znR te' (l.getD j2 te'.dflt) k u c with
        | some z=>G (j2 < l.length) (K ((s.dat y u).put id (some (.arr E te' (l.set j2 z)))))
        | none=>none) else none
       | _=>none) else none
     | _=>none
    | none=>none
   | none=>none
  | none=>none
 | _=>none
def vecE (te:Ty) (l:List te.den) (n:Nat):List EV:=(List.range n).map fun i => .d te (l.getD i te.dflt)
def zlu (TT:List TE) (s:ESt) (t:Nat) (x y:Operand) (K:ESt->Option R):Option R:=match s.ev x with
 | some (.vptr id off n te j)=>match s.ent id with
  | some (.box T cs)=>match fT TT t with
   | some e=>bif Nat.beq e.size 1 && !te.agg then (match zmz te n (cs.drop off) with
    | some l=>match s.ev y with
     | some v=>match v.exact te with
      | some c=>G (j < n) (K (s.put id (some (.box T (zmU cs off (vecE te (l.set j c) n))))))
      | none=>none
     | none=>none
    | none=>none) else none
   | none=>none
  | _=>none
 | _=>none
def zls (TT:List TE) (s:ESt) (t:Nat) (x y:Operand) (K:ESt->Option R):Option R:=zlt TT (frzV TT s (s.ev y)) t x y K
def evE (TT:List TE) (Γ:List CE) (s:ESt) (o:Oper) (K:ESt->Option R):Option R:=match o.op,o.dst with
 | .store t x y,none=>bif zoh s x then zlu TT s t x y K else zls TT s t x y K
 | .mapUpdate t x y c,none=>zq2 TT s t x y c K
 | .insert t x y c,none=>zq2 TT s t x y c K
 | .mapEntry t x y,some d=>zpS TT s t x y d K
 | .entryStore _ x y c,none=>zsa s x y c K
 | .call c,some d=>match c.callee,c.args.toList,c.argTypes.toList with
  | .builtin .append,[x,y],[t,t']=>bif Nat.beq t t' then zld TT s x y t d K else zjC TT s x y t t' d K
  | .builtin .copy,[x,y],[t,_]=>zpI TT s x y t d K
  | .value f,_,_=>zn7 TT Γ s f c.args d false K
  | _,_,_=>none
 | .call c,none=>match c.callee,c.args.toList,c.argTypes.toList with
  | .builtin .clear,[x],[t]=>znk TT s x t K
  | _,_,_=>none
 | _,_=>evA TT Γ s o K
section
variable {P:Program} {TT:List TE} {Γ:List CE} {F:Fr} {s:ESt} {o:Oper} {K:ESt->Option R} {q:R}
def Post (s:ESt) (K:ESt->Option R) (q:R) (σ':St):Prop:=∃ s',σ'=s'.st/\Sfx s s'/\K s'=some q
theorem AL.post {σ:St} {p p':St->Prop} (h:AL P F σ o p) (hp:∀ x,p x->p' x):AL P F σ o p':=
 fun a w r=>Oper.wp_mono2 (fun _ _ ⟨h1,h2,x,h3,h4⟩=>⟨h1,h2,x,hp x h3,h4⟩) (fun _ _ _ h=>h) (h a w r)
theorem EF.post {σ:St} {p p':St->Prop} (h:EF P F σ o p) (hp:∀ x,p x->p' x):EF P F σ o p':=
 fun a w r=>Oper.wp_mono2 (fun _ _ ⟨h0,x,h3,h4⟩=>⟨h0,x,hp x h3,h4⟩) (fun _ _ _ h=>h) (h a w r)
theorem zeS (hG:GOK P Γ) {f:Operand} {args:Array Operand} {ts:Array TypeId} {d:Nat} {pure:Bool} (hd:o.dst=some d) (ho:o.op = .call { callee := .value f,args:=args,argTypes:=ts })
  (h:zdA Γ s f args d pure K=some q):∀ (a:Act) (w:World),Rel F s.st a w->o.wp P a w (fun a' w'=>((∃ u,a'=a.put o.dst u)/\(pure=true->Ext w w'))/\∃ σ',Post s K q σ'/\Rel F σ' a' w') (fun _ _ _=>False):=by
 unfold zdA at h;split at h
 ·rename_i g caps hf;split at h
  ·rename_i vals hv;have hb:=(zaa h).1;replace h:=(zaa h).2;obtain ⟨hrg,h⟩:=zlE h;obtain ⟨c,hc,hcf,hpure,hat⟩:=zft h;intro a w r;refine Oper.wp_mono2 (fun a' w' hh => ?_) (fun _ _ _ h=>h) (zgC (hG c hc) hd hb ho (by rw [hcf];exact hf) hv hrg hat a w r);exact ⟨⟨hh.1.1,fun hp=>hh.1.2 (hpure hp)⟩,hh.2⟩
  ·cases h
 ·cases h
theorem zhg (hG:GOK P Γ) {f:Operand} {args:Array Operand} {ts:Array TypeId} {d:Nat} {pure:Bool} (hd:o.dst=some d) (ho:o.op = .call { callee := .value f,args:=args,argTypes:=ts })
  (h:zlf TT Γ s f args d pure K=some q):∀ (a:Act) (w:World),Rel F s.st a w->o.wp P a w (fun a' w'=>((∃ u,a'=a.put o.dst u)/\(pure=true->Ext w w'))/\∃ σ',Post s K q σ'/\Rel F σ' a' w') (fun _ _ _=>False):=by
 unfold zlf at h;cases hb:fitC Γ s f args d pure with
 | true=>rw [hb] at h;exact zeS hG hd ho h
 | false=>
  rw [hb,cond_false] at h;have go:∀ s0:ESt,Wk s s0->Sfx s s0->zdA Γ s0 f args d pure K=some q->∀ (a:Act) (w:World),Rel F s.st a w->o.wp P a w (fun a' w'=>((∃ u,a'=a.put o.dst u)/\(pure=true->Ext w w'))/\∃ σ',Post s K q σ'/\Rel F σ' a' w') (fun _ _ _=>False):=by
   intro s0 h1 h2 h a w r;refine Oper.wp_mono2 (fun a' w' ⟨g1,σ',⟨s',e1,e2,e3⟩,g3⟩ => ?_) (fun _ _ _ h=>h) (zeS hG hd ho h a w (h1.rel F a w r));exact ⟨g1,σ',⟨s',e1,h2.trans e2,e3⟩,g3⟩
  obtain ⟨h1,h2⟩:=zem args.toList s;split at h
  ·rename_i s1 e1;obtain ⟨u1,u2⟩:=zjz e1;exact go _ u1 u2 h
  ·rename_i s1 _ e1;obtain ⟨v1,v2⟩:=zjz e1;exact go _ (h1.trans v1) (h2.trans v2) h
  ·obtain ⟨k1,k2⟩:=zhd TT args.toList s;cases hb0:fitC Γ (zel TT s args.toList) f args d pure with
   | true=>rw [hb0] at h;exact go _ k1 k2 h
   | false=>
   rw [hb0,cond_false] at h;cases hb2:fitC Γ (zcE s args.toList) f args d pure with
   | true=>rw [hb2] at h;exact go _ h1 h2 h
   | false=>
    rw [hb2] at h;obtain ⟨h3,h4⟩:=zhd TT args.toList (zcE s args.toList);rw [cond_false] at h;cases hb3:fitC Γ (zel TT (zcE s args.toList) args.toList) f args d pure with
    | true=>rw [hb3] at h;exact go _ (h1.trans h3) (h2.trans h4) h
    | false=>
     rw [hb3] at h;obtain ⟨h5,h6⟩:=zoL TT Γ (zel TT (zcE s args.toList) args.toList) f args.size;exact go _ ((h1.trans h3).trans h5) ((h2.trans h4).trans h6) h
theorem zir (hG:GOK P Γ) {f:Operand} {args:Array Operand} {ts:Array TypeId} {d:Nat} {pure:Bool} (hd:o.dst=some d) (ho:o.op = .call { callee := .value f,args:=args,argTypes:=ts })
  (h:zn7 TT Γ s f args d pure K=some q):∀ (a:Act) (w:World),Rel F s.st a w->o.wp P a w (fun a' w'=>((∃ u,a'=a.put o.dst u)/\(pure=true->Ext w w'))/\∃ σ',Post s K q σ'/\Rel F σ' a' w') (fun _ _ _=>False):=by
 intro a w r;obtain ⟨h1,h2⟩:=zi5 args.toList s;unfold zn7 at h;cases hb : !(fitC Γ (zh2 s args.toList) f args d pure) && fitC Γ (zjI TT (zh2 s args.toList) f args.toList) f args d pure with
 | true=>
  rw [hb,cond_true] at h;obtain ⟨h3,h4⟩:=zmr TT (zh2 s args.toList) f args.toList;refine Oper.wp_mono2 (fun a' w' ⟨g1,σ',⟨s',e1,e2,e3⟩,g3⟩ => ?_) (fun _ _ _ h=>h) (zeS hG hd ho h a w ((h1.trans h3).rel F a w r));exact ⟨g1,σ',⟨s',e1,(h2.trans h4).trans e2,e3⟩,g3⟩
 | false=>
 rw [hb,cond_false] at h;refine Oper.wp_mono2 (fun a' w' ⟨g1,σ',⟨s',e1,e2,e3⟩,g3⟩ => ?_) (fun _ _ _ h=>h) (zhg hG hd ho h a w (h1.rel F a w r));exact ⟨g1,σ',⟨s',e1,h2.trans e2,e3⟩,g3⟩
theorem zme (hT:TOK P TT) (hG:GOK P Γ) (h:evA TT Γ s o K=some q):∃ s0,Wk s s0/\Sfx s s0/\AL P F s0.st o (Post s K q):=by
 unfold evA at h;split at h
 ·cases h
 ·rename_i d hd;have hb:=(zaa h).1;replace h:=(zaa h).2;simp only [Bool.and_eq_true] at hb;split at h
  ·rename_i T x ho;split at h
   ·rename_i v hv;split at h
    ·rename_i cs hcs;obtain ⟨h1,h2⟩:=zdU hcs;obtain ⟨hw,hs⟩:=zp3 TT s (s.ev x);have hnxt:=zq8 TT s (s.ev x);generalize frzV TT s (s.ev x)=s0 at h hv hw hs hnxt;refine ⟨s0,hw,hs,(AL.box (P:=P) (F:=F) (σ:=s0.st) s0.nxt rfl (by rw [hnxt];exact hb.1) hd (by show Nat.blt d s0.n=true;rw [hs.n];exact hb.2) ho (zag hv) h2).post fun x hx => ?_⟩;subst hx;exact ⟨_,by rw [zcB,zd4,h1,<- hnxt];rfl,hs.trans ((Sfx.new _ _).trans (Sfx.set _ _ _)),h⟩
    ·cases h
   ·cases h
  ·rename_i T ho;split at h
   ·rename_i e he;split at h
    ·rename_i cs hcs;obtain ⟨h1,h2⟩:=zdU hcs;rw [zn4] at h1 h2;obtain ⟨hte,rfl⟩:=zaK hT he;refine ⟨s,Wk.refl _,Sfx.refl _,(AL.alloc (P:=P) (F:=F) (σ:=s.st) s.nxt rfl hb.1 hd hb.2 ho hte.ti h2).post fun x hx => ?_⟩;subst hx;exact ⟨_,by rw [zcB,zd4,h1];rfl,(Sfx.new _ _).trans (Sfx.set _ _ _),h⟩
    ·cases h
   ·cases h
  ·rename_i t n parts ho;split at h
   ·rename_i e he;split at h
    ·rename_i te hte;split at h
     ·rename_i ys hys;have hb2:=(zaa h).1;replace h:=(zaa h).2;simp only [Bool.and_eq_true] at hb2;obtain ⟨⟨⟨g1,g2⟩,g3⟩,g4⟩:=hb2;obtain ⟨hw,hs⟩:=zdy TT (fun _=>some e) parts.toList s;generalize hs0:zca TT (fun _=>some e) s parts.toList=s0 at h hys hw hs;obtain ⟨z,hz,hzc⟩:=zaF hT hte;have g1':0 < te.sz:=by simpa using g1
      obtain ⟨k1,xs,k2,k3⟩:=zis g1' [] hys (by simp);have hn:n=ys.length:=by rw [Nat.eq_of_beq_eq_true g2];exact k1
      have hnxt:s0.nxt=s.nxt:=by rw [<- hs0];exact zdV TT _ _ _
      refine ⟨s0,hw,hs,(AL.litsN (P:=P) (F:=F) (σ:=s0.st) (α:=te.den) (ys:=ys) (xs:=xs) s0.nxt rfl (by rw [hnxt];exact hb.1) hd (by show Nat.blt d s0.n=true;rw [hs.n];exact hb.2) ho (zah hT he) hz rfl g1 k2 (by rw [hn];rw [List.nil_append,List.nil_append] at k3;exact k3) hn rfl g3 g4).post fun x hx => ?_⟩;subst hx;exact ⟨_,by rw [zcB,zd4,hnxt];rfl,hs.trans ((Sfx.new _ _).trans (Sfx.set _ _ _)),h⟩
     ·cases h
    ·cases h
   ·cases h
  ·rename_i t l c ho;split at h
   ·rename_i e he;split at h
    ·rename_i te hte;split at h
     ·rename_i m k hm hk;have hb2:=(zaa h).1;replace h:=(zaa h).2;simp only [Bool.and_eq_true] at hb2;obtain ⟨hg,h⟩:=zaB h;obtain ⟨z,hz,hzc⟩:=zaF hT hte;have hpos:0 < te.sz:=by simpa using hb2.1
      have hbp:0 < te.bts:=by simpa using hb2.2
      have hk63:=zmF k te.bts hbp hg.2.2;refine ⟨s,Wk.refl _,Sfx.refl _,(AL.make (P:=P) (F:=F) (σ:=s.st) (α:=te.den) (z0:=te.dflt) s.nxt rfl hb.1 hd hb.2 ho (zah hT he) hz rfl rfl hpos (zag hm) (zag hk) (by rw [hzc];exact zrs te) hg.1 hg.2.1 hg.2.2 hk63).post fun x hx => ?_⟩;subst hx;exact ⟨_,by rw [zcB,zd4];rfl,(Sfx.new _ _).trans (Sfx.set _ _ _),h⟩
     ·cases h
    ·cases h
   ·cases h
  ·rename_i c ho;split at h
   ·rename_i f hf;refine ⟨s,Wk.refl _,Sfx.refl _,fun a w r=>Oper.wp_mono2 (fun a' w' hh => ?_) (fun _ _ _ h=>h) (zir hG hd (ts:=c.argTypes) (by rw [ho,<- hf]) h a w r)⟩;exact ⟨hh.1.1,hh.1.2 rfl,hh.2⟩
   ·cases h
  ·rename_i t x y ho;split at h
   ·rename_i e he;split at h
    ·rename_i te hte;split at h
     ·rename_i k j hx hy;split at h
      ·rename_i E te' l hk;have hb2:=(zaa h).1;replace h:=(zaa h).2;have:=Ty.eq_of_beq hb2;subst this;obtain ⟨hj,h⟩:=zaB h;obtain ⟨z,hz,hzc⟩:=zaF hT hte;refine ⟨s,Wk.refl _,Sfx.refl _,(AL.resl (P:=P) (F:=F) (σ:=s.st) (α:=te'.den) (xs:=l) s.nxt rfl hb.1 hd hb.2 ho (zah hT he) hz rfl (zag hx) (zaq hk) (zag hy) hj).post fun x hx => ?_⟩;subst hx;exact ⟨_,by rw [zcB,zd4];rfl,(Sfx.put _ _ _).trans ((Sfx.new _ _).trans (Sfx.set _ _ _)),h⟩
      ·cases h
     ·cases h
    ·cases h
   ·cases h
  ·rename_i t x y ho;split at h
   ·rename_i e he;split at h
    ·rename_i te hte;split at h
     ·rename_i k j hx hy;split at h
      ·rename_i E te' l hk;have hb2:=(zaa h).1;replace h:=(zaa h).2;have:=Ty.eq_of_beq hb2;subst this;obtain ⟨hj,h⟩:=zaB h;obtain ⟨z,hz,hzc⟩:=zaF hT hte;refine ⟨s,Wk.refl _,Sfx.refl _,(AL.tail (P:=P) (F:=F) (σ:=s.st) (α:=te'.den) (xs:=l) s.nxt rfl hb.1 hd hb.2 ho (zah hT he) hz rfl (zag hx) (zaq hk) (zag hy) hj).post fun x hx => ?_⟩;subst hx;exact ⟨_,by rw [zcB,zd4,zb7];rfl,(Sfx.put _ _ _).trans ((Sfx.new _ _).trans (Sfx.set _ _ _)),h⟩
      ·cases h
     ·cases h
    ·cases h
   ·cases h
  ·rename_i t parts ho;obtain ⟨z,h1,h2⟩:=zhf (F:=F) hT ho h;refine ⟨s,Wk.refl _,Sfx.refl _,(AL.ro hd hb.2 h1).post fun x hx => ?_⟩;subst hx;exact ⟨_,by rw [zcB],Sfx.set _ _ _,h2⟩
  ·rename_i t x ho;split at h
   ·rename_i e he;split at h
    ·rename_i id k h1;split at h
     ·rename_i T cs h2;have hb2:=(zaa h).1;replace h:=(zaa h).2;simp only [Bool.and_eq_true] at hb2;obtain ⟨hte,rfl⟩:=zaK hT he;have hti:=hte.ti;rw [hb2.1] at hti;have hle:k+e.size<=cs.length:=by simpa using hb2.2
      have h9:=RO.ld_ptr_sub (F:=F) ho hti (zag h1) (zaq h2) (by rw [zbP];exact hle);refine ⟨s,Wk.refl _,Sfx.refl _,(AL.ro hd hb.2 h9).post fun y hy => ?_⟩;subst hy;refine ⟨_,?_,Sfx.set _ _ _,h⟩;rw [zcB,EV.av,zbZ,zbZ,List.map_take,List.map_drop]
     ·cases h
    ·cases h
   ·cases h
  ·rename_i t ho;split at h
   ·rename_i kt et hm;split at h
    ·rename_i k v hk hv;refine ⟨s,Wk.refl _,Sfx.refl _,(AL.makeMap (P:=P) (F:=F) (σ:=s.st) (T:=t) (α:=k.den) (β:=v.den) s.nxt rfl hb.1 hd hb.2 ho).post fun x hx => ?_⟩;subst hx;exact ⟨_,by rw [zcB,zd4];rfl,(Sfx.new _ _).trans (Sfx.set _ _ _),h⟩
    ·cases h
   ·cases h
  ·cases h
theorem zjD (hT:TOK P TT) {x y:Operand} {t u d:Nat} (hd:o.dst=some d) (ho:o.op = .call { callee := .builtin .append,args:=#[x,y],argTypes:=#[t,u] }) (h:zjC TT s x y t u d K=some q):EF P F s.st o (Post s K q):=by
 unfold zjC at h;split at h
 ·rename_i e he;split at h
  ·rename_i te hte;split at h
   ·rename_i ku n hu hx hy;have hb:=(zaa h).1;replace h:=(zaa h).2;simp only [Bool.and_eq_true] at hb;obtain ⟨⟨⟨g1,g2⟩,g3⟩,g4⟩:=hb;have hpos:0 < te.sz:=by simpa using g1
    have hbp:0 < te.bts:=by simpa using g2
    obtain ⟨hg,h⟩:=zaB h;obtain ⟨z,hz,hzc⟩:=zaF hT hte;refine (EF.append_zeros (P:=P) (F:=F) (σ:=s.st) (α:=te.den) te.dflt s.nxt rfl g3 hd g4 ho (zah hT he) (zp5 hT hu) hz rfl rfl hpos (by rw [hzc];exact zrs te) (zag hx) (zag hy) hg.1 hg.2 (zmF n te.bts hbp hg.2)).post fun x hx => ?_
    subst hx;exact ⟨_,by rw [zcB,zd4];rfl,(Sfx.new _ _).trans (Sfx.set _ _ _),h⟩
   ·cases h
  ·cases h
 ·cases h
theorem zko (hT:TOK P TT) {x y:Operand} {t d:Nat} (hd:o.dst=some d) (ho:o.op = .call { callee := .builtin .append,args:=#[x,y],argTypes:=#[t,t] }) (h:zld TT s x y t d K=some q):EF P F s.st o (Post s K q):=by
 unfold zld at h;split at h
 ·rename_i e he;split at h
  ·rename_i te hte;have hb:=(zaa h).1;replace h:=(zaa h).2;simp only [Bool.and_eq_true] at hb;obtain ⟨⟨⟨g1,g2⟩,g3⟩,g4⟩:=hb;have hpos:0 < te.sz:=by simpa using g1
   have hbp:0 < te.bts:=by simpa using g2
   obtain ⟨z,hz,hzc⟩:=zaF hT hte;obtain ⟨ys,hsrc,h⟩:=zf4 h;have hm:∀ n:Nat,n * te.bts<=140737488355328->n<=9223372036854775807:=by
    intro n hn;have:n * 1<=n * te.bts:=Nat.mul_le_mul_left n hbp;omega
   split at h
   ·rename_i k hk;split at h
    ·rename_i E ty xv hE;split at h
     ·rename_i xs hxs;have hbe:=(zaa h).1;replace h:=(zaa h).2;have:=Nat.eq_of_beq_eq_true hbe;subst this;obtain ⟨e',rfl⟩:=zaw hxs;cases e';obtain ⟨hg,h⟩:=zaB h;refine (EF.append (P:=P) (F:=F) (σ:=s.st) (α:=te.den) te.dflt s.nxt rfl g3 hd g4 ho (zah hT he) hz rfl rfl rfl hpos (by rw [hzc];exact zrs te) (zag hk) (zaq hE) hsrc hg (hm _ hg)).post fun x hx => ?_
      subst hx;exact ⟨_,by rw [zcB,zd4,zb7];rfl,((Sfx.put _ _ _).trans (Sfx.new _ _)).trans (Sfx.set _ _ _),h⟩
     ·cases h
    ·cases h
   ·rename_i hk;obtain ⟨hg,h⟩:=zaB h;have hg':ys.length * te.bts<=140737488355328:=by
     have:room ([]:List te.den) ys te.bts:=hg;unfold room at this;simpa using this
    refine (EF.append_nil (P:=P) (F:=F) (σ:=s.st) (α:=te.den) te.dflt s.nxt rfl g3 hd g4 ho (zah hT he) hz rfl rfl hpos (by rw [hzc];exact zrs te) (zag hk) hsrc hg' (hm _ hg')).post fun x hx => ?_
    subst hx;exact ⟨_,by rw [zcB,zd4];rfl,(Sfx.new _ _).trans (Sfx.set _ _ _),h⟩
   ·rename_i ty xv hk;split at h
    ·rename_i xs hxs;obtain ⟨e',rfl⟩:=zaw hxs;cases e';obtain ⟨⟨hy0,hg⟩,h⟩:=zaB h;refine (EF.append_full (P:=P) (F:=F) (σ:=s.st) (α:=te.den) te.dflt s.nxt rfl g3 hd g4 ho (zah hT he) hz rfl rfl hpos (by rw [hzc];exact zrs te) (zag hk) hsrc hy0 hg (hm _ hg)).post fun x hx => ?_
     subst hx;exact ⟨_,by rw [zcB,zd4];rfl,(Sfx.new _ _).trans (Sfx.set _ _ _),h⟩
    ·cases h
   ·cases h
  ·cases h
 ·cases h
theorem zlg (hT:TOK P TT) {x:Operand} {t:Nat} (hd:o.dst=none) (ho:o.op = .call { callee := .builtin .clear,args:=#[x],argTypes:=#[t] }) (h:znk TT s x t K=some q):EF P F s.st o (Post s K q):=by
 unfold znk at h;split at h
 ·rename_i e he;split at h
  ·rename_i te hte;obtain ⟨z,hz,hzc⟩:=zaF hT hte;split at h
   ·rename_i k t2 i m hk;split at h
    ·rename_i E ty xv hE;split at h
     ·rename_i xs hxs;have hbe:=(zaa h).1;replace h:=(zaa h).2;have:=Ty.eq_of_beq hbe;subst this;obtain ⟨hg,h⟩:=zaB h;obtain ⟨e',rfl⟩:=zaw hxs;cases e';refine (EF.clearV (P:=P) (F:=F) (σ:=s.st) hd ho (zah hT he) hz (by rw [hzc];exact zrs _) (zag hk) (zaq hE) hg).post fun x hx => ?_
      subst hx;exact ⟨_,by rw [zb7];rfl,Sfx.put _ _ _,h⟩
     ·cases h
    ·cases h
   ·cases h
  ·cases h
 ·cases h
theorem zmg (hT:TOK P TT) {x y:Operand} {t t' d:Nat} (hd:o.dst=some d) (ho:o.op = .call { callee := .builtin .copy,args:=#[x,y],argTypes:=#[t,t'] }) (h:zpI TT s x y t d K=some q):EF P F s.st o (Post s K q):=by
 unfold zpI at h;split at h
 ·rename_i e he;split at h
  ·rename_i te hte;have hb:=(zaa h).1;replace h:=(zaa h).2;obtain ⟨z,hz,hzc⟩:=zaF hT hte;obtain ⟨ys,hsrc,h⟩:=zf4 h;split at h
   ·rename_i k hk;split at h
    ·rename_i E ty xv hE;split at h
     ·rename_i xs hxs;obtain ⟨e',rfl⟩:=zaw hxs;cases e';refine (EF.copy (P:=P) (F:=F) (σ:=s.st) hd hb ho (zah hT he) hz (zag hk) (zaq hE) hsrc).post fun x hx => ?_
      subst hx;exact ⟨_,by rw [zcB,zb7];rfl,(Sfx.put _ _ _).trans (Sfx.set _ _ _),h⟩
     ·cases h
    ·cases h
   ·rename_i k t2 i m hk;split at h
    ·rename_i E ty xv hE;split at h
     ·rename_i xs hxs;have hbe:=(zaa h).1;replace h:=(zaa h).2;have:=Ty.eq_of_beq hbe;subst this;obtain ⟨hg,h⟩:=zaB h;obtain ⟨e',rfl⟩:=zaw hxs;cases e';refine (EF.copyV (P:=P) (F:=F) (σ:=s.st) hd hb ho (zah hT he) hz (zag hk) (zaq hE) hg rfl hsrc).post fun x hx => ?_
      subst hx;exact ⟨_,by rw [zcB,zb7];rfl,(Sfx.put _ _ _).trans (Sfx.set _ _ _),h⟩
     ·cases h
    ·cases h
   ·cases h
  ·cases h
 ·cases h
theorem zkq (hT:TOK P TT) {t:Nat} {x y:Operand} (hd:o.dst=none) (ho:o.op = .store t x y) (h:zlt TT s t x y K=some q):∃ s0,Wk s s0/\Sfx s s0/\EF P F s0.st o (Post s K q):=by
 unfold zlt at h;split at h
 ·rename_i id k hx;split at h
  ·rename_i T cs hid;split at h
   ·rename_i e he;split at h
    ·rename_i v hv;split at h
     ·rename_i ys hys;have hb:=(zaa h).1;replace h:=(zaa h).2;simp only [Bool.and_eq_true] at hb;obtain ⟨⟨g1,g2⟩,g3⟩:=hb;obtain ⟨h1,h2⟩:=zdU hys;obtain ⟨hte,rfl⟩:=zaK hT he;refine ⟨s,Wk.refl _,Sfx.refl _,(EF.st_ptr (P:=P) (F:=F) (σ:=s.st) hd ho hte.ti (zag hx) (zaq hid) (zag hv) h2 (by rw [h1];exact zjp g1) (by rw [h1,zbP];exact Nat.eq_of_beq_eq_true g2) (by rw [zbP];simpa using g3)).post fun x hx => ?_⟩;subst hx;exact ⟨_,by rw [zb7,h1,<- zlV];rfl,Sfx.put _ _ _,h⟩
     ·cases h
    ·cases h
   ·cases h
  ·cases h
 ·rename_i id te j k hx;split at h
  ·rename_i u hu;split at h
   ·rename_i v hv;split at h
    ·rename_i c hc;split at h
     ·rename_i E te' l hl
      replace h:=(zaa h).2
      split at h
      ·rename_i id2 te2 j2 k2 hx2;have hb2:=(zaa h).1;replace h:=(zaa h).2;simp only [Bool.and_eq_true] at hb2;have e1:=Nat.eq_of_beq_eq_true hb2.1.1;have e2:=Ty.eq_of_beq hb2.1.2;have e3:=Nat.eq_of_beq_eq_true hb2.2;subst e1 e2 e3;split at h
       ·rename_i z hz;obtain ⟨hg,h⟩:=zaB h;obtain ⟨zz,hti,_⟩:=zaF hT hu;have hve:=zby hc;subst hve;refine ⟨s.dat y u,zdW s y u,Sfx.dat s y u,(EF.st_eptr_sub (P:=P) (F:=F) (σ:=(s.dat y u).st) hd ho hti (zag hx2) (zaq hl) (zag hv) hg hz).post fun x hx => ?_⟩;subst hx;exact ⟨_,by rw [zb7];rfl,(Sfx.dat s y u).trans (Sfx.put _ _ _),h⟩
       ·cases h
      ·cases h
     ·cases h
    ·cases h
   ·cases h
  ·cases h
 ·cases h
theorem zhj (hT:TOK P TT) {t:Nat} {x y:Operand} (hd:o.dst=none) (ho:o.op = .store t x y) (h:zls TT s t x y K=some q):∃ s0,Wk s s0/\Sfx s s0/\EF P F s0.st o (Post s K q):=by
 unfold zls at h;obtain ⟨h1,h2⟩:=zp3 TT s (s.ev y);obtain ⟨s0,k1,k2,k3⟩:=zkq hT hd ho h;refine ⟨s0,h1.trans k1,h2.trans k2,fun a w r => ?_⟩;exact Oper.wp_mono2 (fun a' w' ⟨g0,σ',⟨s',e1,e2,e3⟩,g3⟩=>⟨g0,σ',⟨s',e1,h2.trans e2,e3⟩,g3⟩) (fun _ _ _ h=>h) (k3 a w r)
theorem zqF {te:Ty} {cs:List EV} {off n j:Nat} {l:List te.den} {c:te.den} (hl:zmz te n (cs.drop off)=some l) (hj:j < n) (hle:off+n<=cs.length):zmU cs off (vecE te (l.set j c) n)=zmU cs (off+j) [.d te c]:=by
 obtain ⟨h1,_,h3⟩:=zgi hl;refine List.ext_getElem? fun k => ?_
 have hv:(vecE te (l.set j c) n).length=n:=by simp [vecE]
 unfold zmU;rw [hv];by_cases c1:k < off
 ·rw [List.getElem?_append_left (by rw [List.length_append,List.length_take];omega),List.getElem?_append_left (by rw [List.length_take];omega),
   List.getElem?_append_left (by rw [List.length_append,List.length_take];omega),List.getElem?_append_left (by rw [List.length_take];omega),List.getElem?_take_of_lt c1,List.getElem?_take_of_lt (by omega)]
 ·by_cases c2:k < off+n
  ·rw [List.getElem?_append_left (by rw [List.length_append,List.length_take,hv];omega),List.getElem?_append_right (by rw [List.length_take];omega),List.length_take,Nat.min_eq_left (by omega)];have e1:(vecE te (l.set j c) n)[k - off]? =some (.d te ((l.set j c).getD (k - off) te.dflt)):=by
    unfold vecE;rw [List.getElem?_map,List.getElem?_range (by omega)];rfl
   rw [e1];by_cases c3:k=off+j
   ·subst c3;rw [List.getElem?_append_left (by simp;omega),List.getElem?_append_right (by rw [List.length_take];omega),List.length_take,Nat.min_eq_left (by omega),Nat.sub_self,show off+j - off=j by omega];have:j < l.length:=by omega
    simp [List.getD_eq_getElem?_getD,this]
   ·have e2:(l.set j c).getD (k - off) te.dflt=l.getD (k - off) te.dflt:=by
     rw [List.getD_eq_getElem?_getD,List.getD_eq_getElem?_getD,List.getElem?_set_ne (by omega)]
    have h4:=h3 (k - off) (by omega);rw [List.getElem?_drop,show off+(k - off)=k by omega] at h4;rw [e2,<- h4];by_cases c4:k < off+j
    ·rw [List.getElem?_append_left (by rw [List.length_append,List.length_take];omega),List.getElem?_append_left (by rw [List.length_take];omega),List.getElem?_take_of_lt c4]
    ·rw [List.getElem?_append_right (by simp;omega),List.getElem?_drop];congr 1;simp;omega
  ·rw [List.getElem?_append_right (by rw [List.length_append,List.length_take,hv];omega),List.getElem?_append_right (by simp;omega),List.getElem?_drop,List.getElem?_drop];congr 1;simp [hv];omega
theorem zkr (hT:TOK P TT) {t:Nat} {x y:Operand} (hd:o.dst=none) (ho:o.op = .store t x y) (h:zlu TT s t x y K=some q):EF P F s.st o (Post s K q):=by
 unfold zlu at h;split at h
 ·rename_i id off n te j hx;split at h
  ·rename_i T cs hid;split at h
   ·rename_i e he;have hb:=(zaa h).1;replace h:=(zaa h).2;simp only [Bool.and_eq_true] at hb;obtain ⟨hs1,hag⟩:=hb;split at h
    ·rename_i l hl;split at h
     ·rename_i v hv;split at h
      ·rename_i c hc;obtain ⟨hj,h⟩:=zaB h;obtain ⟨hte,rfl⟩:=zaK hT he;have hag':te.agg=false:=by simpa using hag
       have hsz:=Nat.eq_of_beq_eq_true hs1;have hle:off+n<=cs.length:=by
        obtain ⟨g1,g2,g3⟩:=zgi hl;rw [List.length_drop] at g2;omega
       have hy:=zag hv;rw [zby hc] at hy;have hcells:zan (EV.d te c).av=[(EV.d te c).av]:=by
        show (encD te c).cells.map AV.d=_;rw [zbT hag'];rfl
       have hone:AV.one (EV.d te c).av=true:=by
        cases te with
        | unit=>cases hag'
        | pair _ _=>cases hag'
        | tree _=>exact zi6 _ _
        | _=>rfl
       refine (EF.st_ptr (P:=P) (F:=F) (σ:=s.st) hd ho hte.ti (zag hx) (zaq hid) hy rfl (by rw [hcells];simp [hone]) (by rw [hcells,hsz];rfl) (by rw [zbP,hsz];omega)).post fun x hx => ?_
       subst hx;refine ⟨_,?_,Sfx.put _ _ _,h⟩;rw [zb7,zqF hl hj hle,hcells];rw [show [(EV.d te c).av]=EV.avL [.d te c] from rfl,<- zlV];rfl
      ·cases h
     ·cases h
    ·cases h
   ·cases h
  ·cases h
 ·cases h
theorem zmq (hT:TOK P TT) {t:Nat} {x y c:Operand} (hd:o.dst=none) (ho:o.op = .mapUpdate t x y c\/o.op = .insert t x y c) (h:zpT TT s t x y c K=some q):EF P F s.st o (Post s K q):=by
 unfold zpT at h;split at h
 ·rename_i kt et hm;split at h
  ·rename_i id hx;split at h
   ·rename_i T k ks v vs he;have hk:=(zaa h).1;replace h:=(zaa h).2;split at h
    ·rename_i yv cv hy hc;split at h
     ·rename_i key el hkey hel;have SKk:=zlW hT hk hm;have hy':=zag hy;rw [zby hkey] at hy';have hc':=zag hc;rw [zby hel] at hc';refine (EF.mapUpdate (P:=P) (F:=F) (σ:=s.st) (α:=k.den) (β:=v.den) (ks:=ks) (vs:=vs) (k:=key) (c:=el) hd ho (zhB hT hm) SKk (zag hx) (zaq he) hy' hc').post fun z hz => ?_
      subst hz;exact ⟨_,by rw [zb7];rfl,Sfx.put _ _ _,h⟩
     ·cases h
    ·cases h
   ·cases h
  ·cases h
 ·cases h
theorem zjH (hT:TOK P TT) {t:Nat} {x y c:Operand} (hd:o.dst=none) (ho:o.op = .mapUpdate t x y c\/o.op = .insert t x y c) (h:zq2 TT s t x y c K=some q):∃ s0,Wk s s0/\Sfx s s0/\EF P F s0.st o (Post s K q):=by
 unfold zq2 at h;split at h
 ·split at h
  ·rename_i v _ _;refine ⟨_,zdW s c v,Sfx.dat s c v,fun a w r => ?_⟩;exact Oper.wp_mono2 (fun a' w' ⟨g0,σ',⟨s',e1,e2,e3⟩,g3⟩=>⟨g0,σ',⟨s',e1,(Sfx.dat s c v).trans e2,e3⟩,g3⟩) (fun _ _ _ h=>h) (zmq hT hd ho h a w r)
  ·cases h
 ·cases h
theorem zmp (hT:TOK P TT) {t d:Nat} {x y:Operand} (hd:o.dst=some d) (ho:o.op = .mapEntry t x y) (h:zpS TT s t x y d K=some q):EF P F s.st o (Post s K q):=by
 unfold zpS at h;split at h
 ·rename_i kt et hm;split at h
  ·rename_i id hx;split at h
   ·rename_i T k ks v vs he;have hk:=(zaa h).1;replace h:=(zaa h).2;simp only [Bool.and_eq_true] at hk;obtain ⟨⟨hk,hze⟩,hlt⟩:=hk;split at h
    ·rename_i yv hy;split at h
     ·rename_i key hkey;have SKk:=zlW hT hk hm;obtain ⟨_,_,_,z,hti,hz⟩:=zk3 hT hze;have hy':=zag hy;rw [zby hkey] at hy';refine (EF.mapEntry (P:=P) (F:=F) (σ:=s.st) (α:=k.den) (β:=v.den) (ks:=ks) (vs:=vs) (k:=key) (z0:=v.dflt) hd hlt ho (zhB hT hm) SKk hti hz (zag hx) (zaq he) hy').post fun z hz => ?_
      subst hz;exact ⟨_,by rw [zcB,zb7];rfl,(Sfx.put _ _ _).trans (Sfx.set _ _ _),h⟩
     ·cases h
    ·cases h
   ·cases h
  ·cases h
 ·cases h
theorem zmj {t:Nat} {x y c:Operand} (hd:o.dst=none) (ho:o.op = .entryStore t x y c) (h:zpM s x y c K=some q):EF P F s.st o (Post s K q):=by
 unfold zpM at h;split at h
 ·rename_i id hx;split at h
  ·rename_i T k ks v vs he;split at h
   ·rename_i p cv hy hc;split at h
    ·rename_i el hel;obtain ⟨hg,h⟩:=zaB h;have hc':=zag hc;rw [zby hel] at hc';refine (EF.entryStore (P:=P) (F:=F) (σ:=s.st) (α:=k.den) (β:=v.den) (ks:=ks) (vs:=vs) (p:=p) (c:=el) hd ho (zag hx) (zaq he) (zag hy) hg.1 hg.2 hc').post fun z hz => ?_
     subst hz;exact ⟨_,by rw [zb7];rfl,Sfx.put _ _ _,h⟩
    ·cases h
   ·cases h
  ·cases h
 ·cases h
theorem zns {t:Nat} {x y c:Operand} (hd:o.dst=none) (ho:o.op = .entryStore t x y c) (h:zsa s x y c K=some q):∃ s0,Wk s s0/\Sfx s s0/\EF P F s0.st o (Post s K q):=by
 unfold zsa at h;split at h
 ·split at h
  ·rename_i v _ _;refine ⟨_,zdW s c v,Sfx.dat s c v,fun a w r => ?_⟩;exact Oper.wp_mono2 (fun a' w' ⟨g0,σ',⟨s',e1,e2,e3⟩,g3⟩=>⟨g0,σ',⟨s',e1,(Sfx.dat s c v).trans e2,e3⟩,g3⟩) (fun _ _ _ h=>h) (zmj hd ho h a w r)
  ·cases h
 ·cases h
theorem zcV (hT:TOK P TT) (hG:GOK P Γ) (h:evE TT Γ s o K=some q):∃ s0,Wk s s0/\Sfx s s0/\EF P F s0.st o (Post s K q):=by
 unfold evE at h;split at h
 ·rename_i t x y ho hd;cases hb:zoh s x with
  | true=>rw [hb] at h;exact ⟨s,Wk.refl _,Sfx.refl _,zkr hT hd ho h⟩
  | false=>rw [hb] at h;exact zhj hT hd ho h
 ·rename_i t x y c ho hd;exact zjH hT hd (.inl ho) h
 ·rename_i t x y c ho hd;exact zjH hT hd (.inr ho) h
 ·rename_i t x y d ho hd;exact ⟨s,Wk.refl _,Sfx.refl _,zmp hT hd ho h⟩
 ·rename_i t x y c ho hd;exact zns hd ho h
 ·rename_i c d ho hd;split at h
  ·rename_i x y t t' h1 h2 h3;have hcall:o.op = .call { callee := .builtin .append,args:=#[x,y],argTypes:=#[t,t'] }:=by
    rw [ho];obtain ⟨cc,ca,ct⟩:=c;simp only at h1 h2 h3;subst h1;rw [show ca=#[x,y] from Array.ext' h2,show ct=#[t,t'] from Array.ext' h3]
   cases hb:Nat.beq t t' with
   | true=>
    rw [hb] at h;have:=Nat.eq_of_beq_eq_true hb;subst this;exact ⟨s,Wk.refl _,Sfx.refl _,zko hT hd hcall h⟩
   | false=>
    rw [hb] at h;exact ⟨s,Wk.refl _,Sfx.refl _,zjD hT hd hcall h⟩
  ·rename_i x y t t' h1 h2 h3;refine ⟨s,Wk.refl _,Sfx.refl _,zmg hT hd (t':=t') ?_ h⟩;rw [ho];obtain ⟨cc,ca,ct⟩:=c;simp only at h1 h2 h3;subst h1;rw [show ca=#[x,y] from Array.ext' h2,show ct=#[t,t'] from Array.ext' h3]
  ·rename_i f h1;refine ⟨s,Wk.refl _,Sfx.refl _,fun a w r=>Oper.wp_mono2 (fun a' w' hh=>⟨hh.1.1,hh.2⟩) (fun _ _ _ h=>h) (zir hG hd (ts:=c.argTypes) (by rw [ho,<- h1]) h a w r)⟩
  ·cases h
 ·rename_i c ho hd;split at h
  ·rename_i x t h1 h2 h3;refine ⟨s,Wk.refl _,Sfx.refl _,zlg hT hd (x:=x) (t:=t) ?_ h⟩;rw [ho];obtain ⟨cc,ca,ct⟩:=c;simp only at h1 h2 h3;subst h1;rw [show ca=#[x] from Array.ext' h2,show ct=#[t] from Array.ext' h3]
  ·cases h
 ·obtain ⟨s0,h1,h2,h3⟩:=zme hT hG h;exact ⟨s0,h1,h2,h3.ef⟩
end
end
end Go.Ab
