import Derived.Test.YticelcjhokgcbaaEv40n13
import Derived.Test.YticelcjhokgcbaaEv40n22
import Derived.Test.YticelcjhokgcbaaEv40n26
set_option linter.unusedVariables false
set_option linter.unusedSimpArgs false
set_option linter.unusedSectionVars false
namespace Go.Ab
noncomputable section
open Enc (enc)
variable {R:Type}
def room {α:Type} (xs ys:List α) (b:Nat):Prop:=(xs.length+ys.length) * b<=140737488355328
instance {α:Type} (xs ys:List α) (b:Nat):Decidable (room xs ys b):=inferInstanceAs (Decidable (_<=_))
def mkOK (m c:Int) (b:Nat):Prop:=0<=m/\m<=c/\c * b<=140737488355328
instance (m c:Int) (b:Nat):Decidable (mkOK m c b):=inferInstanceAs (Decidable (_/\_))
def zed (TT:List TE) (ft:Nat->Option Nat):ESt->List (Nat×Operand)->ESt
 | s,[]=>s
 | s,(i,x)::r=>match ft i with
  | some f=>match tyT TT f with
   | some t=>zed TT ft (s.dat x t) r
   | none=>zed TT ft s r
  | none=>zed TT ft s r
theorem zhi (TT:List TE) (ft:Nat->Option Nat):∀ (l:List (Nat×Operand)) (s:ESt),Wk s (zed TT ft s l)/\Sfx s (zed TT ft s l)
 | [],s=>⟨Wk.refl s,Sfx.refl s⟩
 | (i,x)::r,s=>by
  simp only [zed]
  split
  ·split
   ·rename_i t _;obtain ⟨h1,h2⟩:=zhi TT ft r (s.dat x t);exact ⟨(zi5 s x t).trans h1,(Sfx.dat s x t).trans h2⟩
   ·exact zhi TT ft r s
  ·exact zhi TT ft r s
theorem zjO (x:EV):∀ (ks:List Nat) (s:ESt),(s.setAll ks x).nxt=s.nxt
 | [],_=>rfl
 | k::ks,s=>zjO x ks (s.set k x)
theorem ziq (te:Ty) (l:List te.den):∀ (ks:List Nat) (s:ESt),(ESt.setViews te l ks s).nxt=s.nxt
 | [],s=>rfl
 | k::ks,s=>by
  simp only [ESt.setViews]
  split
  ·cases Ty.beq _ te with
   | true=>exact ziq te l ks _
   | false=>exact ziq te l ks s
  ·exact ziq te l ks s
theorem znX (s:ESt) (id:Nat) (te:Ty) (l:List te.den):(s.freezeArr id te l).nxt=s.nxt:=by
 unfold ESt.freezeArr;rw [ziq,zjO];rfl
theorem zxp {s s':ESt} {k:Nat} {t:Ty} (h:s.datify k t=some s'):s'.nxt=s.nxt:=by
 unfold ESt.datify at h
 split at h
 ·split at h
  ·obtain ⟨_,h⟩:=zab h;cases h;exact znX _ _ _ _
  ·split at h
   ·obtain ⟨_,h⟩:=zab h;cases h;rw [zjO];rfl
   ·cases h
  ·cases h
 ·split at h
  ·obtain ⟨_,h⟩:=zab h;cases h;exact znX _ _ _ _
  ·cases h
 ·obtain ⟨_,h⟩:=zab h;cases h;rfl
 ·split at h
  ·cases h;rfl
  ·cases h
 ·cases h
theorem zwv (s:ESt) (x:Operand) (t:Ty):(s.dat0 x t).nxt=s.nxt:=by
 unfold ESt.dat0
 split
 ·split
  ·rename_i h;exact zxp h
  ·rfl
 ·rfl
theorem zvu (s:ESt) (id j:Nat):(s.boxDat1 id j).nxt=s.nxt:=by
 unfold ESt.boxDat1
 split
 ·split
  ·split
   ·cases Nat.beq _ id<;>rfl
   ·split
    ·cases (!(Nat.beq _ id) && _ && _ && _)<;>rfl
    ·rfl
   ·rfl
  ·rfl
 ·rfl
theorem zsu (id:Nat):∀ (n:Nat) (s:ESt) (k:Nat),(s.boxDat id k n).nxt=s.nxt
 | 0,s,_=>rfl
 | n+1,s,k=>(zsu id n _ (k+1)).trans (zvu s id k)
theorem zvd (s:ESt) (id:Nat) (u:Ty):(s.treeify2 id u).nxt=s.nxt:=by
 unfold ESt.treeify2
 split
 ·split
  ·cases u.chain with
   | false=>rfl
   | true=>simp only [cond_true];rw [zjO,zjO];rfl
  ·rfl
 ·rfl
theorem zwm (s:ESt) (k:Nat) (u:Ty):(s.treeify k u).nxt=s.nxt:=by
 unfold ESt.treeify
 split
 ·split
  ·rw [zvd,zsu]
  ·rfl
 ·rfl
theorem zBv (s:ESt) (x:Operand) (t:Ty):(s.dat x t).nxt=s.nxt:=by
 unfold ESt.dat
 split
 ·rw [zwv,zwm]
 ·exact zwv s x t
theorem zia (TT:List TE) (ft:Nat->Option Nat):∀ (l:List (Nat×Operand)) (s:ESt),(zed TT ft s l).nxt=s.nxt
 | [],_=>rfl
 | (i,x)::r,s=>by
  simp only [zed]
  split
  ·split
   ·rw [zia TT ft r,zBv]
   ·exact zia TT ft r s
  ·exact zia TT ft r s
theorem zzf (k:Int) (b:Nat) (hb:0 < b) (h:k * b<=140737488355328):k<=9223372036854775807:=by
 by_cases h0:0<=k
 ·have:k * 1<=k * (b:Int):=Int.mul_le_mul_of_nonneg_left (by omega) h0
  omega
 ·omega
def zoT (s:ESt) (g:Nat) (vals:List EV) (d:Nat) (pure:Bool) (K:ESt->Option R):List CE->Option R
 | []=>none
 | c::r=>bif Nat.beq c.f g && (!pure || c.sig.ents.isEmpty) then (match znR s c vals d K with
  | some x=>x
  | none=>zoT s g vals d pure K r) else zoT s g vals d pure K r
theorem zll {s:ESt} {g:Nat} {vals:List EV} {d:Nat} {pure:Bool} {K:ESt->Option R} {q:R}:∀ {Γ:List CE},zoT s g vals d pure K Γ=some q->∃ c∈Γ,c.f=g/\(pure=true->c.sig.ents=[])/\znR s c vals d K=some (some q)
 | [],h=>by cases h
 | c::r,h=>by
  simp only [zoT] at h
  cases hb:(Nat.beq c.f g && (!pure || c.sig.ents.isEmpty)) with
  | true=>
   rw [hb] at h;simp only [cond_true] at h
   split at h
   ·rename_i x hx;subst h;simp only [Bool.and_eq_true] at hb;refine ⟨c,by simp,Nat.eq_of_beq_eq_true hb.1,fun hp => ?_,hx⟩
    have:=hb.2;rw [hp] at this;simpa using this
   ·obtain ⟨c',h1,h2⟩:=zll h;exact ⟨c',by simp [h1],h2⟩
  | false=>
   rw [hb] at h;obtain ⟨c',h1,h2⟩:=zll (show zoT s g vals d pure K r=some q from h);exact ⟨c',by simp [h1],h2⟩
def zhn (Γ:List CE) (s:ESt) (f:Operand) (args:Array Operand) (d:Nat) (pure:Bool) (K:ESt->Option R):Option R:=
 match s.ev f with
 | some (.fn g caps)=>match zq1 s args.toList with
  | some vals=>bif Nat.blt d s.n then grd (zu2 s (vals++caps)) (zoT s g (vals++caps) d pure K Γ) else none
  | none=>none
 | _=>none
def zfe:ESt->List Operand->ESt
 | s,[]=>s
 | s,x::r=>match s.ev x with
  | some (.own id)=>match s.ent id with
   | some (.arr _ t _)=>zfe (s.dat x (.list t)) r
   | some (.out f _)=>match look s.rws f with
    | some (some q)=>zfe (s.dat x (.list (.list q.t))) r
    | _=>zfe s r
   | _=>zfe s r
  | _=>zfe s r
theorem zi4:∀ (l:List Operand) (s:ESt),Wk s (zfe s l)/\Sfx s (zfe s l)
 | [],s=>⟨Wk.refl s,Sfx.refl s⟩
 | x::r,s=>by
  simp only [zfe]
  split
  ·split
   ·rename_i t _ _;obtain ⟨h1,h2⟩:=zi4 r (s.dat x (.list t));exact ⟨(zi5 s x _).trans h1,(Sfx.dat s x _).trans h2⟩
   ·split
    ·rename_i q _;obtain ⟨h1,h2⟩:=zi4 r (s.dat x (.list (.list q.t)));exact ⟨(zi5 s x _).trans h1,(Sfx.dat s x _).trans h2⟩
    ·exact zi4 r s
   ·exact zi4 r s
  ·exact zi4 r s
def fitC (Γ:List CE) (s:ESt) (f:Operand) (args:Array Operand) (d:Nat) (pure:Bool):Bool:=match s.ev f with
 | some (.fn g caps)=>match zq1 s args.toList with
  | some vals=>Γ.any fun c=>Nat.beq c.f g && (!pure || c.sig.ents.isEmpty) && (match znR (R:=Unit) s c (vals++caps) d (fun _=>none) with
   | some _=>true
   | none=>false)
  | none=>false
 | _=>false
def zgK (TT:List TE):ESt->List EV->ESt
 | s,[]=>s
 | s,.ptr id _::r=>match s.ent id with
  | some (.box _ cs)=>zgK TT ((s.boxDat id 0 cs.length).freeze1 TT id) r
  | _=>zgK TT s r
 | s,_::r=>zgK TT s r
theorem zhc (TT:List TE):∀ (l:List EV) (s:ESt),Wk s (zgK TT s l)/\Sfx s (zgK TT s l)
 | [],s=>⟨Wk.refl s,Sfx.refl s⟩
 | y::r,s=>by
  cases y with
  | ptr id o=>
   simp only [zgK]
   split
   ·rename_i cs _;obtain ⟨h1,h2⟩:=zsC TT (s.boxDat id 0 cs.length) id;obtain ⟨h3,h4⟩:=zhc TT r ((s.boxDat id 0 cs.length).freeze1 TT id);exact ⟨((ziW id cs.length s 0).trans h1).trans h3,((Sfx.boxDat id cs.length s 0).trans h2).trans h4⟩
   ·exact zhc TT r s
  | _=>
   simp only [zgK];exact zhc TT r s
def zi3 (TT:List TE):ESt->List Operand->ESt
 | s,[]=>s
 | s,x::r=>match s.ev x with
  | some (.fn _ c)=>zi3 TT (zgK TT s c) r
  | _=>zi3 TT s r
theorem znJ (TT:List TE):∀ (l:List Operand) (s:ESt),Wk s (zi3 TT s l)/\Sfx s (zi3 TT s l)
 | [],s=>⟨Wk.refl s,Sfx.refl s⟩
 | x::r,s=>by
  simp only [zi3]
  split
  ·rename_i c _;obtain ⟨h1,h2⟩:=zhc TT c s;obtain ⟨h3,h4⟩:=znJ TT r (zgK TT s c);exact ⟨h1.trans h3,h2.trans h4⟩
  ·exact znJ TT r s
def ztB (slots:List (Nat×SV)):Nat->List EV->List EV
 | _,[]=>[]
 | k,x::r=>match look slots k with
  | some (.addr _)=>x::ztB slots (k+1) r
  | _=>ztB slots (k+1) r
def zs9 (TT:List TE) (Γ:List CE) (s:ESt) (f:Operand) (n:Nat):ESt:=match s.ev f with
 | some (.fn g caps)=>match Γ.find? (fun c=>Nat.beq c.f g) with
  | some c=>zgK TT s (ztB c.sig.slots n caps)
  | none=>s
 | _=>s
theorem zxo (TT:List TE) (Γ:List CE) (s:ESt) (f:Operand) (n:Nat):Wk s (zs9 TT Γ s f n)/\Sfx s (zs9 TT Γ s f n):=by
 unfold zs9
 split
 ·split
  ·exact zhc TT _ s
  ·exact ⟨Wk.refl s,Sfx.refl s⟩
 ·exact ⟨Wk.refl s,Sfx.refl s⟩
def ESt.cellDat (s:ESt) (id j:Nat):ESt:=match s.ent id with
 | some (.box _ cs)=>match cs[j]? with
  | some (.own id2)=>match s.ent id2 with
   | some (.out _ _)=>s.boxDat1 id j
   | _=>s
  | _=>s
 | _=>s
theorem zxl (s:ESt) (id j:Nat):Wk s (s.cellDat id j)/\Sfx s (s.cellDat id j):=by
 unfold ESt.cellDat
 split
 ·split
  ·split
   ·exact ⟨zoG _ _ _,Sfx.boxDat1 _ _ _⟩
   ·exact ⟨Wk.refl _,Sfx.refl _⟩
  ·exact ⟨Wk.refl _,Sfx.refl _⟩
 ·exact ⟨Wk.refl _,Sfx.refl _⟩
def ESt.cellsDat (id:Nat):Nat->ESt->ESt
 | 0,s=>s
 | j+1,s=>(ESt.cellsDat id j s).cellDat id j
theorem zqO (id:Nat):∀ (j:Nat) (s:ESt),Wk s (ESt.cellsDat id j s)/\Sfx s (ESt.cellsDat id j s)
 | 0,s=>⟨Wk.refl s,Sfx.refl s⟩
 | j+1,s=>by
  obtain ⟨h1,h2⟩:=zqO id j s;obtain ⟨h3,h4⟩:=zxl (ESt.cellsDat id j s) id j;exact ⟨h1.trans h3,h2.trans h4⟩
def zqK (s:ESt) (id:Nat):ESt:=match s.ent id with
 | some (.box _ cs)=>ESt.cellsDat id cs.length s
 | _=>s
theorem zxj (s:ESt) (id:Nat):Wk s (zqK s id)/\Sfx s (zqK s id):=by
 unfold zqK
 split
 ·exact zqO _ _ _
 ·exact ⟨Wk.refl _,Sfx.refl _⟩
def zoJ:ESt->List Operand->ESt
 | s,[]=>s
 | s,x::r=>match s.ev x with
  | some (.view _ t _ _)=>zoJ (s.dat x (.list t)) r
  | some (.ptr id _)=>zoJ (zqK s id) r
  | _=>zoJ s r
theorem zqp:∀ (l:List Operand) (s:ESt),Wk s (zoJ s l)/\Sfx s (zoJ s l)
 | [],s=>⟨Wk.refl s,Sfx.refl s⟩
 | x::r,s=>by
  simp only [zoJ]
  split
  ·rename_i t _ _ _;obtain ⟨h1,h2⟩:=zqp r (s.dat x (.list t));exact ⟨(zi5 s x _).trans h1,(Sfx.dat s x _).trans h2⟩
  ·rename_i id _ _;obtain ⟨h0,h0'⟩:=zxj s id;obtain ⟨h1,h2⟩:=zqp r (zqK s id);exact ⟨h0.trans h1,h0'.trans h2⟩
  ·exact zqp r s
def ESt.datV (s:ESt) (TT:List TE) (x:Operand) (T:Nat):ESt:=match s.ev x with
 | some (.view _ _ _ _)=>match tyT TT T with
  | some t=>s.dat x t
  | none=>s
 | _=>s
theorem zyo (s:ESt) (TT:List TE) (x:Operand) (T:Nat):Wk s (s.datV TT x T)/\Sfx s (s.datV TT x T):=by
 unfold ESt.datV
 split
 ·split
  ·exact ⟨zi5 _ _ _,Sfx.dat _ _ _⟩
  ·exact ⟨Wk.refl _,Sfx.refl _⟩
 ·exact ⟨Wk.refl _,Sfx.refl _⟩
def zy5:List SV->List EV->List EV
 | .addr _::r,x::l=>x::zy5 r l
 | _::r,_::l=>zy5 r l
 | _,_=>[]
def zwO (s:ESt) (ents:List (Nat×SE)):List SV->List EV->List EV
 | .addr _::r,x::l=>x::zwO s ents r l
 | .ptr i _::r,.ptr id _::l=>(match look ents i,s.ent id with
  | some (.box _ svs),some (.box _ cs)=>zy5 svs cs
  | _,_=>[])++zwO s ents r l
 | _::r,_::l=>zwO s ents r l
 | _,_=>[]
def zuI (s:ESt) (sh:Shape):Nat->List EV->List EV
 | _,[]=>[]
 | k,.fn _ caps::r=>(match look sh.slots k with
  | some (.fn _ svs)=>zwO s sh.ents svs caps
  | _=>[])++zuI s sh (k+1) r
 | k,_::r=>zuI s sh (k+1) r
def zqo (TT:List TE) (Γ:List CE) (s:ESt) (f:Operand) (args:Array Operand) (d:Nat) (pure:Bool):Option ESt:=match s.ev f with
 | some (.fn g _)=>match zq1 s args.toList with
  | some vals=>match Γ.find? (fun c=>Nat.beq c.f g && !(zuI s c.sig 0 vals).isEmpty && fitC Γ (zgK TT s (zuI s c.sig 0 vals)) f args d pure) with
   | some c=>some (zgK TT s (zuI s c.sig 0 vals))
   | none=>none
  | none=>none
 | _=>none
theorem zqW {TT:List TE} {Γ:List CE} {s s1:ESt} {f:Operand} {args:Array Operand} {d:Nat} {pure:Bool} (h:zqo TT Γ s f args d pure=some s1):Wk s s1/\Sfx s s1:=by
 unfold zqo at h
 split at h
 ·split at h
  ·split at h
   ·cases h;exact zhc TT _ s
   ·cases h
  ·cases h
 ·cases h
def ztd (TT:List TE) (Γ:List CE) (s:ESt) (f:Operand) (args:Array Operand) (d:Nat) (pure:Bool) (K:ESt->Option R):Option R:=
 bif fitC Γ s f args d pure then zhn Γ s f args d pure K else
  match zqo TT Γ s f args d pure,zqo TT Γ (zfe s args.toList) f args d pure with
  | some s1,_=>zhn Γ s1 f args d pure K
  | none,some s1=>zhn Γ s1 f args d pure K
  | none,none=>
  bif fitC Γ (zi3 TT s args.toList) f args d pure then zhn Γ (zi3 TT s args.toList) f args d pure K else
  bif fitC Γ (zfe s args.toList) f args d pure then zhn Γ (zfe s args.toList) f args d pure K else
   bif fitC Γ (zi3 TT (zfe s args.toList) args.toList) f args d pure then zhn Γ (zi3 TT (zfe s args.toList) args.toList) f args d pure K else
    zhn Γ (zs9 TT Γ (zi3 TT (zfe s args.toList) args.toList) f args.size) f args d pure K
def ESt.nil1 (s:ESt) (id j E:Nat) (t:Ty):ESt:=match s.ent id with
 | some (.box T cs)=>match cs[j]? with
  | some .nil=>bif Nat.blt s.nxt LIM && Nat.blt 0 t.sz then (s.new (.arr E t ([]:List t.den))).put id (some (.box T (cs.set j (.own s.nxt)))) else s
  | _=>s
 | _=>s
theorem ztE (s:ESt) (id j E:Nat) (t:Ty):Wk s (s.nil1 id j E t)/\Sfx s (s.nil1 id j E t):=by
 unfold ESt.nil1
 split
 ·rename_i T cs he
  split
  ·rename_i hj;have hj':(EV.avL cs)[j]? =some .nil:=by rw [zeG,List.getElem?_map,hj];rfl
   cases hb:Nat.blt s.nxt LIM && Nat.blt 0 t.sz with
   | false=>exact ⟨Wk.refl _,Sfx.refl _⟩
   | true=>
    simp only [Bool.and_eq_true] at hb;refine ⟨⟨fun F a w ⟨H,r⟩=>⟨H.add s.nxt (.slice none 0 0),?_⟩,fun k t x hx=>hx⟩,(Sfx.new _ _).trans (Sfx.put _ _ _)⟩
    have:=r.nilcell (E:=E) (bts:=t.bts) (by have:=hb.1;show s.nxt < LIM;simpa using this) (show 0 < t.sz by simpa using hb.2) (zaW he) hj'
    rw [cond_true,zgO,zjj];simp only [Option.map,EEnt.ent,zm9];exact this
  ·exact ⟨Wk.refl _,Sfx.refl _⟩
 ·exact ⟨Wk.refl _,Sfx.refl _⟩
def zBz (TT:List TE) (t:Nat):Option (Nat×Ty):=match zc4 TT t with
 | some e=>match tyT TT e with
  | some te=>some (e,te)
  | none=>none
 | none=>none
def zCX (TT:List TE) (T j:Nat):Option (Nat×Ty):=match fT TT T with
 | some ⟨_,.struct fs _,_,_,_,_,_⟩=>match fs.find? (fun p=>Nat.beq p.1 j) with
  | some (_,ft)=>zBz TT ft
  | none=>none
 | some ⟨_,.slice _,_,_,_,_,_⟩=>bif Nat.beq j 0 then zBz TT T else none
 | _=>none
def ESt.nilB (TT:List TE) (id T:Nat):Nat->ESt->ESt
 | 0,s=>s
 | j+1,s=>match zCX TT T j with
  | some (E,t)=>(ESt.nilB TT id T j s).nil1 id j E t
  | none=>ESt.nilB TT id T j s
theorem zv0 (TT:List TE) (id T:Nat):∀ (j:Nat) (s:ESt),Wk s (ESt.nilB TT id T j s)/\Sfx s (ESt.nilB TT id T j s)
 | 0,s=>⟨Wk.refl _,Sfx.refl _⟩
 | j+1,s=>by
  obtain ⟨h1,h2⟩:=zv0 TT id T j s;simp only [ESt.nilB]
  split
  ·rename_i E t _;obtain ⟨h3,h4⟩:=ztE (ESt.nilB TT id T j s) id j E t;exact ⟨h1.trans h3,h2.trans h4⟩
  ·exact ⟨h1,h2⟩
def zzg (TT:List TE) (s:ESt) (x:EV):ESt:=match x with
 | .ptr id _=>match s.ent id with
  | some (.box T cs)=>ESt.nilB TT id T cs.length s
  | _=>s
 | _=>s
theorem zAq (TT:List TE) (s:ESt) (x:EV):Wk s (zzg TT s x)/\Sfx s (zzg TT s x):=by
 unfold zzg
 split
 ·split
  ·exact zv0 TT _ _ _ s
  ·exact ⟨Wk.refl _,Sfx.refl _⟩
 ·exact ⟨Wk.refl _,Sfx.refl _⟩
def zwV (TT:List TE):ESt->List EV->ESt
 | s,[]=>s
 | s,x::r=>zwV TT (zzg TT s x) r
theorem zuO (TT:List TE):∀ (l:List EV) (s:ESt),Wk s (zwV TT s l)/\Sfx s (zwV TT s l)
 | [],s=>⟨Wk.refl _,Sfx.refl _⟩
 | x::r,s=>by
  obtain ⟨h1,h2⟩:=zAq TT s x;obtain ⟨h3,h4⟩:=zuO TT r (zzg TT s x);exact ⟨h1.trans h3,h2.trans h4⟩
def nilP (TT:List TE) (s:ESt) (x:EV):ESt:=match x with
 | .ptr id _=>match s.ent id with
  | some (.box T cs)=>zwV TT (ESt.nilB TT id T cs.length s) cs
  | _=>s
 | _=>s
theorem zzh (TT:List TE) (s:ESt) (x:EV):Wk s (nilP TT s x)/\Sfx s (nilP TT s x):=by
 unfold nilP
 split
 ·split
  ·rename_i T cs _;obtain ⟨h1,h2⟩:=zv0 TT _ T cs.length s;obtain ⟨h3,h4⟩:=zuO TT cs _;exact ⟨h1.trans h3,h2.trans h4⟩
  ·exact ⟨Wk.refl _,Sfx.refl _⟩
 ·exact ⟨Wk.refl _,Sfx.refl _⟩
def zxJ (TT:List TE):ESt->List EV->ESt
 | s,[]=>s
 | s,x::r=>zxJ TT (nilP TT s x) r
theorem ztF (TT:List TE):∀ (l:List EV) (s:ESt),Wk s (zxJ TT s l)/\Sfx s (zxJ TT s l)
 | [],s=>⟨Wk.refl _,Sfx.refl _⟩
 | x::r,s=>by
  obtain ⟨h1,h2⟩:=zzh TT s x;obtain ⟨h3,h4⟩:=ztF TT r (nilP TT s x);exact ⟨h1.trans h3,h2.trans h4⟩
def zlA (TT:List TE):ESt->List EV->ESt
 | s,[]=>s
 | s,.fn _ c::r=>zlA TT (zxJ TT s c) r
 | s,x::r=>zlA TT (nilP TT s x) r
theorem zo2 (TT:List TE):∀ (l:List EV) (s:ESt),Wk s (zlA TT s l)/\Sfx s (zlA TT s l)
 | [],s=>⟨Wk.refl _,Sfx.refl _⟩
 | x::r,s=>by
  by_cases hx:∃ f c,x = .fn f c
  ·obtain ⟨f,c,rfl⟩:=hx;simp only [zlA];obtain ⟨h1,h2⟩:=ztF TT c s;obtain ⟨h3,h4⟩:=zo2 TT r (zxJ TT s c);exact ⟨h1.trans h3,h2.trans h4⟩
  ·have e:zlA TT s (x::r)=zlA TT (nilP TT s x) r:=by
    cases x<;>first | rfl | exact absurd ⟨_,_,rfl⟩ hx
   rw [e];obtain ⟨h1,h2⟩:=zzh TT s x;obtain ⟨h3,h4⟩:=zo2 TT r (nilP TT s x);exact ⟨h1.trans h3,h2.trans h4⟩
def zsA (TT:List TE) (s:ESt) (f:Operand) (args:List Operand):ESt:=match s.ev f with
 | some (.fn g caps)=>match zq1 s args with
  | some vals=>zlA TT s (vals++[.fn g caps])
  | none=>s
 | _=>s
theorem zyJ (TT:List TE) (s:ESt) (f:Operand) (args:List Operand):Wk s (zsA TT s f args)/\Sfx s (zsA TT s f args):=by
 unfold zsA
 split
 ·split
  ·exact zo2 TT _ s
  ·exact ⟨Wk.refl _,Sfx.refl _⟩
 ·exact ⟨Wk.refl _,Sfx.refl _⟩
def zwx (TT:List TE) (Γ:List CE) (s:ESt) (f:Operand) (args:Array Operand) (d:Nat) (pure:Bool) (K:ESt->Option R):Option R:=
 bif !(fitC Γ (zoJ s args.toList) f args d pure) && fitC Γ (zsA TT (zoJ s args.toList) f args.toList) f args d pure then
  zhn Γ (zsA TT (zoJ s args.toList) f args.toList) f args d pure K else ztd TT Γ (zoJ s args.toList) f args d pure K
def ztM (TT:List TE):List (Nat×Nat)->Option (List (Nat×Nat))
 | []=>some []
 | (off,ft)::r=>match fT TT ft with
  | some e=>match ztM TT r with
   | some l=>some ((off,e.size)::l)
   | none=>none
  | none=>none
theorem zpJ {P:Program} {TT:List TE} (hT:TOK P TT):∀ {fa:List Field} {ps:List (Nat×Nat)},ztM TT (fa.map fun f=>(f.offset,f.type))=some ps->fa.mapM (fun f=>(P.info? f.type).map fun i=>(f.offset,i.size))=some ps
 | [],ps,h=>by cases h;rfl
 | f::fa,ps,h=>by
  simp only [List.map_cons,ztM] at h
  split at h
  ·rename_i e he
   split at h
   ·rename_i l hl
    cases h;obtain ⟨h1,h2⟩:=zbt hT he;obtain ⟨i,h3,h4,_⟩:=h1.ti.inf;rw [h2] at h3;rw [List.mapM_cons,h3,zpJ hT hl,<- h4];rfl
   ·cases h
  ·cases h
def EV.isNil:EV->Bool
 | .nil=>true
 | _=>false
def zAs (u:Option Ty) (cs:List EV) (K:EV->Option R):Option R:=bif cs.any EV.isNil then K (.agg cs) else match u with
 | some u=>match zo3 u cs with
  | some (y,[])=>bif u.agg then K (.d u y) else none
  | _=>K (.agg cs)
 | none=>K (.agg cs)
theorem zsL {u:Option Ty} {cs:List EV} {K:EV->Option R} {q:R} (h:zAs u cs K=some q):∃ x,Conv (.agg (EV.avL cs)) x.av/\K x=some q:=by
 unfold zAs at h
 cases hn:cs.any EV.isNil
 case true=>rw [hn] at h;exact ⟨_,Conv.refl _,h⟩
 rw [hn] at h;simp only [cond_false] at h
 split at h
 ·rename_i u
  split at h
  ·rename_i y hy;have hb:=(zab h).1;replace h:=(zab h).2;obtain ⟨l1,h1,h2⟩:=zeu hy;rw [List.append_nil] at h1;subst h1;refine ⟨_,?_,h⟩
   intro w S H v hv;show VRel w S H (.d (encD u y)) v;rw [zc7 hb];exact VRel.packn hv h2
  ·exact ⟨_,Conv.refl _,h⟩
 ·exact ⟨_,Conv.refl _,h⟩
def ztc (TT:List TE) (s:ESt) (t:Nat) (parts:List (Nat×Operand)) (K:EV->Option R):Option R:=match fT TT t with
 | some e=>match zqr s parts with
  | some xs=>match e.z with
   | .agg zs=>match e.td with
    | .struct fs _=>match ztM TT fs with
     | some places=>match zxv (fun i=>places[i]?) (zs.toList.map EV.con) xs with
      | some cs=>zAs e.ty cs K
      | none=>none
     | none=>none
    | .array _ el=>match fT TT el with
     | some E=>match zxv (fun i=>some (i * E.size,E.size)) (zs.toList.map EV.con) xs with
      | some cs=>zAs e.ty cs K
      | none=>none
     | none=>none
    | _=>none
   | _=>none
  | none=>none
 | none=>none
theorem zym (zs:Array Value):EV.avL (zs.toList.map EV.con)=zs.toList.map avc:=by
 rw [zeG,List.map_map];exact List.map_congr_left fun v _=>zyl v
section
variable {P:Program} {TT:List TE} {F:Fr} {s:ESt} {o:Oper} {q:R}
theorem znP (hT:TOK P TT) {K:EV->Option R} {t:Nat} {parts:Array (Nat×Operand)} (ho:o.op = .build t parts) (h:ztc TT s t parts.toList K=some q):∃ z,RO P F s.st o z.av/\K z=some q:=by
 unfold ztc at h
 split at h
 ·rename_i e he
  split at h
  ·rename_i xs hxs
   split at h
   ·rename_i zs hz;obtain ⟨hte,rfl⟩:=zbt hT he;have hti:=hte.ti;rw [hz] at hti
    split at h
    ·rename_i fs _ htd
     split at h
     ·rename_i places hp
      split at h
      ·rename_i cs hcs;obtain ⟨x,hx,hk⟩:=zsL h;have htd':=hte.td;rw [htd] at htd';obtain ⟨⟨fa,hu,hfs⟩,_⟩:=htd';rw [<- hfs] at hp;refine ⟨x,RO.conv ?_ hx,hk⟩
       have hf:=ztu hcs;rw [zym] at hf;exact RO.build ho hu hti (zpJ hT hp) (zjZ hxs) hf
      ·cases h
     ·cases h
    ·rename_i n el htd
     split at h
     ·rename_i E hE
      split at h
      ·rename_i cs hcs;obtain ⟨x,hx,hk⟩:=zsL h;have htd':=hte.td;rw [htd] at htd';obtain ⟨hEk,rfl⟩:=zbt hT hE;refine ⟨x,RO.conv ?_ hx,hk⟩
       have hf:=ztu hcs;rw [zym] at hf;exact RO.buildA ho htd' hti hEk.ti (zjZ hxs) hf
      ·cases h
     ·cases h
    ·cases h
   ·cases h
  ·cases h
 ·cases h
end
theorem AL.ro {P:Program} {F:Fr} {σ:St} {o:Oper} {d:Nat} {x:AV} (hd:o.dst=some d) (hlt:Nat.blt d σ.n=true) (h:RO P F σ o x):AL P F σ o (·=σ.set d x):=by
 intro a w ⟨H,r⟩;obtain ⟨v,hv,hx⟩:=h H a w r;have hlt':d < σ.n:=by simpa using hlt
 have r':=r.set hlt' hx;rw [<- hd] at r';exact zqD hv ⟨⟨v,rfl⟩,Ext.refl w,_,rfl,H,r'⟩
def evA (TT:List TE) (Γ:List CE) (s:ESt) (o:Oper) (K:ESt->Option R):Option R:=match o.dst with
 | none=>none
 | some d=>bif Nat.blt s.nxt LIM && Nat.blt d s.n then (match o.op with
  | .box T x=>match (frzV TT s (s.ev x)).ev x with
   | some v=>match v.cellsOf with
    | some cs=>K (((frzV TT s (s.ev x)).new (.box T cs)).set d (.ptr s.nxt 0))
    | none=>none
   | none=>none
  | .alloc T=>match fT TT T with
   | some e=>match (EV.con e.z).cellsOf with
    | some cs=>K ((s.new (.box T cs)).set d (.ptr s.nxt 0))
    | none=>none
   | none=>none
  | .buildSlice t n parts=>match zc4 TT t with
   | some e=>match tyT TT e with
    | some te=>match ztl (zed TT (fun _=>some e) s parts.toList) te parts.toList 0 with
     | some ys=>bif Nat.blt 0 te.sz && Nat.beq n parts.toList.length && Nat.ble (n * te.bts) most && Nat.ble (n * te.sz) 16777216 then
       K (((zed TT (fun _=>some e) s parts.toList).new (.arr e te ys)).set d (.own s.nxt)) else none
     | none=>none
    | none=>none
   | none=>none
  | .makeSlice t l c=>match zc4 TT t with
   | some e=>match tyT TT e with
    | some te=>match s.ev l,s.ev c with
     | some (.d (.int .i64) m),some (.d (.int .i64) k)=>bif Nat.blt 0 te.sz && Nat.blt 0 te.bts then
       G (mkOK m k te.bts) (K ((s.new (.arr e te (List.replicate m.toNat te.dflt))).set d (.own s.nxt))) else none
     | _,_=>none
    | none=>none
   | none=>none
  | .call c=>match c.callee with
   | .value f=>zwx TT Γ s f c.args d true K
   | _=>none
  | .slice t x none (some y) none=>match zc4 TT t with
   | some e=>match tyT TT e with
    | some te=>match s.ev x,s.ev y with
     | some (.own k),some (.d (.int .i64) j)=>match s.ent k with
      | some (.arr E te' l)=>bif Ty.beq te' te then G (0<=j/\j<=(l.length:Int)) (K (((s.put k none).new (.arr E te' (l.take j.toNat))).set d (.own s.nxt))) else none
      | _=>none
     | _,_=>none
    | none=>none
   | none=>none
  | .slice t x (some y) none none=>match zc4 TT t with
   | some e=>match tyT TT e with
    | some te=>match s.ev x,s.ev y with
     | some (.own k),some (.d (.int .i64) j)=>match s.ent k with
      | some (.arr E te' l)=>bif Ty.beq te' te then G (0<=j/\j<=(l.length:Int)) (K (((s.put k none).new (.arr E te' (l.drop j.toNat))).set d (.own s.nxt))) else none
      | _=>none
     | _,_=>none
    | none=>none
   | none=>none
  | .build t parts=>ztc TT s t parts.toList fun x=>K (s.set d x)
  | .load t x=>match fT TT t with
   | some e=>match s.ev x with
    | some (.ptr id k)=>match s.ent id with
     | some (.box _ cs)=>bif e.ag && Nat.ble (k+e.size) cs.length then K (s.set d (.agg ((cs.drop k).take e.size))) else none
     | _=>none
    | _=>none
   | none=>none
  | .makeMap t none=>match mapT TT t with
   | some (kt,et)=>match tyT TT kt,tyT TT et with
    | some k,some v=>K ((s.new (.box t [.d (.list k) ([]:List k.den),.d (.list v) ([]:List v.den)])).set d (.own s.nxt))
    | _,_=>none
   | none=>none
  | _=>none) else none
def zyI (TT:List TE) (s:ESt) (t:Nat) (x y c:Operand) (K:ESt->Option R):Option R:=match mapT TT t with
 | some _=>match s.ev x with
  | some (.own id)=>match s.ent id with
   | some (.box T [.d (.list k) ks,.d (.list v) vs])=>bif skT TT t k then (match s.ev y,s.ev c with
    | some yv,some cv=>match yv.exact k,cv.exact v with
     | some key,some el=>K (s.put id (some (.box T [.d (.list k) (znl ks key),.d (.list v) (znm ks vs key el)])))
     | _,_=>none
    | _,_=>none) else none
   | _=>none
  | _=>none
 | none=>none
def zzX (TT:List TE) (s:ESt) (t:Nat) (x y c:Operand) (K:ESt->Option R):Option R:=match s.ev x with
 | some (.own id)=>match s.ent id with
  | some (.box _ [.d _ _,.d (.list v) _])=>zyI TT (s.dat c v) t x y c K
  | _=>none
 | _=>none
def zyH (TT:List TE) (s:ESt) (t:Nat) (x y:Operand) (d:Nat) (K:ESt->Option R):Option R:=bif Nat.beq s.n 0 && Nat.beq s.n 1 then K s else none
def evESt0 (s:ESt) (x y c:Operand) (K:ESt->Option R):Option R:=match s.ev x with
 | some (.own id)=>match s.ent id with
  | some (.box T [.d (.list k) ks,.d (.list v) vs])=>match s.ev y,s.ev c with
   | some (.d (.int .i64) p),some cv=>match cv.exact v with
    | some el=>G (0<=p/\p < (vs.length:Int)) (K (s.put id (some (.box T [.d (.list k) ks,.d (.list v) (vs.set (Int.toNat p) el)]))))
    | none=>none
   | _,_=>none
  | _=>none
 | _=>none
def zBC (s:ESt) (x y c:Operand) (K:ESt->Option R):Option R:=bif Nat.beq s.n 0 && Nat.beq s.n 1 then K s else none
def zC3 (s:ESt) (y:Operand) (te:Ty):Option (List te.den):=match s.ev y with
 | some (.d ty yv)=>zbw ty (.list te) yv
 | some (.own id)=>match s.ent id with
  | some (.arr _ ty yv)=>zbw (.list ty) (.list te) yv
  | _=>none
 | some .nil=>some ([]:List te.den)
 | _=>none
def zAY (s:ESt) (y:Operand) (te:Ty):Option (Option (Nat×Nat×List te.den)):=match s.ev y with
 | some (.view id t i n)=>match s.ent id with
  | some (.arr _ ty yv)=>bif Ty.beq t te then (match zbw (.list ty) (.list te) yv with
   | some l=>some (some (i,n,l))
   | none=>some none) else some none
  | _=>some none
 | _=>none
def zt3 {R:Type} (s:ESt) (y:Operand) (te:Ty) (K:List te.den->Option R):Option R:=match zAY s y te with
 | some (some (i,n,l))=>G (i+n<=l.length) (K ((l.drop i).take n))
 | some none=>none
 | none=>match zC3 s y te with
  | some ys=>K ys
  | none=>none
theorem zpY {R:Type} {s:ESt} {y:Operand} {te:Ty} {K:List te.den->Option R} {q:R} (h:zt3 s y te K=some q):∃ ys,Src s.st y (α:=te.den) ys/\K ys=some q:=by
 unfold zt3 at h
 split at h
 ·rename_i i n l hv;obtain ⟨hg,h⟩:=zbu h;refine ⟨_,?_,h⟩
  unfold zAY at hv
  split at hv
  ·rename_i id t i' n' h1
   split at hv
   ·rename_i E ty yv h2
    cases hb:Ty.beq t te with
    | false=>rw [hb] at hv;cases hv
    | true=>
     rw [hb] at hv;simp only [cond_true] at hv
     split at hv
     ·rename_i l' hl
      cases hv;have:=Ty.eq_of_beq hb;subst this;obtain ⟨e',rfl⟩:=za6 hl
      cases e';exact .inr (.inr (.inr ⟨id,E,i,n,_,zan h1,zaW h2,rfl,hg⟩))
     ·cases hv
   ·cases hv
  ·cases hv
 ·cases h
 ·split at h
  ·rename_i ys hys;refine ⟨ys,?_,h⟩
   unfold zC3 at hys
   split at hys
   ·rename_i ty yv h1;obtain ⟨rfl,rfl⟩:=za6 hys;exact .inl (zan h1)
   ·rename_i id h1
    split at hys
    ·rename_i E ty yv h2;obtain ⟨e',rfl⟩:=za6 hys
     cases e';exact .inr (.inl ⟨id,E,zan h1,zaW h2⟩)
    ·cases hys
   ·rename_i h1
    cases hys;exact .inr (.inr (.inl ⟨zan h1,rfl⟩))
   ·cases hys
  ·cases h
def zyx (TT:List TE) (s:ESt) (x y:Operand) (t:Nat) (d:Nat) (K:ESt->Option R):Option R:=bif Nat.beq s.n 0 && Nat.beq s.n 1 then K s else none
def zvC (TT:List TE) (s:ESt) (x:Operand) (t:Nat) (K:ESt->Option R):Option R:=bif Nat.beq s.n 0 && Nat.beq s.n 1 then K s else none
def ztb (TT:List TE) (s:ESt) (x y:Operand) (t:Nat) (d:Nat) (K:ESt->Option R):Option R:=match zc4 TT t with
 | some e=>match tyT TT e with
  | some te=>bif Nat.blt 0 te.sz && Nat.blt 0 te.bts && Nat.blt s.nxt LIM && Nat.blt d s.n then zt3 s y te (fun ys=>match s.ev x with
    | some (.own k)=>match s.ent k with
     | some (.arr E ty xv)=>match zbw (.list ty) (.list te) xv with
      | some xs=>bif Nat.beq E e then G (room xs ys te.bts) (K (((s.put k none).new (.arr e te (xs++ys))).set d (.own s.nxt))) else none
      | none=>none
     | _=>none
    | some .nil=>G (room ([]:List te.den) ys te.bts) (K ((s.new (.arr e te ys)).set d (.own s.nxt)))
    | some (.full ty xv)=>match zbw (.list ty) (.list te) xv with
     | some xs=>G (0 < ys.length/\room xs ys te.bts) (K ((s.new (.arr e te (xs++ys))).set d (.own s.nxt)))
     | none=>none
    | _=>none) else none
  | none=>none
 | none=>none
def zq2 (TT:List TE) (s:ESt) (x y:Operand) (t u:Nat) (d:Nat) (K:ESt->Option R):Option R:=bif Nat.beq s.n 0 && Nat.beq s.n 1 then K s else none
def ztp (TT:List TE) (s:ESt) (t:Nat) (x y:Operand) (K:ESt->Option R):Option R:=match s.ev x with
 | some (.ptr id k)=>match s.ent id with
  | some (.box T cs)=>match fT TT t with
   | some e=>match s.ev y with
    | some v=>match v.cellsOf with
     | some ys=>bif ys.all EV.oneB && Nat.beq ys.length e.size && Nat.ble (k+e.size) cs.length then
       K (s.put id (some (.box T (zu6 cs k ys)))) else none
     | none=>none
    | none=>none
   | none=>none
  | _=>none
 | some (.eptr id te j k)=>match tyT TT t with
  | some u=>match (s.dat y u).ev y with
   | some v=>match v.exact u with
    | some c=>match (s.dat y u).ent id with
     | some (.arr E te' l)=>bif Ty.beq te te' then (match (s.dat y u).ev x with
       | some (.eptr id2 te2 j2 k2)=>bif Nat.beq id2 id && Ty.beq te2 te' && Nat.beq k2 k then (match zwi te' (l.getD j2 te'.dflt) k u c with
        | some z=>G (j2 < l.length) (K ((s.dat y u).put id (some (.arr E te' (l.set j2 z)))))
        | none=>none) else none
       | _=>none) else none
     | _=>none
    | none=>none
   | none=>none
  | none=>none
 | _=>none
def vecE (te:Ty) (l:List te.den) (n:Nat):List EV:=(List.range n).map fun i => .d te (l.getD i te.dflt)
def ztq (TT:List TE) (s:ESt) (t:Nat) (x y:Operand) (K:ESt->Option R):Option R:=match s.ev x with
 | some (.vptr id off n te j)=>match s.ent id with
  | some (.box T cs)=>match fT TT t with
   | some e=>bif Nat.beq e.size 1 && !te.agg then (match zuJ te n (cs.drop off) with
    | some l=>match s.ev y with
     | some v=>match v.exact te with
      | some c=>G (j < n) (K (s.put id (some (.box T (zu6 cs off (vecE te (l.set j c) n))))))
      | none=>none
     | none=>none
    | none=>none) else none
   | none=>none
  | _=>none
 | _=>none
def zto (TT:List TE) (s:ESt) (t:Nat) (x y:Operand) (K:ESt->Option R):Option R:=ztp TT (frzV TT s (s.ev y)) t x y K
def evE (TT:List TE) (Γ:List CE) (s:ESt) (o:Oper) (K:ESt->Option R):Option R:=match o.op,o.dst with
 | .store t x y,none=>bif zwJ s x then ztq TT s t x y K else zto TT s t x y K
 | .mapUpdate t x y c,none=>zzX TT s t x y c K
 | .insert t x y c,none=>zzX TT s t x y c K
 | .mapEntry t x y,some d=>zyH TT s t x y d K
 | .entryStore _ x y c,none=>zBC s x y c K
 | .call c,some d=>match c.callee,c.args.toList,c.argTypes.toList with
  | .builtin .append,[x,y],[t,t']=>bif Nat.beq t t' then ztb TT s x y t d K else zq2 TT s x y t t' d K
  | .builtin .copy,[x,y],[t,_]=>zyx TT s x y t d K
  | .value f,_,_=>zwx TT Γ s f c.args d false K
  | _,_,_=>none
 | .call c,none=>match c.callee,c.args.toList,c.argTypes.toList with
  | .builtin .clear,[x],[t]=>zvC TT s x t K
  | _,_,_=>none
 | _,_=>evA TT Γ s o K
section
variable {P:Program} {TT:List TE} {Γ:List CE} {F:Fr} {s:ESt} {o:Oper} {K:ESt->Option R} {q:R}
def Post (s:ESt) (K:ESt->Option R) (q:R) (σ':St):Prop:=∃ s',σ'=s'.st/\Sfx s s'/\K s'=some q
theorem AL.post {σ:St} {p p':St->Prop} (h:AL P F σ o p) (hp:∀ x,p x->p' x):AL P F σ o p':=
 fun a w r=>Oper.wp_mono2 (fun _ _ ⟨h1,h2,x,h3,h4⟩=>⟨h1,h2,x,hp x h3,h4⟩) (fun _ _ _ h=>h) (h a w r)
theorem EF.post {σ:St} {p p':St->Prop} (h:EF P F σ o p) (hp:∀ x,p x->p' x):EF P F σ o p':=
 fun a w r=>Oper.wp_mono2 (fun _ _ ⟨h0,x,h3,h4⟩=>⟨h0,x,hp x h3,h4⟩) (fun _ _ _ h=>h) (h a w r)
theorem zjY (hG:GOK P Γ) {f:Operand} {args:Array Operand} {ts:Array TypeId} {d:Nat} {pure:Bool} (hd:o.dst=some d) (ho:o.op = .call { callee := .value f,args:=args,argTypes:=ts })
  (h:zhn Γ s f args d pure K=some q):∀ (a:Act) (w:World),Rel F s.st a w->o.wp P a w (fun a' w'=>((∃ u,a'=a.put o.dst u)/\(pure=true->Ext w w'))/\∃ σ',Post s K q σ'/\Rel F σ' a' w') (fun _ _ _=>False):=by
 unfold zhn at h
 split at h
 ·rename_i g caps hf
  split at h
  ·rename_i vals hv;have hb:=(zab h).1;replace h:=(zab h).2;obtain ⟨hrg,h⟩:=zwE h;obtain ⟨c,hc,hcf,hpure,hat⟩:=zll h;intro a w r;refine Oper.wp_mono2 (fun a' w' hh => ?_) (fun _ _ _ h=>h) (zsi (hG c hc) hd hb ho (by rw [hcf];exact hf) hv hrg hat a w r)
   exact ⟨⟨hh.1.1,fun hp=>hh.1.2 (hpure hp)⟩,hh.2⟩
  ·cases h
 ·cases h
theorem znQ (hG:GOK P Γ) {f:Operand} {args:Array Operand} {ts:Array TypeId} {d:Nat} {pure:Bool} (hd:o.dst=some d) (ho:o.op = .call { callee := .value f,args:=args,argTypes:=ts })
  (h:ztd TT Γ s f args d pure K=some q):∀ (a:Act) (w:World),Rel F s.st a w->o.wp P a w (fun a' w'=>((∃ u,a'=a.put o.dst u)/\(pure=true->Ext w w'))/\∃ σ',Post s K q σ'/\Rel F σ' a' w') (fun _ _ _=>False):=by
 unfold ztd at h
 cases hb:fitC Γ s f args d pure with
 | true=>rw [hb] at h;exact zjY hG hd ho h
 | false=>
  rw [hb,cond_false] at h;have go:∀ s0:ESt,Wk s s0->Sfx s s0->zhn Γ s0 f args d pure K=some q->∀ (a:Act) (w:World),Rel F s.st a w->o.wp P a w (fun a' w'=>((∃ u,a'=a.put o.dst u)/\(pure=true->Ext w w'))/\∃ σ',Post s K q σ'/\Rel F σ' a' w') (fun _ _ _=>False):=by
   intro s0 h1 h2 h a w r;refine Oper.wp_mono2 (fun a' w' ⟨g1,σ',⟨s',e1,e2,e3⟩,g3⟩ => ?_) (fun _ _ _ h=>h) (zjY hG hd ho h a w (h1.rel F a w r))
   exact ⟨g1,σ',⟨s',e1,h2.trans e2,e3⟩,g3⟩
  obtain ⟨h1,h2⟩:=zi4 args.toList s
  split at h
  ·rename_i s1 e1;obtain ⟨u1,u2⟩:=zqW e1;exact go _ u1 u2 h
  ·rename_i s1 _ e1;obtain ⟨v1,v2⟩:=zqW e1;exact go _ (h1.trans v1) (h2.trans v2) h
  ·obtain ⟨k1,k2⟩:=znJ TT args.toList s
   cases hb0:fitC Γ (zi3 TT s args.toList) f args d pure with
   | true=>rw [hb0] at h;exact go _ k1 k2 h
   | false=>
   rw [hb0,cond_false] at h
   cases hb2:fitC Γ (zfe s args.toList) f args d pure with
   | true=>rw [hb2] at h;exact go _ h1 h2 h
   | false=>
    rw [hb2] at h;obtain ⟨h3,h4⟩:=znJ TT args.toList (zfe s args.toList);rw [cond_false] at h
    cases hb3:fitC Γ (zi3 TT (zfe s args.toList) args.toList) f args d pure with
    | true=>rw [hb3] at h;exact go _ (h1.trans h3) (h2.trans h4) h
    | false=>
     rw [hb3] at h;obtain ⟨h5,h6⟩:=zxo TT Γ (zi3 TT (zfe s args.toList) args.toList) f args.size;exact go _ ((h1.trans h3).trans h5) ((h2.trans h4).trans h6) h
theorem zpz (hG:GOK P Γ) {f:Operand} {args:Array Operand} {ts:Array TypeId} {d:Nat} {pure:Bool} (hd:o.dst=some d) (ho:o.op = .call { callee := .value f,args:=args,argTypes:=ts })
  (h:zwx TT Γ s f args d pure K=some q):∀ (a:Act) (w:World),Rel F s.st a w->o.wp P a w (fun a' w'=>((∃ u,a'=a.put o.dst u)/\(pure=true->Ext w w'))/\∃ σ',Post s K q σ'/\Rel F σ' a' w') (fun _ _ _=>False):=by
 intro a w r;obtain ⟨h1,h2⟩:=zqp args.toList s;unfold zwx at h
 cases hb : !(fitC Γ (zoJ s args.toList) f args d pure) && fitC Γ (zsA TT (zoJ s args.toList) f args.toList) f args d pure with
 | true=>
  rw [hb,cond_true] at h;obtain ⟨h3,h4⟩:=zyJ TT (zoJ s args.toList) f args.toList;refine Oper.wp_mono2 (fun a' w' ⟨g1,σ',⟨s',e1,e2,e3⟩,g3⟩ => ?_) (fun _ _ _ h=>h) (zjY hG hd ho h a w ((h1.trans h3).rel F a w r))
  exact ⟨g1,σ',⟨s',e1,(h2.trans h4).trans e2,e3⟩,g3⟩
 | false=>
 rw [hb,cond_false] at h;refine Oper.wp_mono2 (fun a' w' ⟨g1,σ',⟨s',e1,e2,e3⟩,g3⟩ => ?_) (fun _ _ _ h=>h) (znQ hG hd ho h a w (h1.rel F a w r))
 exact ⟨g1,σ',⟨s',e1,h2.trans e2,e3⟩,g3⟩
theorem zun (hT:TOK P TT) (hG:GOK P Γ) (h:evA TT Γ s o K=some q):∃ s0,Wk s s0/\Sfx s s0/\AL P F s0.st o (Post s K q):=by
 unfold evA at h
 split at h
 ·cases h
 ·rename_i d hd;have hb:=(zab h).1;replace h:=(zab h).2;simp only [Bool.and_eq_true] at hb
  split at h
  ·rename_i T x ho
   split at h
   ·rename_i v hv
    split at h
    ·rename_i cs hcs;obtain ⟨h1,h2⟩:=zh8 hcs;obtain ⟨hw,hs⟩:=zyT TT s (s.ev x);have hnxt:=zz7 TT s (s.ev x);generalize frzV TT s (s.ev x)=s0 at h hv hw hs hnxt;refine ⟨s0,hw,hs,(AL.box (P:=P) (F:=F) (σ:=s0.st) s0.nxt rfl (by rw [hnxt];exact hb.1) hd (by show Nat.blt d s0.n=true;rw [hs.n];exact hb.2) ho (zan hv) h2).post fun x hx => ?_⟩
     subst hx;exact ⟨_,by rw [zhT,zjj,h1,<- hnxt];rfl,hs.trans ((Sfx.new _ _).trans (Sfx.set _ _ _)),h⟩
    ·cases h
   ·cases h
  ·rename_i T ho
   split at h
   ·rename_i e he
    split at h
    ·rename_i cs hcs;obtain ⟨h1,h2⟩:=zh8 hcs;rw [zyl] at h1 h2;obtain ⟨hte,rfl⟩:=zbt hT he;refine ⟨s,Wk.refl _,Sfx.refl _,(AL.alloc (P:=P) (F:=F) (σ:=s.st) s.nxt rfl hb.1 hd hb.2 ho hte.ti h2).post fun x hx => ?_⟩
     subst hx;exact ⟨_,by rw [zhT,zjj,h1];rfl,(Sfx.new _ _).trans (Sfx.set _ _ _),h⟩
    ·cases h
   ·cases h
  ·rename_i t n parts ho
   split at h
   ·rename_i e he
    split at h
    ·rename_i te hte
     split at h
     ·rename_i ys hys;have hb2:=(zab h).1;replace h:=(zab h).2;simp only [Bool.and_eq_true] at hb2;obtain ⟨⟨⟨g1,g2⟩,g3⟩,g4⟩:=hb2;obtain ⟨hw,hs⟩:=zhi TT (fun _=>some e) parts.toList s
      generalize hs0:zed TT (fun _=>some e) s parts.toList=s0 at h hys hw hs
      obtain ⟨z,hz,hzc⟩:=zcy hT hte;have g1':0 < te.sz:=by simpa using g1
      obtain ⟨k1,xs,k2,k3⟩:=zpA g1' [] hys (by simp)
      have hn:n=ys.length:=by rw [Nat.eq_of_beq_eq_true g2];exact k1
      have hnxt:s0.nxt=s.nxt:=by rw [<- hs0];exact zia TT _ _ _
      refine ⟨s0,hw,hs,(AL.litsN (P:=P) (F:=F) (σ:=s0.st) (α:=te.den) (ys:=ys) (xs:=xs) s0.nxt rfl (by rw [hnxt];exact hb.1) hd (by show Nat.blt d s0.n=true;rw [hs.n];exact hb.2) ho (zaz hT he) hz rfl g1 k2 (by rw [hn];rw [List.nil_append,List.nil_append] at k3;exact k3) hn rfl g3 g4).post fun x hx => ?_⟩
      subst hx;exact ⟨_,by rw [zhT,zjj,hnxt];rfl,hs.trans ((Sfx.new _ _).trans (Sfx.set _ _ _)),h⟩
     ·cases h
    ·cases h
   ·cases h
  ·rename_i t l c ho
   split at h
   ·rename_i e he
    split at h
    ·rename_i te hte
     split at h
     ·rename_i m k hm hk;have hb2:=(zab h).1;replace h:=(zab h).2;simp only [Bool.and_eq_true] at hb2;obtain ⟨hg,h⟩:=zbu h;obtain ⟨z,hz,hzc⟩:=zcy hT hte;have hpos:0 < te.sz:=by simpa using hb2.1
      have hbp:0 < te.bts:=by simpa using hb2.2
      have hk63:=zzf k te.bts hbp hg.2.2;refine ⟨s,Wk.refl _,Sfx.refl _,(AL.make (P:=P) (F:=F) (σ:=s.st) (α:=te.den) (z0:=te.dflt) s.nxt rfl hb.1 hd hb.2 ho (zaz hT he) hz rfl rfl hpos (zan hm) (zan hk) (by rw [hzc];exact zrs te) hg.1 hg.2.1 hg.2.2 hk63).post fun x hx => ?_⟩
      subst hx;exact ⟨_,by rw [zhT,zjj];rfl,(Sfx.new _ _).trans (Sfx.set _ _ _),h⟩
     ·cases h
    ·cases h
   ·cases h
  ·rename_i c ho
   split at h
   ·rename_i f hf;refine ⟨s,Wk.refl _,Sfx.refl _,fun a w r=>Oper.wp_mono2 (fun a' w' hh => ?_) (fun _ _ _ h=>h) (zpz hG hd (ts:=c.argTypes) (by rw [ho,<- hf]) h a w r)⟩
    exact ⟨hh.1.1,hh.1.2 rfl,hh.2⟩
   ·cases h
  ·rename_i t x y ho
   split at h
   ·rename_i e he
    split at h
    ·rename_i te hte
     split at h
     ·rename_i k j hx hy
      split at h
      ·rename_i E te' l hk;have hb2:=(zab h).1;replace h:=(zab h).2;have:=Ty.eq_of_beq hb2;subst this;obtain ⟨hj,h⟩:=zbu h;obtain ⟨z,hz,hzc⟩:=zcy hT hte;refine ⟨s,Wk.refl _,Sfx.refl _,(AL.resl (P:=P) (F:=F) (σ:=s.st) (α:=te'.den) (xs:=l) s.nxt rfl hb.1 hd hb.2 ho (zaz hT he) hz rfl (zan hx) (zaW hk) (zan hy) hj).post fun x hx => ?_⟩
       subst hx;exact ⟨_,by rw [zhT,zjj];rfl,(Sfx.put _ _ _).trans ((Sfx.new _ _).trans (Sfx.set _ _ _)),h⟩
      ·cases h
     ·cases h
    ·cases h
   ·cases h
  ·rename_i t x y ho
   split at h
   ·rename_i e he
    split at h
    ·rename_i te hte
     split at h
     ·rename_i k j hx hy
      split at h
      ·rename_i E te' l hk;have hb2:=(zab h).1;replace h:=(zab h).2;have:=Ty.eq_of_beq hb2;subst this;obtain ⟨hj,h⟩:=zbu h;obtain ⟨z,hz,hzc⟩:=zcy hT hte;refine ⟨s,Wk.refl _,Sfx.refl _,(AL.tail (P:=P) (F:=F) (σ:=s.st) (α:=te'.den) (xs:=l) s.nxt rfl hb.1 hd hb.2 ho (zaz hT he) hz rfl (zan hx) (zaW hk) (zan hy) hj).post fun x hx => ?_⟩
       subst hx;exact ⟨_,by rw [zhT,zjj,zgO];rfl,(Sfx.put _ _ _).trans ((Sfx.new _ _).trans (Sfx.set _ _ _)),h⟩
      ·cases h
     ·cases h
    ·cases h
   ·cases h
  ·rename_i t parts ho;obtain ⟨z,h1,h2⟩:=znP (F:=F) hT ho h;refine ⟨s,Wk.refl _,Sfx.refl _,(AL.ro hd hb.2 h1).post fun x hx => ?_⟩
   subst hx;exact ⟨_,by rw [zhT],Sfx.set _ _ _,h2⟩
  ·rename_i t x ho
   split at h
   ·rename_i e he
    split at h
    ·rename_i id k h1
     split at h
     ·rename_i T cs h2;have hb2:=(zab h).1;replace h:=(zab h).2;simp only [Bool.and_eq_true] at hb2;obtain ⟨hte,rfl⟩:=zbt hT he;have hti:=hte.ti;rw [hb2.1] at hti;have hle:k+e.size<=cs.length:=by simpa using hb2.2
      have h9:=RO.ld_ptr_sub (F:=F) ho hti (zan h1) (zaW h2) (by rw [zfQ];exact hle)
      refine ⟨s,Wk.refl _,Sfx.refl _,(AL.ro hd hb.2 h9).post fun y hy => ?_⟩
      subst hy;refine ⟨_,?_,Sfx.set _ _ _,h⟩
      rw [zhT,EV.av,zeG,zeG,List.map_take,List.map_drop]
     ·cases h
    ·cases h
   ·cases h
  ·rename_i t ho
   split at h
   ·rename_i kt et hm
    split at h
    ·rename_i k v hk hv;refine ⟨s,Wk.refl _,Sfx.refl _,(AL.makeMap (P:=P) (F:=F) (σ:=s.st) (T:=t) (α:=k.den) (β:=v.den) s.nxt rfl hb.1 hd hb.2 ho).post fun x hx => ?_⟩
     subst hx;exact ⟨_,by rw [zhT,zjj];rfl,(Sfx.new _ _).trans (Sfx.set _ _ _),h⟩
    ·cases h
   ·cases h
  ·cases h
theorem zq3 (hT:TOK P TT) {x y:Operand} {t u d:Nat} (hd:o.dst=some d) (ho:o.op = .call { callee := .builtin .append,args:=#[x,y],argTypes:=#[t,u] }) (h:zq2 TT s x y t u d K=some q):EF P F s.st o (Post s K q):=by unfold zq2 at h;obtain ⟨h1,h2⟩:=zab h;simp only [Bool.and_eq_true] at h1;have h3:=Nat.eq_of_beq_eq_true h1.1;have h4:=Nat.eq_of_beq_eq_true h1.2;omega
theorem zsh (hT:TOK P TT) {x y:Operand} {t d:Nat} (hd:o.dst=some d) (ho:o.op = .call { callee := .builtin .append,args:=#[x,y],argTypes:=#[t,t] }) (h:ztb TT s x y t d K=some q):EF P F s.st o (Post s K q):=by
 unfold ztb at h
 split at h
 ·rename_i e he
  split at h
  ·rename_i te hte;have hb:=(zab h).1;replace h:=(zab h).2;simp only [Bool.and_eq_true] at hb;obtain ⟨⟨⟨g1,g2⟩,g3⟩,g4⟩:=hb;have hpos:0 < te.sz:=by simpa using g1
   have hbp:0 < te.bts:=by simpa using g2
   obtain ⟨z,hz,hzc⟩:=zcy hT hte;obtain ⟨ys,hsrc,h⟩:=zpY h;have hm:∀ n:Nat,n * te.bts<=140737488355328->n<=9223372036854775807:=by
    intro n hn;have:n * 1<=n * te.bts:=Nat.mul_le_mul_left n hbp;omega
   split at h
   ·rename_i k hk
    split at h
    ·rename_i E ty xv hE
     split at h
     ·rename_i xs hxs;have hbe:=(zab h).1;replace h:=(zab h).2;have:=Nat.eq_of_beq_eq_true hbe;subst this;obtain ⟨e',rfl⟩:=za6 hxs
      cases e';obtain ⟨hg,h⟩:=zbu h;refine (EF.append (P:=P) (F:=F) (σ:=s.st) (α:=te.den) te.dflt s.nxt rfl g3 hd g4 ho (zaz hT he) hz rfl rfl rfl hpos (by rw [hzc];exact zrs te) (zan hk) (zaW hE) hsrc hg (hm _ hg)).post fun x hx => ?_
      subst hx;exact ⟨_,by rw [zhT,zjj,zgO];rfl,((Sfx.put _ _ _).trans (Sfx.new _ _)).trans (Sfx.set _ _ _),h⟩
     ·cases h
    ·cases h
   ·rename_i hk;obtain ⟨hg,h⟩:=zbu h;have hg':ys.length * te.bts<=140737488355328:=by
     have:room ([]:List te.den) ys te.bts:=hg;unfold room at this;simpa using this
    refine (EF.append_nil (P:=P) (F:=F) (σ:=s.st) (α:=te.den) te.dflt s.nxt rfl g3 hd g4 ho (zaz hT he) hz rfl rfl hpos (by rw [hzc];exact zrs te) (zan hk) hsrc hg' (hm _ hg')).post fun x hx => ?_
    subst hx;exact ⟨_,by rw [zhT,zjj];rfl,(Sfx.new _ _).trans (Sfx.set _ _ _),h⟩
   ·rename_i ty xv hk
    split at h
    ·rename_i xs hxs;obtain ⟨e',rfl⟩:=za6 hxs
     cases e';obtain ⟨⟨hy0,hg⟩,h⟩:=zbu h;refine (EF.append_full (P:=P) (F:=F) (σ:=s.st) (α:=te.den) te.dflt s.nxt rfl g3 hd g4 ho (zaz hT he) hz rfl rfl hpos (by rw [hzc];exact zrs te) (zan hk) hsrc hy0 hg (hm _ hg)).post fun x hx => ?_
     subst hx;exact ⟨_,by rw [zhT,zjj];rfl,(Sfx.new _ _).trans (Sfx.set _ _ _),h⟩
    ·cases h
   ·cases h
  ·cases h
 ·cases h
theorem zte (hT:TOK P TT) {x:Operand} {t:Nat} (hd:o.dst=none) (ho:o.op = .call { callee := .builtin .clear,args:=#[x],argTypes:=#[t] }) (h:zvC TT s x t K=some q):EF P F s.st o (Post s K q):=by unfold zvC at h;obtain ⟨h1,h2⟩:=zab h;simp only [Bool.and_eq_true] at h1;have h3:=Nat.eq_of_beq_eq_true h1.1;have h4:=Nat.eq_of_beq_eq_true h1.2;omega
theorem zup (hT:TOK P TT) {x y:Operand} {t t' d:Nat} (hd:o.dst=some d) (ho:o.op = .call { callee := .builtin .copy,args:=#[x,y],argTypes:=#[t,t'] }) (h:zyx TT s x y t d K=some q):EF P F s.st o (Post s K q):=by unfold zyx at h;obtain ⟨h1,h2⟩:=zab h;simp only [Bool.and_eq_true] at h1;have h3:=Nat.eq_of_beq_eq_true h1.1;have h4:=Nat.eq_of_beq_eq_true h1.2;omega
theorem zsk (hT:TOK P TT) {t:Nat} {x y:Operand} (hd:o.dst=none) (ho:o.op = .store t x y) (h:ztp TT s t x y K=some q):∃ s0,Wk s s0/\Sfx s s0/\EF P F s0.st o (Post s K q):=by
 unfold ztp at h
 split at h
 ·rename_i id k hx
  split at h
  ·rename_i T cs hid
   split at h
   ·rename_i e he
    split at h
    ·rename_i v hv
     split at h
     ·rename_i ys hys;have hb:=(zab h).1;replace h:=(zab h).2;simp only [Bool.and_eq_true] at hb;obtain ⟨⟨g1,g2⟩,g3⟩:=hb;obtain ⟨h1,h2⟩:=zh8 hys;obtain ⟨hte,rfl⟩:=zbt hT he;refine ⟨s,Wk.refl _,Sfx.refl _,(EF.st_ptr (P:=P) (F:=F) (σ:=s.st) hd ho hte.ti (zan hx) (zaW hid) (zan hv) h2 (by rw [h1];exact zqG g1) (by rw [h1,zfQ];exact Nat.eq_of_beq_eq_true g2) (by rw [zfQ];simpa using g3)).post fun x hx => ?_⟩
      subst hx;exact ⟨_,by rw [zgO,h1,<- ztY];rfl,Sfx.put _ _ _,h⟩
     ·cases h
    ·cases h
   ·cases h
  ·cases h
 ·rename_i id te j k hx
  split at h
  ·rename_i u hu
   split at h
   ·rename_i v hv
    split at h
    ·rename_i c hc
     split at h
     ·rename_i E te' l hl
      replace h:=(zab h).2
      split at h
      ·rename_i id2 te2 j2 k2 hx2;have hb2:=(zab h).1;replace h:=(zab h).2;simp only [Bool.and_eq_true] at hb2;have e1:=Nat.eq_of_beq_eq_true hb2.1.1;have e2:=Ty.eq_of_beq hb2.1.2;have e3:=Nat.eq_of_beq_eq_true hb2.2;subst e1 e2 e3
       split at h
       ·rename_i z hz;obtain ⟨hg,h⟩:=zbu h;obtain ⟨zz,hti,_⟩:=zcy hT hu;have hve:=zdO hc;subst hve;refine ⟨s.dat y u,zi5 s y u,Sfx.dat s y u,(EF.st_eptr_sub (P:=P) (F:=F) (σ:=(s.dat y u).st) hd ho hti (zan hx2) (zaW hl) (zan hv) hg hz).post fun x hx => ?_⟩
        subst hx;exact ⟨_,by rw [zgO];rfl,(Sfx.dat s y u).trans (Sfx.put _ _ _),h⟩
       ·cases h
      ·cases h
     ·cases h
    ·cases h
   ·cases h
  ·cases h
 ·cases h
theorem znS (hT:TOK P TT) {t:Nat} {x y:Operand} (hd:o.dst=none) (ho:o.op = .store t x y) (h:zto TT s t x y K=some q):∃ s0,Wk s s0/\Sfx s s0/\EF P F s0.st o (Post s K q):=by
 unfold zto at h;obtain ⟨h1,h2⟩:=zyT TT s (s.ev y);obtain ⟨s0,k1,k2,k3⟩:=zsk hT hd ho h;refine ⟨s0,h1.trans k1,h2.trans k2,fun a w r => ?_⟩
 exact Oper.wp_mono2 (fun a' w' ⟨g0,σ',⟨s',e1,e2,e3⟩,g3⟩=>⟨g0,σ',⟨s',e1,h2.trans e2,e3⟩,g3⟩) (fun _ _ _ h=>h) (k3 a w r)
theorem zzA {te:Ty} {cs:List EV} {off n j:Nat} {l:List te.den} {c:te.den} (hl:zuJ te n (cs.drop off)=some l) (hj:j < n) (hle:off+n<=cs.length):zu6 cs off (vecE te (l.set j c) n)=zu6 cs (off+j) [.d te c]:=by
 obtain ⟨h1,_,h3⟩:=zmi hl;refine List.ext_getElem? fun k => ?_
 have hv:(vecE te (l.set j c) n).length=n:=by simp [vecE]
 unfold zu6;rw [hv];by_cases c1:k < off
 ·rw [List.getElem?_append_left (by rw [List.length_append,List.length_take];omega),List.getElem?_append_left (by rw [List.length_take];omega),
   List.getElem?_append_left (by rw [List.length_append,List.length_take];omega),List.getElem?_append_left (by rw [List.length_take];omega),List.getElem?_take_of_lt c1,List.getElem?_take_of_lt (by omega)]
 ·by_cases c2:k < off+n
  ·rw [List.getElem?_append_left (by rw [List.length_append,List.length_take,hv];omega),List.getElem?_append_right (by rw [List.length_take];omega),List.length_take,Nat.min_eq_left (by omega)]
   have e1:(vecE te (l.set j c) n)[k - off]? =some (.d te ((l.set j c).getD (k - off) te.dflt)):=by
    unfold vecE;rw [List.getElem?_map,List.getElem?_range (by omega)];rfl
   rw [e1];by_cases c3:k=off+j
   ·subst c3;rw [List.getElem?_append_left (by simp;omega),List.getElem?_append_right (by rw [List.length_take];omega),List.length_take,Nat.min_eq_left (by omega),Nat.sub_self,show off+j - off=j by omega]
    have:j < l.length:=by omega
    simp [List.getD_eq_getElem?_getD,this]
   ·have e2:(l.set j c).getD (k - off) te.dflt=l.getD (k - off) te.dflt:=by
     rw [List.getD_eq_getElem?_getD,List.getD_eq_getElem?_getD,List.getElem?_set_ne (by omega)]
    have h4:=h3 (k - off) (by omega)
    rw [List.getElem?_drop,show off+(k - off)=k by omega] at h4
    rw [e2,<- h4];by_cases c4:k < off+j
    ·rw [List.getElem?_append_left (by rw [List.length_append,List.length_take];omega),List.getElem?_append_left (by rw [List.length_take];omega),List.getElem?_take_of_lt c4]
    ·rw [List.getElem?_append_right (by simp;omega),List.getElem?_drop]
     congr 1
     simp;omega
  ·rw [List.getElem?_append_right (by rw [List.length_append,List.length_take,hv];omega),List.getElem?_append_right (by simp;omega),List.getElem?_drop,List.getElem?_drop]
   congr 1
   simp [hv];omega
theorem zsl (hT:TOK P TT) {t:Nat} {x y:Operand} (hd:o.dst=none) (ho:o.op = .store t x y) (h:ztq TT s t x y K=some q):EF P F s.st o (Post s K q):=by
 unfold ztq at h
 split at h
 ·rename_i id off n te j hx
  split at h
  ·rename_i T cs hid
   split at h
   ·rename_i e he;have hb:=(zab h).1;replace h:=(zab h).2;simp only [Bool.and_eq_true] at hb;obtain ⟨hs1,hag⟩:=hb
    split at h
    ·rename_i l hl
     split at h
     ·rename_i v hv
      split at h
      ·rename_i c hc;obtain ⟨hj,h⟩:=zbu h;obtain ⟨hte,rfl⟩:=zbt hT he;have hag':te.agg=false:=by simpa using hag
       have hsz:=Nat.eq_of_beq_eq_true hs1;have hle:off+n<=cs.length:=by
        obtain ⟨g1,g2,g3⟩:=zmi hl;rw [List.length_drop] at g2;omega
       have hy:=zan hv;rw [zdO hc] at hy;have hcells:zay (EV.d te c).av=[(EV.d te c).av]:=by
        show (encD te c).cells.map AV.d=_;rw [zeL hag'];rfl
       have hone:AV.one (EV.d te c).av=true:=by
        cases te with
        | unit=>cases hag'
        | pair _ _=>cases hag'
        | tree _=>exact zqq _ _
        | _=>rfl
       refine (EF.st_ptr (P:=P) (F:=F) (σ:=s.st) hd ho hte.ti (zan hx) (zaW hid) hy rfl (by rw [hcells];simp [hone]) (by rw [hcells,hsz];rfl) (by rw [zfQ,hsz];omega)).post fun x hx => ?_
       subst hx;refine ⟨_,?_,Sfx.put _ _ _,h⟩
       rw [zgO,zzA hl hj hle,hcells];rw [show [(EV.d te c).av]=EV.avL [.d te c] from rfl,<- ztY];rfl
      ·cases h
     ·cases h
    ·cases h
   ·cases h
  ·cases h
 ·cases h
theorem zuy (hT:TOK P TT) {t:Nat} {x y c:Operand} (hd:o.dst=none) (ho:o.op = .mapUpdate t x y c\/o.op = .insert t x y c) (h:zyI TT s t x y c K=some q):EF P F s.st o (Post s K q):=by
 unfold zyI at h
 split at h
 ·rename_i kt et hm
  split at h
  ·rename_i id hx
   split at h
   ·rename_i T k ks v vs he;have hk:=(zab h).1;replace h:=(zab h).2
    split at h
    ·rename_i yv cv hy hc
     split at h
     ·rename_i key el hkey hel;have SKk:=zw7 hT hk hm;have hy':=zan hy;rw [zdO hkey] at hy';have hc':=zan hc;rw [zdO hel] at hc';refine (EF.mapUpdate (P:=P) (F:=F) (σ:=s.st) (α:=k.den) (β:=v.den) (ks:=ks) (vs:=vs) (k:=key) (c:=el) hd ho (zrl hT hm) SKk (zan hx) (zaW he) hy' hc').post fun z hz => ?_
      subst hz;exact ⟨_,by rw [zgO];rfl,Sfx.put _ _ _,h⟩
     ·cases h
    ·cases h
   ·cases h
  ·cases h
 ·cases h
theorem zq5 (hT:TOK P TT) {t:Nat} {x y c:Operand} (hd:o.dst=none) (ho:o.op = .mapUpdate t x y c\/o.op = .insert t x y c) (h:zzX TT s t x y c K=some q):∃ s0,Wk s s0/\Sfx s s0/\EF P F s0.st o (Post s K q):=by
 unfold zzX at h
 split at h
 ·split at h
  ·rename_i v _ _;refine ⟨_,zi5 s c v,Sfx.dat s c v,fun a w r => ?_⟩
   exact Oper.wp_mono2 (fun a' w' ⟨g0,σ',⟨s',e1,e2,e3⟩,g3⟩=>⟨g0,σ',⟨s',e1,(Sfx.dat s c v).trans e2,e3⟩,g3⟩) (fun _ _ _ h=>h) (zuy hT hd ho h a w r)
  ·cases h
 ·cases h
theorem zux (hT:TOK P TT) {t d:Nat} {x y:Operand} (hd:o.dst=some d) (ho:o.op = .mapEntry t x y) (h:zyH TT s t x y d K=some q):EF P F s.st o (Post s K q):=by unfold zyH at h;obtain ⟨h1,h2⟩:=zab h;simp only [Bool.and_eq_true] at h1;have h3:=Nat.eq_of_beq_eq_true h1.1;have h4:=Nat.eq_of_beq_eq_true h1.2;omega
theorem zvJ {t:Nat} {x y c:Operand} (hd:o.dst=none) (ho:o.op = .entryStore t x y c) (h:zBC s x y c K=some q):∃ s0,Wk s s0/\Sfx s s0/\EF P F s0.st o (Post s K q):=by unfold zBC at h;obtain ⟨h1,h2⟩:=zab h;simp only [Bool.and_eq_true] at h1;have h3:=Nat.eq_of_beq_eq_true h1.1;have h4:=Nat.eq_of_beq_eq_true h1.2;omega
theorem zgg (hT:TOK P TT) (hG:GOK P Γ) (h:evE TT Γ s o K=some q):∃ s0,Wk s s0/\Sfx s s0/\EF P F s0.st o (Post s K q):=by
 unfold evE at h
 split at h
 ·rename_i t x y ho hd
  cases hb:zwJ s x with
  | true=>rw [hb] at h;exact ⟨s,Wk.refl _,Sfx.refl _,zsl hT hd ho h⟩
  | false=>rw [hb] at h;exact znS hT hd ho h
 ·rename_i t x y c ho hd;exact zq5 hT hd (.inl ho) h
 ·rename_i t x y c ho hd;exact zq5 hT hd (.inr ho) h
 ·rename_i t x y d ho hd;exact ⟨s,Wk.refl _,Sfx.refl _,zux hT hd ho h⟩
 ·rename_i t x y c ho hd;exact zvJ hd ho h
 ·rename_i c d ho hd
  split at h
  ·rename_i x y t t' h1 h2 h3;have hcall:o.op = .call { callee := .builtin .append,args:=#[x,y],argTypes:=#[t,t'] }:=by
    rw [ho];obtain ⟨cc,ca,ct⟩:=c;simp only at h1 h2 h3;subst h1;rw [show ca=#[x,y] from Array.ext' h2,show ct=#[t,t'] from Array.ext' h3]
   cases hb:Nat.beq t t' with
   | true=>
    rw [hb] at h;have:=Nat.eq_of_beq_eq_true hb;subst this;exact ⟨s,Wk.refl _,Sfx.refl _,zsh hT hd hcall h⟩
   | false=>
    rw [hb] at h;exact ⟨s,Wk.refl _,Sfx.refl _,zq3 hT hd hcall h⟩
  ·rename_i x y t t' h1 h2 h3;refine ⟨s,Wk.refl _,Sfx.refl _,zup hT hd (t':=t') ?_ h⟩
   rw [ho];obtain ⟨cc,ca,ct⟩:=c;simp only at h1 h2 h3;subst h1;rw [show ca=#[x,y] from Array.ext' h2,show ct=#[t,t'] from Array.ext' h3]
  ·rename_i f h1;refine ⟨s,Wk.refl _,Sfx.refl _,fun a w r=>Oper.wp_mono2 (fun a' w' hh=>⟨hh.1.1,hh.2⟩) (fun _ _ _ h=>h) (zpz hG hd (ts:=c.argTypes) (by rw [ho,<- h1]) h a w r)⟩
  ·cases h
 ·rename_i c ho hd
  split at h
  ·rename_i x t h1 h2 h3;refine ⟨s,Wk.refl _,Sfx.refl _,zte hT hd (x:=x) (t:=t) ?_ h⟩
   rw [ho];obtain ⟨cc,ca,ct⟩:=c;simp only at h1 h2 h3;subst h1;rw [show ca=#[x] from Array.ext' h2,show ct=#[t] from Array.ext' h3]
  ·cases h
 ·obtain ⟨s0,h1,h2,h3⟩:=zun hT hG h;exact ⟨s0,h1,h2,h3.ef⟩
end
end
end Go.Ab
