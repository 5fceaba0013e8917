import Derived.Test.YtiegbkgnhjncdaaEv40n13
import Derived.Test.YtiegbkgnhjncdaaEv40n22
import Derived.Test.YtiegbkgnhjncdaaEv40n26
set_option linter.unusedVariables false
set_option linter.unusedSimpArgs false
set_option linter.unusedSectionVars false
namespace Go.Ab
noncomputable section
open Enc (enc)
variable {R:Type}
def room {α:Type} (xs ys:List α) (b:Nat):Prop:=(xs.length+ys.length) * b<=140737488355328
instance {α:Type} (xs ys:List α) (b:Nat):Decidable (room xs ys b):=inferInstanceAs (Decidable (_<=_))
def mkOK (m c:Int) (b:Nat):Prop:=0<=m/\m<=c/\c * b<=140737488355328
instance (m c:Int) (b:Nat):Decidable (mkOK m c b):=inferInstanceAs (Decidable (_/\_))
def zeE (TT:List TE) (a:Nat->Option Nat):ESt->List (Nat×Operand)->ESt
 | s,[]=>s
 | s,(i,x)::r=>match a i with
  | some f=>match tyT TT f with
   | some t=>zeE TT a (s.dat x t) r
   | none=>zeE TT a s r
  | none=>zeE TT a s r
theorem zhv (TT:List TE) (a:Nat->Option Nat):∀ (l:List (Nat×Operand)) (s:ESt),Wk s (zeE TT a s l)/\Sfx s (zeE TT a s l)
 | [],s=>⟨Wk.refl s,Sfx.refl s⟩
 | (i,x)::r,s=>by
  simp only [zeE];split
  ·split
   ·rename_i t _;obtain ⟨b,c⟩:=zhv TT a r (s.dat x t);exact ⟨(zji s x t).trans b,(Sfx.dat s x t).trans c⟩
   ·exact zhv TT a r s
  ·exact zhv TT a r s
theorem zj4 (x:EV):∀ (ks:List Nat) (s:ESt),(s.setAll ks x).nxt=s.nxt
 | [],_=>rfl
 | k::ks,s=>zj4 x ks (s.set k x)
theorem ziD (a:Ty) (l:List a.den):∀ (ks:List Nat) (s:ESt),(ESt.setViews a l ks s).nxt=s.nxt
 | [],s=>rfl
 | k::ks,s=>by
  simp only [ESt.setViews];split
  ·cases Ty.beq _ a with
   | true=>exact ziD a l ks _
   | false=>exact ziD a l ks s
  ·exact ziD a l ks s
theorem zox (s:ESt) (id:Nat) (a:Ty) (l:List a.den):(s.freezeArr id a l).nxt=s.nxt:=by
 unfold ESt.freezeArr;rw [ziD,zj4];rfl
theorem zyr {s a:ESt} {k:Nat} {t:Ty} (h:s.datify k t=some a):a.nxt=s.nxt:=by
 unfold ESt.datify at h;split at h
 ·split at h
  ·obtain ⟨_,h⟩:=zac h;cases h;exact zox _ _ _ _
  ·split at h
   ·obtain ⟨_,h⟩:=zac h;cases h;rw [zj4];rfl
   ·cases h
  ·cases h
 ·split at h
  ·obtain ⟨_,h⟩:=zac h;cases h;exact zox _ _ _ _
  ·cases h
 ·obtain ⟨_,h⟩:=zac h;cases h;rfl
 ·split at h
  ·cases h;rfl
  ·cases h
 ·cases h
theorem zxy (s:ESt) (x:Operand) (t:Ty):(s.dat0 x t).nxt=s.nxt:=by
 unfold ESt.dat0;split
 ·split
  ·rename_i h;exact zyr h
  ·rfl
 ·rfl
theorem zwx (s:ESt) (id j:Nat):(s.boxDat1 id j).nxt=s.nxt:=by
 unfold ESt.boxDat1;split
 ·split
  ·split
   ·cases Nat.beq _ id<;>rfl
   ·split
    ·cases (!(Nat.beq _ id) && _ && _ && _)<;>rfl
    ·rfl
   ·rfl
  ·rfl
 ·rfl
theorem ztk (id:Nat):∀ (n:Nat) (s:ESt) (k:Nat),(s.boxDat id k n).nxt=s.nxt
 | 0,s,_=>rfl
 | n+1,s,k=>(ztk id n _ (k+1)).trans (zwx s id k)
theorem zwa (s:ESt) (id:Nat) (u:Ty):(s.treeify2 id u).nxt=s.nxt:=by
 unfold ESt.treeify2;split
 ·split
  ·cases u.chain with
   | false=>rfl
   | true=>simp only [cond_true];rw [zj4,zj4];rfl
  ·rfl
 ·rfl
theorem zxp (s:ESt) (k:Nat) (u:Ty):(s.treeify k u).nxt=s.nxt:=by
 unfold ESt.treeify;split
 ·split
  ·rw [zwa,ztk]
  ·rfl
 ·rfl
theorem zCR (s:ESt) (x:Operand) (t:Ty):(s.dat x t).nxt=s.nxt:=by
 unfold ESt.dat;split
 ·rw [zxy,zxp]
 ·exact zxy s x t
theorem zio (TT:List TE) (a:Nat->Option Nat):∀ (l:List (Nat×Operand)) (s:ESt),(zeE TT a s l).nxt=s.nxt
 | [],_=>rfl
 | (i,x)::r,s=>by
  simp only [zeE];split
  ·split
   ·rw [zio TT a r,zCR]
   ·exact zio TT a r s
  ·exact zio TT a r s
theorem zAi (k:Int) (b:Nat) (c:0 < b) (h:k * b<=140737488355328):k<=9223372036854775807:=by
 by_cases a:0<=k
 ·have:k * 1<=k * (b:Int):=Int.mul_le_mul_of_nonneg_left (by omega) a;omega
 ·omega
def zpA (s:ESt) (g:Nat) (vals:List EV) (d:Nat) (pure:Bool) (K:ESt->Option R):List CE->Option R
 | []=>none
 | c::r=>bif Nat.beq c.f g && (!pure || c.sig.ents.isEmpty) then (match zor s c vals d K with
  | some x=>x
  | none=>zpA s g vals d pure K r) else zpA s g vals d pure K r
theorem zlE {s:ESt} {g:Nat} {vals:List EV} {d:Nat} {pure:Bool} {K:ESt->Option R} {q:R}:∀ {Γ:List CE},zpA s g vals d pure K Γ=some q->∃ c∈Γ,c.f=g/\(pure=true->c.sig.ents=[])/\zor s c vals d K=some (some q)
 | [],h=>by cases h
 | c::r,h=>by
  simp only [zpA] at h;cases a:(Nat.beq c.f g && (!pure || c.sig.ents.isEmpty)) with
  | true=>
   rw [a] at h;simp only [cond_true] at h;split at h
   ·rename_i x j;subst h;simp only [Bool.and_eq_true] at a;refine ⟨c,by simp,Nat.eq_of_beq_eq_true a.1,fun i => ?_,j⟩;have:=a.2;rw [i] at this;simpa using this
   ·obtain ⟨b,e,f⟩:=zlE h;exact ⟨b,by simp [e],f⟩
  | false=>
   rw [a] at h;obtain ⟨b,e,f⟩:=zlE (show zpA s g vals d pure K r=some q from h);exact ⟨b,by simp [e],f⟩
def zhA (Γ:List CE) (s:ESt) (f:Operand) (args:Array Operand) (d:Nat) (pure:Bool) (K:ESt->Option R):Option R:=
 match s.ev f with
 | some (.fn g caps)=>match zrV s args.toList with
  | some vals=>bif Nat.blt d s.n then grd (zvW s (vals++caps)) (zpA s g (vals++caps) d pure K Γ) else none
  | none=>none
 | _=>none
def zfJ:ESt->List Operand->ESt
 | s,[]=>s
 | s,x::r=>match s.ev x with
  | some (.own id)=>match s.ent id with
   | some (.arr _ t _)=>zfJ (s.dat x (.list t)) r
   | some (.out f _)=>match look s.rws f with
    | some (some q)=>zfJ (s.dat x (.list (.list q.t))) r
    | _=>zfJ s r
   | _=>zfJ s r
  | _=>zfJ s r
theorem zjh:∀ (l:List Operand) (s:ESt),Wk s (zfJ s l)/\Sfx s (zfJ s l)
 | [],s=>⟨Wk.refl s,Sfx.refl s⟩
 | x::r,s=>by
  simp only [zfJ];split
  ·split
   ·rename_i t _ _;obtain ⟨a,b⟩:=zjh r (s.dat x (.list t));exact ⟨(zji s x _).trans a,(Sfx.dat s x _).trans b⟩
   ·split
    ·rename_i q _;obtain ⟨a,b⟩:=zjh r (s.dat x (.list (.list q.t)));exact ⟨(zji s x _).trans a,(Sfx.dat s x _).trans b⟩
    ·exact zjh r s
   ·exact zjh r s
  ·exact zjh r s
def fitC (Γ:List CE) (s:ESt) (f:Operand) (args:Array Operand) (d:Nat) (pure:Bool):Bool:=match s.ev f with
 | some (.fn g caps)=>match zrV s args.toList with
  | some vals=>Γ.any fun c=>Nat.beq c.f g && (!pure || c.sig.ents.isEmpty) && (match zor (R:=Unit) s c (vals++caps) d (fun _=>none) with
   | some _=>true
   | none=>false)
  | none=>false
 | _=>false
def zgS (TT:List TE):ESt->List EV->ESt
 | s,[]=>s
 | s,.ptr id _::r=>match s.ent id with
  | some (.box _ cs)=>zgS TT ((s.boxDat id 0 cs.length).freeze1 TT id) r
  | _=>zgS TT s r
 | s,_::r=>zgS TT s r
theorem zhn (TT:List TE):∀ (l:List EV) (s:ESt),Wk s (zgS TT s l)/\Sfx s (zgS TT s l)
 | [],s=>⟨Wk.refl s,Sfx.refl s⟩
 | y::r,s=>by
  cases y with
  | ptr id o=>
   simp only [zgS];split
   ·rename_i cs _;obtain ⟨a,b⟩:=zts TT (s.boxDat id 0 cs.length) id;obtain ⟨c,d⟩:=zhn TT r ((s.boxDat id 0 cs.length).freeze1 TT id);exact ⟨((zi9 id cs.length s 0).trans a).trans c,((Sfx.boxDat id cs.length s 0).trans b).trans d⟩
   ·exact zhn TT r s
  | _=>
   simp only [zgS];exact zhn TT r s
def zjg (TT:List TE):ESt->List Operand->ESt
 | s,[]=>s
 | s,x::r=>match s.ev x with
  | some (.fn _ c)=>zjg TT (zgS TT s c) r
  | _=>zjg TT s r
theorem zoj (TT:List TE):∀ (l:List Operand) (s:ESt),Wk s (zjg TT s l)/\Sfx s (zjg TT s l)
 | [],s=>⟨Wk.refl s,Sfx.refl s⟩
 | x::r,s=>by
  simp only [zjg];split
  ·rename_i c _;obtain ⟨a,b⟩:=zhn TT c s;obtain ⟨d,e⟩:=zoj TT r (zgS TT s c);exact ⟨a.trans d,b.trans e⟩
  ·exact zoj TT r s
def zuu (a:List (Nat×SV)):Nat->List EV->List EV
 | _,[]=>[]
 | k,x::r=>match look a k with
  | some (.addr _)=>x::zuu a (k+1) r
  | _=>zuu a (k+1) r
def zt0 (TT:List TE) (Γ:List CE) (s:ESt) (f:Operand) (n:Nat):ESt:=match s.ev f with
 | some (.fn g caps)=>match Γ.find? (fun c=>Nat.beq c.f g) with
  | some c=>zgS TT s (zuu c.sig.slots n caps)
  | none=>s
 | _=>s
theorem zyq (TT:List TE) (Γ:List CE) (s:ESt) (f:Operand) (n:Nat):Wk s (zt0 TT Γ s f n)/\Sfx s (zt0 TT Γ s f n):=by
 unfold zt0;split
 ·split
  ·exact zhn TT _ s
  ·exact ⟨Wk.refl s,Sfx.refl s⟩
 ·exact ⟨Wk.refl s,Sfx.refl s⟩
def ESt.cellDat (s:ESt) (id j:Nat):ESt:=match s.ent id with
 | some (.box _ cs)=>match cs[j]? with
  | some (.own id2)=>match s.ent id2 with
   | some (.out _ _)=>s.boxDat1 id j
   | _=>s
  | _=>s
 | _=>s
theorem zyn (s:ESt) (id j:Nat):Wk s (s.cellDat id j)/\Sfx s (s.cellDat id j):=by
 unfold ESt.cellDat;split
 ·split
  ·split
   ·exact ⟨zpn _ _ _,Sfx.boxDat1 _ _ _⟩
   ·exact ⟨Wk.refl _,Sfx.refl _⟩
  ·exact ⟨Wk.refl _,Sfx.refl _⟩
 ·exact ⟨Wk.refl _,Sfx.refl _⟩
def ESt.cellsDat (id:Nat):Nat->ESt->ESt
 | 0,s=>s
 | j+1,s=>(ESt.cellsDat id j s).cellDat id j
theorem zrF (id:Nat):∀ (j:Nat) (s:ESt),Wk s (ESt.cellsDat id j s)/\Sfx s (ESt.cellsDat id j s)
 | 0,s=>⟨Wk.refl s,Sfx.refl s⟩
 | j+1,s=>by
  obtain ⟨a,b⟩:=zrF id j s;obtain ⟨c,d⟩:=zyn (ESt.cellsDat id j s) id j;exact ⟨a.trans c,b.trans d⟩
def zrB (s:ESt) (id:Nat):ESt:=match s.ent id with
 | some (.box _ cs)=>ESt.cellsDat id cs.length s
 | _=>s
theorem zyl (s:ESt) (id:Nat):Wk s (zrB s id)/\Sfx s (zrB s id):=by
 unfold zrB;split
 ·exact zrF _ _ _
 ·exact ⟨Wk.refl _,Sfx.refl _⟩
def zpq:ESt->List Operand->ESt
 | s,[]=>s
 | s,x::r=>match s.ev x with
  | some (.view _ t _ _)=>zpq (s.dat x (.list t)) r
  | some (.ptr id _)=>zpq (zrB s id) r
  | _=>zpq s r
theorem zri:∀ (l:List Operand) (s:ESt),Wk s (zpq s l)/\Sfx s (zpq s l)
 | [],s=>⟨Wk.refl s,Sfx.refl s⟩
 | x::r,s=>by
  simp only [zpq];split
  ·rename_i t _ _ _;obtain ⟨a,b⟩:=zri r (s.dat x (.list t));exact ⟨(zji s x _).trans a,(Sfx.dat s x _).trans b⟩
  ·rename_i id _ _;obtain ⟨d,c⟩:=zyl s id;obtain ⟨a,b⟩:=zri r (zrB s id);exact ⟨d.trans a,c.trans b⟩
  ·exact zri r s
def ESt.datV (s:ESt) (TT:List TE) (x:Operand) (T:Nat):ESt:=match s.ev x with
 | some (.view _ _ _ _)=>match tyT TT T with
  | some t=>s.dat x t
  | none=>s
 | _=>s
theorem zzu (s:ESt) (TT:List TE) (x:Operand) (T:Nat):Wk s (s.datV TT x T)/\Sfx s (s.datV TT x T):=by
 unfold ESt.datV;split
 ·split
  ·exact ⟨zji _ _ _,Sfx.dat _ _ _⟩
  ·exact ⟨Wk.refl _,Sfx.refl _⟩
 ·exact ⟨Wk.refl _,Sfx.refl _⟩
def zz8:List SV->List EV->List EV
 | .addr _::r,x::l=>x::zz8 r l
 | _::r,_::l=>zz8 r l
 | _,_=>[]
def zxR (s:ESt) (a:List (Nat×SE)):List SV->List EV->List EV
 | .addr _::r,x::l=>x::zxR s a r l
 | .ptr i _::r,.ptr id _::l=>(match look a i,s.ent id with
  | some (.box _ svs),some (.box _ cs)=>zz8 svs cs
  | _,_=>[])++zxR s a r l
 | _::r,_::l=>zxR s a r l
 | _,_=>[]
def zvD (s:ESt) (sh:Shape):Nat->List EV->List EV
 | _,[]=>[]
 | k,.fn _ caps::r=>(match look sh.slots k with
  | some (.fn _ svs)=>zxR s sh.ents svs caps
  | _=>[])++zvD s sh (k+1) r
 | k,_::r=>zvD s sh (k+1) r
def zrh (TT:List TE) (Γ:List CE) (s:ESt) (f:Operand) (args:Array Operand) (d:Nat) (pure:Bool):Option ESt:=match s.ev f with
 | some (.fn g _)=>match zrV s args.toList with
  | some vals=>match Γ.find? (fun c=>Nat.beq c.f g && !(zvD s c.sig 0 vals).isEmpty && fitC Γ (zgS TT s (zvD s c.sig 0 vals)) f args d pure) with
   | some c=>some (zgS TT s (zvD s c.sig 0 vals))
   | none=>none
  | none=>none
 | _=>none
theorem zrQ {TT:List TE} {Γ:List CE} {s a:ESt} {f:Operand} {args:Array Operand} {d:Nat} {pure:Bool} (h:zrh TT Γ s f args d pure=some a):Wk s a/\Sfx s a:=by
 unfold zrh at h;split at h
 ·split at h
  ·split at h
   ·cases h;exact zhn TT _ s
   ·cases h
  ·cases h
 ·cases h
def zt4 (TT:List TE) (Γ:List CE) (s:ESt) (f:Operand) (args:Array Operand) (d:Nat) (pure:Bool) (K:ESt->Option R):Option R:=
 bif fitC Γ s f args d pure then zhA Γ s f args d pure K else
  match zrh TT Γ s f args d pure,zrh TT Γ (zfJ s args.toList) f args d pure with
  | some s1,_=>zhA Γ s1 f args d pure K
  | none,some s1=>zhA Γ s1 f args d pure K
  | none,none=>
  bif fitC Γ (zjg TT s args.toList) f args d pure then zhA Γ (zjg TT s args.toList) f args d pure K else
  bif fitC Γ (zfJ s args.toList) f args d pure then zhA Γ (zfJ s args.toList) f args d pure K else
   bif fitC Γ (zjg TT (zfJ s args.toList) args.toList) f args d pure then zhA Γ (zjg TT (zfJ s args.toList) args.toList) f args d pure K else
    zhA Γ (zt0 TT Γ (zjg TT (zfJ s args.toList) args.toList) f args.size) f args d pure K
def ESt.nil1 (s:ESt) (id j E:Nat) (t:Ty):ESt:=match s.ent id with
 | some (.box T cs)=>match cs[j]? with
  | some .nil=>bif Nat.blt s.nxt LIM && Nat.blt 0 t.sz then (s.new (.arr E t ([]:List t.den))).put id (some (.box T (cs.set j (.own s.nxt)))) else s
  | _=>s
 | _=>s
theorem zux (s:ESt) (id j E:Nat) (t:Ty):Wk s (s.nil1 id j E t)/\Sfx s (s.nil1 id j E t):=by
 unfold ESt.nil1;split
 ·rename_i T cs e;split
  ·rename_i f;have b:(EV.avL cs)[j]? =some .nil:=by rw [zfd,List.getElem?_map,f];rfl
   cases c:Nat.blt s.nxt LIM && Nat.blt 0 t.sz with
   | false=>exact ⟨Wk.refl _,Sfx.refl _⟩
   | true=>
    simp only [Bool.and_eq_true] at c;refine ⟨⟨fun F a w ⟨H,r⟩=>⟨H.add s.nxt (.slice none 0 0),?_⟩,fun k t x d=>d⟩,(Sfx.new _ _).trans (Sfx.put _ _ _)⟩;have:=r.nilcell (E:=E) (bts:=t.bts) (by have:=c.1;show s.nxt < LIM;simpa using this) (show 0 < t.sz by simpa using c.2) (zaN e) b;rw [cond_true,zgB,zjJ];simp only [Option.map,EEnt.ent,znE];exact this
  ·exact ⟨Wk.refl _,Sfx.refl _⟩
 ·exact ⟨Wk.refl _,Sfx.refl _⟩
def zCU (TT:List TE) (t:Nat):Option (Nat×Ty):=match zdd TT t with
 | some e=>match tyT TT e with
  | some a=>some (e,a)
  | none=>none
 | none=>none
def zEa (TT:List TE) (T j:Nat):Option (Nat×Ty):=match fT TT T with
 | some ⟨_,.struct fs _,_,_,_,_,_⟩=>match fs.find? (fun p=>Nat.beq p.1 j) with
  | some (_,ft)=>zCU TT ft
  | none=>none
 | some ⟨_,.slice _,_,_,_,_,_⟩=>bif Nat.beq j 0 then zCU TT T else none
 | _=>none
def ESt.nilB (TT:List TE) (id T:Nat):Nat->ESt->ESt
 | 0,s=>s
 | j+1,s=>match zEa TT T j with
  | some (E,t)=>(ESt.nilB TT id T j s).nil1 id j E t
  | none=>ESt.nilB TT id T j s
theorem zw3 (TT:List TE) (id T:Nat):∀ (j:Nat) (s:ESt),Wk s (ESt.nilB TT id T j s)/\Sfx s (ESt.nilB TT id T j s)
 | 0,s=>⟨Wk.refl _,Sfx.refl _⟩
 | j+1,s=>by
  obtain ⟨a,b⟩:=zw3 TT id T j s;simp only [ESt.nilB];split
  ·rename_i E t _;obtain ⟨c,d⟩:=zux (ESt.nilB TT id T j s) id j E t;exact ⟨a.trans c,b.trans d⟩
  ·exact ⟨a,b⟩
def zAj (TT:List TE) (s:ESt) (x:EV):ESt:=match x with
 | .ptr id _=>match s.ent id with
  | some (.box T cs)=>ESt.nilB TT id T cs.length s
  | _=>s
 | _=>s
theorem zBF (TT:List TE) (s:ESt) (x:EV):Wk s (zAj TT s x)/\Sfx s (zAj TT s x):=by
 unfold zAj;split
 ·split
  ·exact zw3 TT _ _ _ s
  ·exact ⟨Wk.refl _,Sfx.refl _⟩
 ·exact ⟨Wk.refl _,Sfx.refl _⟩
def zxY (TT:List TE):ESt->List EV->ESt
 | s,[]=>s
 | s,x::r=>zxY TT (zAj TT s x) r
theorem zvJ (TT:List TE):∀ (l:List EV) (s:ESt),Wk s (zxY TT s l)/\Sfx s (zxY TT s l)
 | [],s=>⟨Wk.refl _,Sfx.refl _⟩
 | x::r,s=>by
  obtain ⟨a,b⟩:=zBF TT s x;obtain ⟨c,d⟩:=zvJ TT r (zAj TT s x);exact ⟨a.trans c,b.trans d⟩
def nilP (TT:List TE) (s:ESt) (x:EV):ESt:=match x with
 | .ptr id _=>match s.ent id with
  | some (.box T cs)=>zxY TT (ESt.nilB TT id T cs.length s) cs
  | _=>s
 | _=>s
theorem zAk (TT:List TE) (s:ESt) (x:EV):Wk s (nilP TT s x)/\Sfx s (nilP TT s x):=by
 unfold nilP;split
 ·split
  ·rename_i T cs _;obtain ⟨a,b⟩:=zw3 TT _ T cs.length s;obtain ⟨c,d⟩:=zvJ TT cs _;exact ⟨a.trans c,b.trans d⟩
  ·exact ⟨Wk.refl _,Sfx.refl _⟩
 ·exact ⟨Wk.refl _,Sfx.refl _⟩
def zyI (TT:List TE):ESt->List EV->ESt
 | s,[]=>s
 | s,x::r=>zyI TT (nilP TT s x) r
theorem zuy (TT:List TE):∀ (l:List EV) (s:ESt),Wk s (zyI TT s l)/\Sfx s (zyI TT s l)
 | [],s=>⟨Wk.refl _,Sfx.refl _⟩
 | x::r,s=>by
  obtain ⟨a,b⟩:=zAk TT s x;obtain ⟨c,d⟩:=zuy TT r (nilP TT s x);exact ⟨a.trans c,b.trans d⟩
def zlV (TT:List TE):ESt->List EV->ESt
 | s,[]=>s
 | s,.fn _ c::r=>zlV TT (zyI TT s c) r
 | s,x::r=>zlV TT (nilP TT s x) r
theorem zpJ (TT:List TE):∀ (l:List EV) (s:ESt),Wk s (zlV TT s l)/\Sfx s (zlV TT s l)
 | [],s=>⟨Wk.refl _,Sfx.refl _⟩
 | x::r,s=>by
  by_cases h:∃ f c,x = .fn f c
  ·obtain ⟨f,c,rfl⟩:=h;simp only [zlV];obtain ⟨a,b⟩:=zuy TT c s;obtain ⟨d,g⟩:=zpJ TT r (zyI TT s c);exact ⟨a.trans d,b.trans g⟩
  ·have e:zlV TT s (x::r)=zlV TT (nilP TT s x) r:=by
    cases x<;>first | rfl | exact absurd ⟨_,_,rfl⟩ h
   rw [e];obtain ⟨a,b⟩:=zAk TT s x;obtain ⟨d,g⟩:=zpJ TT r (nilP TT s x);exact ⟨a.trans d,b.trans g⟩
def ztq (TT:List TE) (s:ESt) (f:Operand) (args:List Operand):ESt:=match s.ev f with
 | some (.fn g caps)=>match zrV s args with
  | some vals=>zlV TT s (vals++[.fn g caps])
  | none=>s
 | _=>s
theorem zzO (TT:List TE) (s:ESt) (f:Operand) (args:List Operand):Wk s (ztq TT s f args)/\Sfx s (ztq TT s f args):=by
 unfold ztq;split
 ·split
  ·exact zpJ TT _ s
  ·exact ⟨Wk.refl _,Sfx.refl _⟩
 ·exact ⟨Wk.refl _,Sfx.refl _⟩
def zxA (TT:List TE) (Γ:List CE) (s:ESt) (f:Operand) (args:Array Operand) (d:Nat) (pure:Bool) (K:ESt->Option R):Option R:=
 bif !(fitC Γ (zpq s args.toList) f args d pure) && fitC Γ (ztq TT (zpq s args.toList) f args.toList) f args d pure then
  zhA Γ (ztq TT (zpq s args.toList) f args.toList) f args d pure K else zt4 TT Γ (zpq s args.toList) f args d pure K
def zuG (TT:List TE):List (Nat×Nat)->Option (List (Nat×Nat))
 | []=>some []
 | (off,ft)::r=>match fT TT ft with
  | some e=>match zuG TT r with
   | some l=>some ((off,e.size)::l)
   | none=>none
  | none=>none
theorem zqx {P:Program} {TT:List TE} (a:TOK P TT):∀ {fa:List Field} {ps:List (Nat×Nat)},zuG TT (fa.map fun f=>(f.offset,f.type))=some ps->fa.mapM (fun f=>(P.info? f.type).map fun i=>(f.offset,i.size))=some ps
 | [],ps,h=>by cases h;rfl
 | f::fa,ps,h=>by
  simp only [List.map_cons,zuG] at h;split at h
  ·rename_i e c;split at h
   ·rename_i l d;cases h;obtain ⟨g,j⟩:=zbt a c;obtain ⟨i,b,k,_⟩:=g.ti.inf;rw [j] at b;rw [List.mapM_cons,b,zqx a d,<- k];rfl
   ·cases h
  ·cases h
def EV.isNil:EV->Bool
 | .nil=>true
 | _=>false
def zBH (u:Option Ty) (cs:List EV) (K:EV->Option R):Option R:=bif cs.any EV.isNil then K (.agg cs) else match u with
 | some u=>match zpK u cs with
  | some (y,[])=>bif u.agg then K (.d u y) else none
  | _=>K (.agg cs)
 | none=>K (.agg cs)
theorem ztC {u:Option Ty} {cs:List EV} {K:EV->Option R} {q:R} (h:zBH u cs K=some q):∃ x,Conv (.agg (EV.avL cs)) x.av/\K x=some q:=by
 unfold zBH at h;cases a:cs.any EV.isNil
 case true=>rw [a] at h;exact ⟨_,Conv.refl _,h⟩
 rw [a] at h;simp only [cond_false] at h;split at h
 ·rename_i u;split at h
  ·rename_i y c;have e:=(zac h).1;replace h:=(zac h).2;obtain ⟨g,b,f⟩:=ze3 c;rw [List.append_nil] at b;subst b;refine ⟨_,?_,h⟩;intro w S H v d;show VRel w S H (.d (encD u y)) v;rw [zdg e];exact VRel.packn d f
  ·exact ⟨_,Conv.refl _,h⟩
 ·exact ⟨_,Conv.refl _,h⟩
def zt3 (TT:List TE) (s:ESt) (t:Nat) (b:List (Nat×Operand)) (K:EV->Option R):Option R:=match fT TT t with
 | some e=>match zrk s b with
  | some xs=>match e.z with
   | .agg c=>match e.td with
    | .struct d _=>match zuG TT d with
     | some a=>match zyx (fun i=>a[i]?) (c.toList.map EV.con) xs with
      | some cs=>zBH e.ty cs K
      | none=>none
     | none=>none
    | .array _ f=>match fT TT f with
     | some E=>match zyx (fun i=>some (i * E.size,E.size)) (c.toList.map EV.con) xs with
      | some cs=>zBH e.ty cs K
      | none=>none
     | none=>none
    | _=>none
   | _=>none
  | none=>none
 | none=>none
theorem zzr (a:Array Value):EV.avL (a.toList.map EV.con)=a.toList.map avc:=by
 rw [zfd,List.map_map];exact List.map_congr_left fun v _=>zzq v
section
variable {P:Program} {TT:List TE} {F:Fr} {s:ESt} {o:Oper} {q:R}
theorem zop (l:TOK P TT) {K:EV->Option R} {t:Nat} {b:Array (Nat×Operand)} (v:o.op = .build t b) (h:zt3 TT s t b.toList K=some q):∃ z,RO P F s.st o z.av/\K z=some q:=by
 unfold zt3 at h;split at h
 ·rename_i e y;split at h
  ·rename_i xs i;split at h
   ·rename_i D A;obtain ⟨g,rfl⟩:=zbt l y;have f:=g.ti;rw [A] at f;split at h
    ·rename_i H _ c;split at h
     ·rename_i k w;split at h
      ·rename_i cs d;obtain ⟨x,m,p⟩:=ztC h;have a:=g.td;rw [c] at a;obtain ⟨⟨J,C,r⟩,_⟩:=a;rw [<- r] at w;refine ⟨x,RO.conv ?_ m,p⟩;have j:=zum d;rw [zzr] at j;exact RO.build v C f (zqx l w) (zkp i) j
      ·cases h
     ·cases h
    ·rename_i n I c;split at h
     ·rename_i E B;split at h
      ·rename_i cs d;obtain ⟨x,m,p⟩:=ztC h;have a:=g.td;rw [c] at a;obtain ⟨u,rfl⟩:=zbt l B;refine ⟨x,RO.conv ?_ m,p⟩;have j:=zum d;rw [zzr] at j;exact RO.buildA v a f u.ti (zkp i) j
      ·cases h
     ·cases h
    ·cases h
   ·cases h
  ·cases h
 ·cases h
end
theorem AL.ro {P:Program} {F:Fr} {σ:St} {o:Oper} {d:Nat} {x:AV} (e:o.dst=some d) (c:Nat.blt d σ.n=true) (h:RO P F σ o x):AL P F σ o (·=σ.set d x):=by
 intro a w ⟨H,r⟩;obtain ⟨v,f,g⟩:=h H a w r;have b:d < σ.n:=by simpa using c
 have r':=r.set b g;rw [<- e] at r';exact zpj f ⟨⟨v,rfl⟩,Ext.refl w,_,rfl,H,r'⟩
def evA (TT:List TE) (Γ:List CE) (s:ESt) (o:Oper) (K:ESt->Option R):Option R:=match o.dst with
 | none=>none
 | some d=>bif Nat.blt s.nxt LIM && Nat.blt d s.n then (match o.op with
  | .box T x=>match (frzV TT s (s.ev x)).ev x with
   | some v=>match v.cellsOf with
    | some cs=>K (((frzV TT s (s.ev x)).new (.box T cs)).set d (.ptr s.nxt 0))
    | none=>none
   | none=>none
  | .alloc T=>match fT TT T with
   | some e=>match (EV.con e.z).cellsOf with
    | some cs=>K ((s.new (.box T cs)).set d (.ptr s.nxt 0))
    | none=>none
   | none=>none
  | .buildSlice t n a=>match zdd TT t with
   | some e=>match tyT TT e with
    | some b=>match zuc (zeE TT (fun _=>some e) s a.toList) b a.toList 0 with
     | some ys=>bif Nat.blt 0 b.sz && Nat.beq n a.toList.length && Nat.ble (n * b.bts) most && Nat.ble (n * b.sz) 16777216 then
       K (((zeE TT (fun _=>some e) s a.toList).new (.arr e b ys)).set d (.own s.nxt)) else none
     | none=>none
    | none=>none
   | none=>none
  | .makeSlice t l c=>match zdd TT t with
   | some e=>match tyT TT e with
    | some b=>match s.ev l,s.ev c with
     | some (.d (.int .i64) m),some (.d (.int .i64) k)=>bif Nat.blt 0 b.sz && Nat.blt 0 b.bts then
       G (mkOK m k b.bts) (K ((s.new (.arr e b (List.replicate m.toNat b.dflt))).set d (.own s.nxt))) else none
     | _,_=>none
    | none=>none
   | none=>none
  | .call c=>match c.callee with
   | .value f=>zxA TT Γ s f c.args d true K
   | _=>none
  | .slice t x none (some y) none=>match zdd TT t with
   | some e=>match tyT TT e with
    | some b=>match s.ev x,s.ev y with
     | some (.own k),some (.d (.int .i64) j)=>match s.ent k with
      | some (.arr E te' l)=>bif Ty.beq te' b then G (0<=j/\j<=(l.length:Int)) (K (((s.put k none).new (.arr E te' (l.take j.toNat))).set d (.own s.nxt))) else none
      | _=>none
     | _,_=>none
    | none=>none
   | none=>none
  | .slice t x (some y) none none=>match zdd TT t with
   | some e=>match tyT TT e with
    | some b=>match s.ev x,s.ev y with
     | some (.own k),some (.d (.int .i64) j)=>match s.ent k with
      | some (.arr E te' l)=>bif Ty.beq te' b then G (0<=j/\j<=(l.length:Int)) (K (((s.put k none).new (.arr E te' (l.drop j.toNat))).set d (.own s.nxt))) else none
      | _=>none
     | _,_=>none
    | none=>none
   | none=>none
  | .build t a=>zt3 TT s t a.toList fun x=>K (s.set d x)
  | .load t x=>match fT TT t with
   | some e=>match s.ev x with
    | some (.ptr id k)=>match s.ent id with
     | some (.box _ cs)=>bif e.ag && Nat.ble (k+e.size) cs.length then K (s.set d (.agg ((cs.drop k).take e.size))) else none
     | _=>none
    | _=>none
   | none=>none
  | .makeMap t none=>match mapT TT t with
   | some (kt,et)=>match tyT TT kt,tyT TT et with
    | some k,some v=>K ((s.new (.box t [.d (.list k) ([]:List k.den),.d (.list v) ([]:List v.den)])).set d (.own s.nxt))
    | _,_=>none
   | none=>none
  | _=>none) else none
def zzN (TT:List TE) (s:ESt) (t:Nat) (x y c:Operand) (K:ESt->Option R):Option R:=match mapT TT t with
 | some _=>match s.ev x with
  | some (.own id)=>match s.ent id with
   | some (.box T [.d (.list k) ks,.d (.list v) vs])=>bif skT TT t k then (match s.ev y,s.ev c with
    | some yv,some cv=>match yv.exact k,cv.exact v with
     | some key,some el=>K (s.put id (some (.box T [.d (.list k) (zlQ ks key),.d (.list v) (zlR ks vs key el)])))
     | _,_=>none
    | _,_=>none) else none
   | _=>none
  | _=>none
 | none=>none
def zBa (TT:List TE) (s:ESt) (t:Nat) (x y c:Operand) (K:ESt->Option R):Option R:=match s.ev x with
 | some (.own id)=>match s.ent id with
  | some (.box _ [.d _ _,.d (.list v) _])=>zzN TT (s.dat c v) t x y c K
  | _=>none
 | _=>none
def zzM (TT:List TE) (s:ESt) (t:Nat) (x y:Operand) (d:Nat) (K:ESt->Option R):Option R:=bif Nat.beq s.n 0 && Nat.beq s.n 1 then K s else none
def zCX (s:ESt) (x y c:Operand) (K:ESt->Option R):Option R:=bif Nat.beq s.n 0 && Nat.beq s.n 1 then K s else none
def zEg (s:ESt) (y:Operand) (a:Ty):Option (List a.den):=match s.ev y with
 | some (.d ty yv)=>zbu ty (.list a) yv
 | some (.own id)=>match s.ent id with
  | some (.arr _ ty yv)=>zbu (.list ty) (.list a) yv
  | _=>none
 | some .nil=>some ([]:List a.den)
 | _=>none
def zCi (s:ESt) (y:Operand) (a:Ty):Option (Option (Nat×Nat×List a.den)):=match s.ev y with
 | some (.view id t i n)=>match s.ent id with
  | some (.arr _ ty yv)=>bif Ty.beq t a then (match zbu (.list ty) (.list a) yv with
   | some l=>some (some (i,n,l))
   | none=>some none) else some none
  | _=>some none
 | _=>none
def zuZ {R:Type} (s:ESt) (y:Operand) (a:Ty) (K:List a.den->Option R):Option R:=match zCi s y a with
 | some (some (i,n,l))=>G (i+n<=l.length) (K ((l.drop i).take n))
 | some none=>none
 | none=>match zEg s y a with
  | some ys=>K ys
  | none=>none
theorem zqM {R:Type} {s:ESt} {y:Operand} {d:Ty} {K:List d.den->Option R} {q:R} (h:zuZ s y d K=some q):∃ ys,Src s.st y (α:=d.den) ys/\K ys=some q:=by
 unfold zuZ at h;split at h
 ·rename_i i n l b;obtain ⟨m,h⟩:=zbk h;refine ⟨_,?_,h⟩;unfold zCi at b;split at b
  ·rename_i id t o p c;split at b
   ·rename_i E g j e;cases f:Ty.beq t d with
    | false=>rw [f] at b;cases b
    | true=>
     rw [f] at b;simp only [cond_true] at b;split at b
     ·rename_i r k;cases b;have:=Ty.eq_of_beq f;subst this;obtain ⟨e',rfl⟩:=za6 k;cases e';exact .inr (.inr (.inr ⟨id,E,i,n,_,zap c,zaN e,rfl,m⟩))
     ·cases b
   ·cases b
  ·cases b
 ·cases h
 ·split at h
  ·rename_i ys a;refine ⟨ys,?_,h⟩;unfold zEg at a;split at a
   ·rename_i g j c;obtain ⟨rfl,rfl⟩:=za6 a;exact .inl (zap c)
   ·rename_i id c;split at a
    ·rename_i E g j e;obtain ⟨e',rfl⟩:=za6 a;cases e';exact .inr (.inl ⟨id,E,zap c,zaN e⟩)
    ·cases a
   ·rename_i c;cases a;exact .inr (.inr (.inl ⟨zap c,rfl⟩))
   ·cases a
  ·cases h
def zzD (TT:List TE) (s:ESt) (x y:Operand) (t:Nat) (d:Nat) (K:ESt->Option R):Option R:=bif Nat.beq s.n 0 && Nat.beq s.n 1 then K s else none
def zwG (TT:List TE) (s:ESt) (x:Operand) (t:Nat) (K:ESt->Option R):Option R:=match zdd TT t with
 | some e=>match tyT TT e with
  | some a=>match s.ev x with
   | some (.view k t2 i m)=>match s.ent k with
    | some (.arr E ty xv)=>match zbu (.list ty) (.list a) xv with
     | some xs=>bif Ty.beq t2 a then G (i+m<=xs.length) (K (s.put k (some (.arr E a (xs.take i++List.replicate m a.dflt++xs.drop (i+m)))))) else none
     | none=>none
    | _=>none
   | _=>none
  | none=>none
 | none=>none
def zt2 (TT:List TE) (s:ESt) (x y:Operand) (t:Nat) (d:Nat) (K:ESt->Option R):Option R:=match zdd TT t with
 | some e=>match tyT TT e with
  | some a=>bif Nat.blt 0 a.sz && Nat.blt 0 a.bts && Nat.blt s.nxt LIM && Nat.blt d s.n then zuZ s y a (fun ys=>match s.ev x with
    | some (.own k)=>match s.ent k with
     | some (.arr E ty xv)=>match zbu (.list ty) (.list a) xv with
      | some xs=>bif Nat.beq E e then G (room xs ys a.bts) (K (((s.put k none).new (.arr e a (xs++ys))).set d (.own s.nxt))) else none
      | none=>none
     | _=>none
    | some .nil=>G (room ([]:List a.den) ys a.bts) (K ((s.new (.arr e a ys)).set d (.own s.nxt)))
    | some (.full ty xv)=>match zbu (.list ty) (.list a) xv with
     | some xs=>G (0 < ys.length/\room xs ys a.bts) (K ((s.new (.arr e a (xs++ys))).set d (.own s.nxt)))
     | none=>none
    | _=>none) else none
  | none=>none
 | none=>none
def zrW (TT:List TE) (s:ESt) (x y:Operand) (t u:Nat) (d:Nat) (K:ESt->Option R):Option R:=bif Nat.beq s.n 0 && Nat.beq s.n 1 then K s else none
def zug (TT:List TE) (s:ESt) (t:Nat) (x y:Operand) (K:ESt->Option R):Option R:=match s.ev x with
 | some (.ptr id k)=>match s.ent id with
  | some (.box T cs)=>match fT TT t with
   | some e=>match s.ev y with
    | some v=>match v.cellsOf with
     | some ys=>bif ys.all EV.oneB && Nat.beq ys.length e.size && Nat.ble (k+e.size) cs.length then
       K (s.put id (some (.box T (zv1 cs k ys)))) else none
     | none=>none
    | none=>none
   | none=>none
  | _=>none
 | some (.eptr id te j k)=>match tyT TT t with
  | some u=>match (s.dat y u).ev y with
   | some v=>match v.exact u with
    | some c=>match (s.dat y u).ent id with
     | some (.arr E te' l)=>bif Ty.beq te te' then (match (s.dat y u).ev x with
       | some (.eptr id2 te2 j2 k2)=>bif Nat.beq id2 id && Ty.beq te2 te' && Nat.beq k2 k then (match zxl te' (l.getD j2 te'.dflt) k u c with
        | some z=>G (j2 < l.length) (K ((s.dat y u).put id (some (.arr E te' (l.set j2 z)))))
        | none=>none) else none
       | _=>none) else none
     | _=>none
    | none=>none
   | none=>none
  | none=>none
 | _=>none
def vecE (a:Ty) (l:List a.den) (n:Nat):List EV:=(List.range n).map fun i => .d a (l.getD i a.dflt)
def zuh (TT:List TE) (s:ESt) (t:Nat) (x y:Operand) (K:ESt->Option R):Option R:=match s.ev x with
 | some (.vptr id off n te j)=>match s.ent id with
  | some (.box T cs)=>match fT TT t with
   | some e=>bif Nat.beq e.size 1 && !te.agg then (match zvE te n (cs.drop off) with
    | some l=>match s.ev y with
     | some v=>match v.exact te with
      | some c=>G (j < n) (K (s.put id (some (.box T (zv1 cs off (vecE te (l.set j c) n))))))
      | none=>none
     | none=>none
    | none=>none) else none
   | none=>none
  | _=>none
 | _=>none
def zuf (TT:List TE) (s:ESt) (t:Nat) (x y:Operand) (K:ESt->Option R):Option R:=zug TT (frzV TT s (s.ev y)) t x y K
def evE (TT:List TE) (Γ:List CE) (s:ESt) (o:Oper) (K:ESt->Option R):Option R:=match o.op,o.dst with
 | .store t x y,none=>bif zxL s x then zuh TT s t x y K else zuf TT s t x y K
 | .mapUpdate t x y c,none=>zBa TT s t x y c K
 | .insert t x y c,none=>zBa TT s t x y c K
 | .mapEntry t x y,some d=>zzM TT s t x y d K
 | .entryStore _ x y c,none=>zCX s x y c K
 | .call c,some d=>match c.callee,c.args.toList,c.argTypes.toList with
  | .builtin .append,[x,y],[t,t']=>bif Nat.beq t t' then zt2 TT s x y t d K else zrW TT s x y t t' d K
  | .builtin .copy,[x,y],[t,_]=>zzD TT s x y t d K
  | .value f,_,_=>zxA TT Γ s f c.args d false K
  | _,_,_=>none
 | .call c,none=>match c.callee,c.args.toList,c.argTypes.toList with
  | .builtin .clear,[x],[t]=>zwG TT s x t K
  | _,_,_=>none
 | _,_=>evA TT Γ s o K
section
variable {P:Program} {TT:List TE} {Γ:List CE} {F:Fr} {s:ESt} {o:Oper} {K:ESt->Option R} {q:R}
def Post (s:ESt) (K:ESt->Option R) (q:R) (σ':St):Prop:=∃ a,σ'=a.st/\Sfx s a/\K a=some q
theorem AL.post {σ:St} {p b:St->Prop} (h:AL P F σ o p) (c:∀ x,p x->b x):AL P F σ o b:=
 fun a w r=>Oper.wp_mono2 (fun _ _ ⟨h1,h2,x,h3,h4⟩=>⟨h1,h2,x,c x h3,h4⟩) (fun _ _ _ h=>h) (h a w r)
theorem EF.post {σ:St} {p b:St->Prop} (h:EF P F σ o p) (c:∀ x,p x->b x):EF P F σ o b:=
 fun a w r=>Oper.wp_mono2 (fun _ _ ⟨h0,x,h3,h4⟩=>⟨h0,x,c x h3,h4⟩) (fun _ _ _ h=>h) (h a w r)
theorem zko (n:GOK P Γ) {f:Operand} {args:Array Operand} {ts:Array TypeId} {d:Nat} {pure:Bool} (p:o.dst=some d) (t:o.op = .call { callee := .value f,args:=args,argTypes:=ts })
  (h:zhA Γ s f args d pure K=some q):∀ (a:Act) (w:World),Rel F s.st a w->o.wp P a w (fun e w'=>((∃ u,e=a.put o.dst u)/\(pure=true->Ext w w'))/\∃ σ',Post s K q σ'/\Rel F σ' e w') (fun _ _ _=>False):=by
 unfold zhA at h;split at h
 ·rename_i g m x;split at h
  ·rename_i vals y;have z:=(zac h).1;replace h:=(zac h).2;obtain ⟨j,h⟩:=zxG h;obtain ⟨c,A,k,b,l⟩:=zlE h;intro a w r;refine Oper.wp_mono2 (fun e w' i => ?_) (fun _ _ _ h=>h) (zs7 (n c A) p z t (by rw [k];exact x) y j l a w r);exact ⟨⟨i.1.1,fun v=>i.1.2 (b v)⟩,i.2⟩
  ·cases h
 ·cases h
theorem zoq (m:GOK P Γ) {f:Operand} {args:Array Operand} {ts:Array TypeId} {d:Nat} {pure:Bool} (n:o.dst=some d) (p:o.op = .call { callee := .value f,args:=args,argTypes:=ts })
  (h:zt4 TT Γ s f args d pure K=some q):∀ (a:Act) (w:World),Rel F s.st a w->o.wp P a w (fun b w'=>((∃ u,b=a.put o.dst u)/\(pure=true->Ext w w'))/\∃ σ',Post s K q σ'/\Rel F σ' b w') (fun _ _ _=>False):=by
 unfold zt4 at h;cases t:fitC Γ s f args d pure with
 | true=>rw [t] at h;exact zko m n p h
 | false=>
  rw [t,cond_false] at h;have g:∀ s0:ESt,Wk s s0->Sfx s s0->zhA Γ s0 f args d pure K=some q->∀ (a:Act) (w:World),Rel F s.st a w->o.wp P a w (fun b w'=>((∃ u,b=a.put o.dst u)/\(pure=true->Ext w w'))/\∃ σ',Post s K q σ'/\Rel F σ' b w') (fun _ _ _=>False):=by
   intro s0 c e h a w r;refine Oper.wp_mono2 (fun b w' ⟨g1,σ',⟨s',i,e2,e3⟩,g3⟩ => ?_) (fun _ _ _ h=>h) (zko m n p h a w (c.rel F a w r));exact ⟨g1,σ',⟨s',i,e.trans e2,e3⟩,g3⟩
  obtain ⟨c,e⟩:=zjh args.toList s;split at h
  ·rename_i y i;obtain ⟨z,A⟩:=zrQ i;exact g _ z A h
  ·rename_i y _ i;obtain ⟨B,C⟩:=zrQ i;exact g _ (c.trans B) (e.trans C) h
  ·obtain ⟨D,E⟩:=zoj TT args.toList s;cases j:fitC Γ (zjg TT s args.toList) f args d pure with
   | true=>rw [j] at h;exact g _ D E h
   | false=>
   rw [j,cond_false] at h;cases k:fitC Γ (zfJ s args.toList) f args d pure with
   | true=>rw [k] at h;exact g _ c e h
   | false=>
    rw [k] at h;obtain ⟨v,x⟩:=zoj TT args.toList (zfJ s args.toList);rw [cond_false] at h;cases l:fitC Γ (zjg TT (zfJ s args.toList) args.toList) f args d pure with
    | true=>rw [l] at h;exact g _ (c.trans v) (e.trans x) h
    | false=>
     rw [l] at h;obtain ⟨H,I⟩:=zyq TT Γ (zjg TT (zfJ s args.toList) args.toList) f args.size;exact g _ ((c.trans v).trans H) ((e.trans x).trans I) h
theorem zqr (c:GOK P Γ) {f:Operand} {args:Array Operand} {ts:Array TypeId} {d:Nat} {pure:Bool} (e:o.dst=some d) (g:o.op = .call { callee := .value f,args:=args,argTypes:=ts })
  (h:zxA TT Γ s f args d pure K=some q):∀ (a:Act) (w:World),Rel F s.st a w->o.wp P a w (fun b w'=>((∃ u,b=a.put o.dst u)/\(pure=true->Ext w w'))/\∃ σ',Post s K q σ'/\Rel F σ' b w') (fun _ _ _=>False):=by
 intro a w r;obtain ⟨j,k⟩:=zri args.toList s;unfold zxA at h;cases i : !(fitC Γ (zpq s args.toList) f args d pure) && fitC Γ (ztq TT (zpq s args.toList) f args.toList) f args d pure with
 | true=>
  rw [i,cond_true] at h;obtain ⟨l,m⟩:=zzO TT (zpq s args.toList) f args.toList;refine Oper.wp_mono2 (fun b w' ⟨g1,σ',⟨s',e1,e2,e3⟩,g3⟩ => ?_) (fun _ _ _ h=>h) (zko c e g h a w ((j.trans l).rel F a w r));exact ⟨g1,σ',⟨s',e1,(k.trans m).trans e2,e3⟩,g3⟩
 | false=>
 rw [i,cond_false] at h;refine Oper.wp_mono2 (fun b w' ⟨g1,σ',⟨s',e1,e2,e3⟩,g3⟩ => ?_) (fun _ _ _ h=>h) (zoq c e g h a w (j.rel F a w r));exact ⟨g1,σ',⟨s',e1,k.trans e2,e3⟩,g3⟩
theorem zvj (C:TOK P TT) (hG:GOK P Γ) (h:evA TT Γ s o K=some q):∃ s0,Wk s s0/\Sfx s s0/\AL P F s0.st o (Post s K q):=by
 unfold evA at h;split at h
 ·cases h
 ·rename_i d I;have A:=(zac h).1;replace h:=(zac h).2;simp only [Bool.and_eq_true] at A;split at h
  ·rename_i T x u;split at h
   ·rename_i v hv;split at h
    ·rename_i cs N;obtain ⟨L,M⟩:=zim N;obtain ⟨Y,hs⟩:=zzX TT s (s.ev x);have i:=zBk TT s (s.ev x);generalize frzV TT s (s.ev x)=s0 at h hv Y hs i;refine ⟨s0,Y,hs,(AL.box (P:=P) (F:=F) (σ:=s0.st) s0.nxt rfl (by rw [i];exact A.1) I (by show Nat.blt d s0.n=true;rw [hs.n];exact A.2) u (zap hv) M).post fun x p => ?_⟩;subst p;exact ⟨_,by rw [zh1,zjJ,L,<- i];rfl,hs.trans ((Sfx.new _ _).trans (Sfx.set _ _ _)),h⟩
    ·cases h
   ·cases h
  ·rename_i T u;split at h
   ·rename_i e D;split at h
    ·rename_i cs N;obtain ⟨L,M⟩:=zim N;rw [zzq] at L M;obtain ⟨g,rfl⟩:=zbt C D;refine ⟨s,Wk.refl _,Sfx.refl _,(AL.alloc (P:=P) (F:=F) (σ:=s.st) s.nxt rfl A.1 I A.2 u g.ti M).post fun x p => ?_⟩;subst p;exact ⟨_,by rw [zh1,zjJ,L];rfl,(Sfx.new _ _).trans (Sfx.set _ _ _),h⟩
    ·cases h
   ·cases h
  ·rename_i t n B u;split at h
   ·rename_i e D;split at h
    ·rename_i H g;split at h
     ·rename_i ys U;have b:=(zac h).1;replace h:=(zac h).2;simp only [Bool.and_eq_true] at b;obtain ⟨⟨⟨g1,g2⟩,g3⟩,g4⟩:=b;obtain ⟨Y,hs⟩:=zhv TT (fun _=>some e) B.toList s;generalize hs0:zeE TT (fun _=>some e) s B.toList=s0 at h U Y hs;obtain ⟨z,Q,J⟩:=zbZ C g;have g1':0 < H.sz:=by simpa using g1
      obtain ⟨k1,xs,k2,k3⟩:=zqs g1' [] U (by simp);have hn:n=ys.length:=by rw [Nat.eq_of_beq_eq_true g2];exact k1
      have i:s0.nxt=s.nxt:=by rw [<- hs0];exact zio TT _ _ _
      refine ⟨s0,Y,hs,(AL.litsN (P:=P) (F:=F) (σ:=s0.st) (α:=H.den) (ys:=ys) (xs:=xs) s0.nxt rfl (by rw [i];exact A.1) I (by show Nat.blt d s0.n=true;rw [hs.n];exact A.2) u (zat C D) Q rfl g1 k2 (by rw [hn];rw [List.nil_append,List.nil_append] at k3;exact k3) hn rfl g3 g4).post fun x p => ?_⟩;subst p;exact ⟨_,by rw [zh1,zjJ,i];rfl,hs.trans ((Sfx.new _ _).trans (Sfx.set _ _ _)),h⟩
     ·cases h
    ·cases h
   ·cases h
  ·rename_i t l c u;split at h
   ·rename_i e D;split at h
    ·rename_i H g;split at h
     ·rename_i m k hm R;have b:=(zac h).1;replace h:=(zac h).2;simp only [Bool.and_eq_true] at b;obtain ⟨Z,h⟩:=zbk h;obtain ⟨z,Q,J⟩:=zbZ C g;have V:0 < H.sz:=by simpa using b.1
      have hbp:0 < H.bts:=by simpa using b.2
      have W:=zAi k H.bts hbp Z.2.2;refine ⟨s,Wk.refl _,Sfx.refl _,(AL.make (P:=P) (F:=F) (σ:=s.st) (α:=H.den) (z0:=H.dflt) s.nxt rfl A.1 I A.2 u (zat C D) Q rfl rfl V (zap hm) (zap R) (by rw [J];exact zrs H) Z.1 Z.2.1 Z.2.2 W).post fun x p => ?_⟩;subst p;exact ⟨_,by rw [zh1,zjJ];rfl,(Sfx.new _ _).trans (Sfx.set _ _ _),h⟩
     ·cases h
    ·cases h
   ·cases h
  ·rename_i c u;split at h
   ·rename_i f hf;refine ⟨s,Wk.refl _,Sfx.refl _,fun a w r=>Oper.wp_mono2 (fun a' w' hh => ?_) (fun _ _ _ h=>h) (zqr hG I (ts:=c.argTypes) (by rw [u,<- hf]) h a w r)⟩;exact ⟨hh.1.1,hh.1.2 rfl,hh.2⟩
   ·cases h
  ·rename_i t x y u;split at h
   ·rename_i e D;split at h
    ·rename_i H g;split at h
     ·rename_i k j p S;split at h
      ·rename_i E O l R;have b:=(zac h).1;replace h:=(zac h).2;have:=Ty.eq_of_beq b;subst this;obtain ⟨hj,h⟩:=zbk h;obtain ⟨z,Q,J⟩:=zbZ C g;refine ⟨s,Wk.refl _,Sfx.refl _,(AL.resl (P:=P) (F:=F) (σ:=s.st) (α:=O.den) (xs:=l) s.nxt rfl A.1 I A.2 u (zat C D) Q rfl (zap p) (zaN R) (zap S) hj).post fun x p => ?_⟩;subst p;exact ⟨_,by rw [zh1,zjJ];rfl,(Sfx.put _ _ _).trans ((Sfx.new _ _).trans (Sfx.set _ _ _)),h⟩
      ·cases h
     ·cases h
    ·cases h
   ·cases h
  ·rename_i t x y u;split at h
   ·rename_i e D;split at h
    ·rename_i H g;split at h
     ·rename_i k j p S;split at h
      ·rename_i E O l R;have b:=(zac h).1;replace h:=(zac h).2;have:=Ty.eq_of_beq b;subst this;obtain ⟨hj,h⟩:=zbk h;obtain ⟨z,Q,J⟩:=zbZ C g;refine ⟨s,Wk.refl _,Sfx.refl _,(AL.tail (P:=P) (F:=F) (σ:=s.st) (α:=O.den) (xs:=l) s.nxt rfl A.1 I A.2 u (zat C D) Q rfl (zap p) (zaN R) (zap S) hj).post fun x p => ?_⟩;subst p;exact ⟨_,by rw [zh1,zjJ,zgB];rfl,(Sfx.put _ _ _).trans ((Sfx.new _ _).trans (Sfx.set _ _ _)),h⟩
      ·cases h
     ·cases h
    ·cases h
   ·cases h
  ·rename_i t B u;obtain ⟨z,L,M⟩:=zop (F:=F) C u h;refine ⟨s,Wk.refl _,Sfx.refl _,(AL.ro I A.2 L).post fun x p => ?_⟩;subst p;exact ⟨_,by rw [zh1],Sfx.set _ _ _,M⟩
  ·rename_i t x u;split at h
   ·rename_i e D;split at h
    ·rename_i id k L;split at h
     ·rename_i T cs M;have b:=(zac h).1;replace h:=(zac h).2;simp only [Bool.and_eq_true] at b;obtain ⟨g,rfl⟩:=zbt C D;have X:=g.ti;rw [b.1] at X;have hle:k+e.size<=cs.length:=by simpa using b.2
      have h9:=RO.ld_ptr_sub (F:=F) u X (zap L) (zaN M) (by rw [zfZ];exact hle);refine ⟨s,Wk.refl _,Sfx.refl _,(AL.ro I A.2 h9).post fun y S => ?_⟩;subst S;refine ⟨_,?_,Sfx.set _ _ _,h⟩;rw [zh1,EV.av,zfd,zfd,List.map_take,List.map_drop]
     ·cases h
    ·cases h
   ·cases h
  ·rename_i t u;split at h
   ·rename_i kt et hm;split at h
    ·rename_i k v R hv;refine ⟨s,Wk.refl _,Sfx.refl _,(AL.makeMap (P:=P) (F:=F) (σ:=s.st) (T:=t) (α:=k.den) (β:=v.den) s.nxt rfl A.1 I A.2 u).post fun x p => ?_⟩;subst p;exact ⟨_,by rw [zh1,zjJ];rfl,(Sfx.new _ _).trans (Sfx.set _ _ _),h⟩
    ·cases h
   ·cases h
  ·cases h
theorem zrX (b:TOK P TT) {x y:Operand} {t u d:Nat} (c:o.dst=some d) (e:o.op = .call { callee := .builtin .append,args:=#[x,y],argTypes:=#[t,u] }) (h:zrW TT s x y t u d K=some q):EF P F s.st o (Post s K q):=by unfold zrW at h;obtain ⟨a,i⟩:=zac h;simp only [Bool.and_eq_true] at a;have f:=Nat.eq_of_beq_eq_true a.1;have g:=Nat.eq_of_beq_eq_true a.2;omega
theorem zs6 (p:TOK P TT) {x y:Operand} {t d:Nat} (r:o.dst=some d) (u:o.op = .call { callee := .builtin .append,args:=#[x,y],argTypes:=#[t,t] }) (h:zt2 TT s x y t d K=some q):EF P F s.st o (Post s K q):=by
 unfold zt2 at h;split at h
 ·rename_i e v;split at h
  ·rename_i a w;have I:=(zac h).1;replace h:=(zac h).2;simp only [Bool.and_eq_true] at I;obtain ⟨⟨⟨N,O⟩,g3⟩,g4⟩:=I;have b:0 < a.sz:=by simpa using N
   have A:0 < a.bts:=by simpa using O
   obtain ⟨z,D,g⟩:=zbZ p w;obtain ⟨ys,c,h⟩:=zqM h;have B:∀ n:Nat,n * a.bts<=140737488355328->n<=9223372036854775807:=by
    intro n Q;have:n * 1<=n * a.bts:=Nat.mul_le_mul_left n A;omega
   split at h
   ·rename_i k l;split at h
    ·rename_i E J L M;split at h
     ·rename_i xs f;have C:=(zac h).1;replace h:=(zac h).2;have:=Nat.eq_of_beq_eq_true C;subst this;obtain ⟨e',rfl⟩:=za6 f;cases e';obtain ⟨i,h⟩:=zbk h;refine (EF.append (P:=P) (F:=F) (σ:=s.st) (α:=a.den) a.dflt s.nxt rfl g3 r g4 u (zat p v) D rfl rfl rfl b (by rw [g];exact zrs a) (zap l) (zaN M) c i (B _ i)).post fun x j => ?_
      subst j;exact ⟨_,by rw [zh1,zjJ,zgB];rfl,((Sfx.put _ _ _).trans (Sfx.new _ _)).trans (Sfx.set _ _ _),h⟩
     ·cases h
    ·cases h
   ·rename_i l;obtain ⟨i,h⟩:=zbk h;have m:ys.length * a.bts<=140737488355328:=by
     have:room ([]:List a.den) ys a.bts:=i;unfold room at this;simpa using this
    refine (EF.append_nil (P:=P) (F:=F) (σ:=s.st) (α:=a.den) a.dflt s.nxt rfl g3 r g4 u (zat p v) D rfl rfl b (by rw [g];exact zrs a) (zap l) c m (B _ m)).post fun x j => ?_
    subst j;exact ⟨_,by rw [zh1,zjJ];rfl,(Sfx.new _ _).trans (Sfx.set _ _ _),h⟩
   ·rename_i J L l;split at h
    ·rename_i xs f;obtain ⟨e',rfl⟩:=za6 f;cases e';obtain ⟨⟨H,i⟩,h⟩:=zbk h;refine (EF.append_full (P:=P) (F:=F) (σ:=s.st) (α:=a.den) a.dflt s.nxt rfl g3 r g4 u (zat p v) D rfl rfl b (by rw [g];exact zrs a) (zap l) c H i (B _ i)).post fun x j => ?_
     subst j;exact ⟨_,by rw [zh1,zjJ];rfl,(Sfx.new _ _).trans (Sfx.set _ _ _),h⟩
    ·cases h
   ·cases h
  ·cases h
 ·cases h
theorem zt5 (f:TOK P TT) {x:Operand} {t:Nat} (g:o.dst=none) (j:o.op = .call { callee := .builtin .clear,args:=#[x],argTypes:=#[t] }) (h:zwG TT s x t K=some q):EF P F s.st o (Post s K q):=by
 unfold zwG at h;split at h
 ·rename_i e n;split at h
  ·rename_i w a;obtain ⟨z,u,d⟩:=zbZ f a;split at h
   ·rename_i k y i m p;split at h
    ·rename_i E A B r;split at h
     ·rename_i xs b;have c:=(zac h).1;replace h:=(zac h).2;have:=Ty.eq_of_beq c;subst this;obtain ⟨v,h⟩:=zbk h;obtain ⟨e',rfl⟩:=za6 b;cases e';refine (EF.clearV (P:=P) (F:=F) (σ:=s.st) g j (zat f n) u (by rw [d];exact zrs _) (zap p) (zaN r) v).post fun x l => ?_
      subst l;exact ⟨_,by rw [zgB];rfl,Sfx.put _ _ _,h⟩
     ·cases h
    ·cases h
   ·cases h
  ·cases h
 ·cases h
theorem zvl (b:TOK P TT) {x y:Operand} {t t' d:Nat} (c:o.dst=some d) (e:o.op = .call { callee := .builtin .copy,args:=#[x,y],argTypes:=#[t,t'] }) (h:zzD TT s x y t d K=some q):EF P F s.st o (Post s K q):=by unfold zzD at h;obtain ⟨a,i⟩:=zac h;simp only [Bool.and_eq_true] at a;have f:=Nat.eq_of_beq_eq_true a.1;have g:=Nat.eq_of_beq_eq_true a.2;omega
theorem zs9 (w:TOK P TT) {t:Nat} {x y:Operand} (A:o.dst=none) (B:o.op = .store t x y) (h:zug TT s t x y K=some q):∃ s0,Wk s s0/\Sfx s s0/\EF P F s0.st o (Post s K q):=by
 unfold zug at h;split at h
 ·rename_i id k b;split at h
  ·rename_i T cs d;split at h
   ·rename_i e D;split at h
    ·rename_i v f;split at h
     ·rename_i ys g;have C:=(zac h).1;replace h:=(zac h).2;simp only [Bool.and_eq_true] at C;obtain ⟨⟨S,U⟩,g3⟩:=C;obtain ⟨n,V⟩:=zim g;obtain ⟨p,rfl⟩:=zbt w D;refine ⟨s,Wk.refl _,Sfx.refl _,(EF.st_ptr (P:=P) (F:=F) (σ:=s.st) A B p.ti (zap b) (zaN d) (zap f) V (by rw [n];exact zry S) (by rw [n,zfZ];exact Nat.eq_of_beq_eq_true U) (by rw [zfZ];simpa using g3)).post fun x b => ?_⟩;subst b;exact ⟨_,by rw [zgB,n,<- zuU];rfl,Sfx.put _ _ _,h⟩
     ·cases h
    ·cases h
   ·cases h
  ·cases h
 ·rename_i id X j k b;split at h
  ·rename_i u H;split at h
   ·rename_i v f;split at h
    ·rename_i c I;split at h
     ·rename_i E J l L
      replace h:=(zac h).2
      split at h
      ·rename_i id2 M Y Z i;have a:=(zac h).1;replace h:=(zac h).2;simp only [Bool.and_eq_true] at a;have O:=Nat.eq_of_beq_eq_true a.1.1;have Q:=Ty.eq_of_beq a.1.2;have R:=Nat.eq_of_beq_eq_true a.2;subst O Q R;split at h
       ·rename_i z N;obtain ⟨W,h⟩:=zbk h;obtain ⟨zz,r,_⟩:=zbZ w H;have m:=zd9 I;subst m;refine ⟨s.dat y u,zji s y u,Sfx.dat s y u,(EF.st_eptr_sub (P:=P) (F:=F) (σ:=(s.dat y u).st) A B r (zap i) (zaN L) (zap f) W N).post fun x b => ?_⟩;subst b;exact ⟨_,by rw [zgB];rfl,(Sfx.dat s y u).trans (Sfx.put _ _ _),h⟩
       ·cases h
      ·cases h
     ·cases h
    ·cases h
   ·cases h
  ·cases h
 ·cases h
theorem zos (c:TOK P TT) {t:Nat} {x y:Operand} (d:o.dst=none) (e:o.op = .store t x y) (h:zuf TT s t x y K=some q):∃ s0,Wk s s0/\Sfx s s0/\EF P F s0.st o (Post s K q):=by
 unfold zuf at h;obtain ⟨f,b⟩:=zzX TT s (s.ev y);obtain ⟨s0,g,i,j⟩:=zs9 c d e h;refine ⟨s0,f.trans g,b.trans i,fun a w r => ?_⟩;exact Oper.wp_mono2 (fun a' w' ⟨g0,σ',⟨s',e1,e2,e3⟩,g3⟩=>⟨g0,σ',⟨s',e1,b.trans e2,e3⟩,g3⟩) (fun _ _ _ h=>h) (j a w r)
theorem zAE {a:Ty} {cs:List EV} {off n j:Nat} {l:List a.den} {c:a.den} (e:zvE a n (cs.drop off)=some l) (q:j < n) (f:off+n<=cs.length):zv1 cs off (vecE a (l.set j c) n)=zv1 cs (off+j) [.d a c]:=by
 obtain ⟨s,_,p⟩:=zmF e;refine List.ext_getElem? fun k => ?_
 have b:(vecE a (l.set j c) n).length=n:=by simp [vecE]
 unfold zv1;rw [b];by_cases i:k < off
 ·rw [List.getElem?_append_left (by rw [List.length_append,List.length_take];omega),List.getElem?_append_left (by rw [List.length_take];omega),
   List.getElem?_append_left (by rw [List.length_append,List.length_take];omega),List.getElem?_append_left (by rw [List.length_take];omega),List.getElem?_take_of_lt i,List.getElem?_take_of_lt (by omega)]
 ·by_cases r:k < off+n
  ·rw [List.getElem?_append_left (by rw [List.length_append,List.length_take,b];omega),List.getElem?_append_right (by rw [List.length_take];omega),List.length_take,Nat.min_eq_left (by omega)];have g:(vecE a (l.set j c) n)[k - off]? =some (.d a ((l.set j c).getD (k - off) a.dflt)):=by
    unfold vecE;rw [List.getElem?_map,List.getElem?_range (by omega)];rfl
   rw [g];by_cases m:k=off+j
   ·subst m;rw [List.getElem?_append_left (by simp;omega),List.getElem?_append_right (by rw [List.length_take];omega),List.length_take,Nat.min_eq_left (by omega),Nat.sub_self,show off+j - off=j by omega];have:j < l.length:=by omega
    simp [List.getD_eq_getElem?_getD,this]
   ·have h:(l.set j c).getD (k - off) a.dflt=l.getD (k - off) a.dflt:=by
     rw [List.getD_eq_getElem?_getD,List.getD_eq_getElem?_getD,List.getElem?_set_ne (by omega)]
    have d:=p (k - off) (by omega);rw [List.getElem?_drop,show off+(k - off)=k by omega] at d;rw [h,<- d];by_cases o:k < off+j
    ·rw [List.getElem?_append_left (by rw [List.length_append,List.length_take];omega),List.getElem?_append_left (by rw [List.length_take];omega),List.getElem?_take_of_lt o]
    ·rw [List.getElem?_append_right (by simp;omega),List.getElem?_drop];congr 1;simp;omega
  ·rw [List.getElem?_append_right (by rw [List.length_append,List.length_take,b];omega),List.getElem?_append_right (by simp;omega),List.getElem?_drop,List.getElem?_drop];congr 1;simp [b];omega
theorem zta (B:TOK P TT) {t:Nat} {x y:Operand} (C:o.dst=none) (D:o.op = .store t x y) (h:zuh TT s t x y K=some q):EF P F s.st o (Post s K q):=by
 unfold zuh at h;split at h
 ·rename_i id off n d j i;split at h
  ·rename_i T cs k;split at h
   ·rename_i e E;have z:=(zac h).1;replace h:=(zac h).2;simp only [Bool.and_eq_true] at z;obtain ⟨p,r⟩:=z;split at h
    ·rename_i l w;split at h
     ·rename_i v H;split at h
      ·rename_i c I;obtain ⟨J,h⟩:=zbk h;obtain ⟨u,rfl⟩:=zbt B E;have b:d.agg=false:=by simpa using r
       have f:=Nat.eq_of_beq_eq_true p;have m:off+n<=cs.length:=by
        obtain ⟨M,L,N⟩:=zmF w;rw [List.length_drop] at L;omega
       have A:=zap H;rw [zd9 I] at A;have a:zaz (EV.d d c).av=[(EV.d d c).av]:=by
        show (encD d c).cells.map AV.d=_;rw [zeF b];rfl
       have g:AV.one (EV.d d c).av=true:=by
        cases d with
        | unit=>cases b
        | pair _ _=>cases b
        | tree _=>exact zrj _ _
        | _=>rfl
       refine (EF.st_ptr (P:=P) (F:=F) (σ:=s.st) C D u.ti (zap i) (zaN k) A rfl (by rw [a];simp [g]) (by rw [a,f];rfl) (by rw [zfZ,f];omega)).post fun x i => ?_
       subst i;refine ⟨_,?_,Sfx.put _ _ _,h⟩;rw [zgB,zAE w J m,a];rw [show [(EV.d d c).av]=EV.avL [.d d c] from rfl,<- zuU];rfl
      ·cases h
     ·cases h
    ·cases h
   ·cases h
  ·cases h
 ·cases h
theorem zvv (g:TOK P TT) {t:Nat} {x y c:Operand} (j:o.dst=none) (l:o.op = .mapUpdate t x y c\/o.op = .insert t x y c) (h:zzN TT s t x y c K=some q):EF P F s.st o (Post s K q):=by
 unfold zzN at h;split at h
 ·rename_i B C i;split at h
  ·rename_i id n;split at h
   ·rename_i T k ks v vs p;have A:=(zac h).1;replace h:=(zac h).2;split at h
    ·rename_i D E r u;split at h
     ·rename_i key w a e;have f:=zx7 g A i;have b:=zap r;rw [zd9 a] at b;have d:=zap u;rw [zd9 e] at d;refine (EF.mapUpdate (P:=P) (F:=F) (σ:=s.st) (α:=k.den) (β:=v.den) (ks:=ks) (vs:=vs) (k:=key) (c:=w) j l (zsh g i) f (zap n) (zaN p) b d).post fun z m => ?_
      subst m;exact ⟨_,by rw [zgB];rfl,Sfx.put _ _ _,h⟩
     ·cases h
    ·cases h
   ·cases h
  ·cases h
 ·cases h
theorem zrZ (b:TOK P TT) {t:Nat} {x y c:Operand} (d:o.dst=none) (e:o.op = .mapUpdate t x y c\/o.op = .insert t x y c) (h:zBa TT s t x y c K=some q):∃ s0,Wk s s0/\Sfx s s0/\EF P F s0.st o (Post s K q):=by
 unfold zBa at h;split at h
 ·split at h
  ·rename_i v _ _;refine ⟨_,zji s c v,Sfx.dat s c v,fun a w r => ?_⟩;exact Oper.wp_mono2 (fun a' w' ⟨g0,σ',⟨s',e1,e2,e3⟩,g3⟩=>⟨g0,σ',⟨s',e1,(Sfx.dat s c v).trans e2,e3⟩,g3⟩) (fun _ _ _ h=>h) (zvv b d e h a w r)
  ·cases h
 ·cases h
theorem zvu (b:TOK P TT) {t d:Nat} {x y:Operand} (c:o.dst=some d) (e:o.op = .mapEntry t x y) (h:zzM TT s t x y d K=some q):EF P F s.st o (Post s K q):=by unfold zzM at h;obtain ⟨a,i⟩:=zac h;simp only [Bool.and_eq_true] at a;have f:=Nat.eq_of_beq_eq_true a.1;have g:=Nat.eq_of_beq_eq_true a.2;omega
theorem zwN {t:Nat} {x y c:Operand} (b:o.dst=none) (d:o.op = .entryStore t x y c) (h:zCX s x y c K=some q):∃ s0,Wk s s0/\Sfx s s0/\EF P F s0.st o (Post s K q):=by unfold zCX at h;obtain ⟨a,g⟩:=zac h;simp only [Bool.and_eq_true] at a;have e:=Nat.eq_of_beq_eq_true a.1;have f:=Nat.eq_of_beq_eq_true a.2;omega
theorem zgu (j:TOK P TT) (u:GOK P Γ) (h:evE TT Γ s o K=some q):∃ s0,Wk s s0/\Sfx s s0/\EF P F s0.st o (Post s K q):=by
 unfold evE at h;split at h
 ·rename_i t x y e b;cases m:zxL s x with
  | true=>rw [m] at h;exact ⟨s,Wk.refl _,Sfx.refl _,zta j b e h⟩
  | false=>rw [m] at h;exact zos j b e h
 ·rename_i t x y c e b;exact zrZ j b (.inl e) h
 ·rename_i t x y c e b;exact zrZ j b (.inr e) h
 ·rename_i t x y d e b;exact ⟨s,Wk.refl _,Sfx.refl _,zvu j b e h⟩
 ·rename_i t x y c e b;exact zwN b e h
 ·rename_i c d e b;split at h
  ·rename_i x y t t' g k l;have i:o.op = .call { callee := .builtin .append,args:=#[x,y],argTypes:=#[t,t'] }:=by
    rw [e];obtain ⟨z,n,p⟩:=c;simp only at g k l;subst g;rw [show n=#[x,y] from Array.ext' k,show p=#[t,t'] from Array.ext' l]
   cases m:Nat.beq t t' with
   | true=>
    rw [m] at h;have:=Nat.eq_of_beq_eq_true m;subst this;exact ⟨s,Wk.refl _,Sfx.refl _,zs6 j b i h⟩
   | false=>
    rw [m] at h;exact ⟨s,Wk.refl _,Sfx.refl _,zrX j b i h⟩
  ·rename_i x y t t' g k l;refine ⟨s,Wk.refl _,Sfx.refl _,zvl j b (t':=t') ?_ h⟩;rw [e];obtain ⟨z,n,p⟩:=c;simp only at g k l;subst g;rw [show n=#[x,y] from Array.ext' k,show p=#[t,t'] from Array.ext' l]
  ·rename_i f g;refine ⟨s,Wk.refl _,Sfx.refl _,fun a w r=>Oper.wp_mono2 (fun A w' v=>⟨v.1.1,v.2⟩) (fun _ _ _ h=>h) (zqr u b (ts:=c.argTypes) (by rw [e,<- g]) h a w r)⟩
  ·cases h
 ·rename_i c e b;split at h
  ·rename_i x t g k l;refine ⟨s,Wk.refl _,Sfx.refl _,zt5 j b (x:=x) (t:=t) ?_ h⟩;rw [e];obtain ⟨z,n,p⟩:=c;simp only at g k l;subst g;rw [show n=#[x] from Array.ext' k,show p=#[t] from Array.ext' l]
  ·cases h
 ·obtain ⟨s0,g,k,l⟩:=zvj j u h;exact ⟨s0,g,k,l.ef⟩
end
end
end Go.Ab
