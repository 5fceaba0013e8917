import Derived.Test.YtmogekkikaelhaaEv40n28
set_option linter.unusedVariables false
set_option linter.unusedSimpArgs false
set_option linter.unusedSectionVars false
namespace Go.Ab
noncomputable section
open Enc (enc)
variable {R:Type}
def fldTy (TT:List TE) (t:Nat) (i:Nat):Option Nat:=match fT TT t with
 | some ⟨_,.struct fs _,_,_,_,_,_⟩=>(fs[i]?).map (·.2)
 | some ⟨_,.array _ e,_,_,_,_,_⟩=>some e
 | _=>none
def zrj:Option EV->Bool
 | some .nil=>true
 | _=>false
def ESt.datW (s:ESt) (x:Operand):ESt:=match s.ev x with
 | some (.view _ t _ _)=>s.dat x (.list t)
 | _=>s
theorem zqZ (s:ESt) (x:Operand):Wk s (s.datW x)/\Sfx s (s.datW x):=by
 unfold ESt.datW;split
 ·exact ⟨zev _ _ _,Sfx.dat _ _ _⟩
 ·exact ⟨Wk.refl _,Sfx.refl _⟩
def preR (TT:List TE) (s:ESt):Op->ESt
 | .slice t x _ _ _=>bif zrj (s.ev x) then s else match zbs TT t with
  | some e=>match tyT TT e with
   | some te=>s.dat x (.list te)
   | none=>s
  | none=>s
 | .build t parts=>zcu TT (fldTy TT t) s parts.toList
 | .load t x=>match s.ev x with
  | some (.ptr id k)=>match fT TT t with
   | some e=>bif e.ag then s.boxDat id k e.size else s
   | none=>s
  | _=>s
 | .convert _ _ x=>s.datW x
 | .call c=>match c.callee with
  | .builtin .len=>s
  | _=>match c.args.toList with
   | [x]=>s.datW x
   | _=>s
 | _=>s
theorem zo6 (TT:List TE) (s:ESt) (op:Op):Wk s (preR TT s op)/\Sfx s (preR TT s op):=by
 unfold preR;split
 ·rename_i t x _ _ _;cases zrj (s.ev x)
  case true=>exact ⟨Wk.refl _,Sfx.refl _⟩
  simp only [cond_false];split
  ·split
   ·exact ⟨zev _ _ _,Sfx.dat _ _ _⟩
   ·exact ⟨Wk.refl _,Sfx.refl _⟩
  ·exact ⟨Wk.refl _,Sfx.refl _⟩
 ·exact zd3 _ _ _ _
 ·split
  ·split
   ·rename_i e _;cases e.ag
    ·exact ⟨Wk.refl _,Sfx.refl _⟩
    ·exact ⟨ze5 _ _ _ _,Sfx.boxDat _ _ _ _⟩
   ·exact ⟨Wk.refl _,Sfx.refl _⟩
  ·exact ⟨Wk.refl _,Sfx.refl _⟩
 ·exact zqZ _ _
 ·split
  ·exact ⟨Wk.refl _,Sfx.refl _⟩
  ·split
   ·exact zqZ _ _
   ·exact ⟨Wk.refl _,Sfx.refl _⟩
 ·exact ⟨Wk.refl _,Sfx.refl _⟩
def zrp (TT:List TE) (s:ESt) (t:Nat) (x:Operand) (lo hi:Option Operand) (K:EV->Option R):Option R:=match zbs TT t with
 | some e=>match tyT TT e with
  | some te=>match s.ev x with
   | some (.own id)=>match s.ent id with
    | some (.arr _ te' l)=>bif Ty.beq te' te then (match lo,hi with
     | some a,some b=>match s.ev a,s.ev b with
      | some (.d (.int .i64) i),some (.d (.int .i64) j)=>G (0<=i/\i<=j/\j<=(l.length:Int)) (K (.view id te' (Int.toNat i) (Int.toNat (j - i))))
      | _,_=>none
     | some a,none=>match s.ev a with
      | some (.d (.int .i64) i)=>G (0<=i/\i<=(l.length:Int)) (K (.view id te' (Int.toNat i) (l.length - Int.toNat i)))
      | _=>none
     | none,some b=>match s.ev b with
      | some (.d (.int .i64) j)=>G (0<=j/\j<=(l.length:Int)) (K (.view id te' 0 (Int.toNat j)))
      | _=>none
     | none,none=>none) else none
    | _=>none
   | _=>none
  | none=>none
 | none=>none
def zpE (s:ESt) (x:Operand):Bool:=match s.ev x with
 | some (.own id)=>match s.ent id with
  | some (.arr _ _ _)=>true
  | _=>false
 | _=>false
theorem znQ {P:Program} {TT:List TE} {F:Fr} {s:ESt} {o:Oper} {K:EV->Option R} {r:R} (hT:TOK P TT) {t:Nat} {x:Operand} {lo hi:Option Operand} (ho:o.op = .slice t x lo hi none) (h:zrp TT s t x lo hi K=some r):∃ z,RO P F s.st o z.av/\K z=some r:=by
 unfold zrp at h;split at h
 ·rename_i e h2;split at h
  ·rename_i te h3;split at h
   ·rename_i id h1;split at h
    ·rename_i E te' l he;have hb:=(zaa h).1;replace h:=(zaa h).2;have:=Ty.eq_of_beq hb;subst this;obtain ⟨z,hz,_⟩:=zaK hT h3;split at h
     ·rename_i a b;split at h
      ·rename_i i j hi hj;obtain ⟨hg,h⟩:=zaF h;exact ⟨_,RO.vw_lh (α:=te'.den) ho (zai hT h2) hz (zah h1) (zat he) (zah hi) (zah hj) hg,h⟩
      ·cases h
     ·rename_i a;split at h
      ·rename_i i hi;obtain ⟨hg,h⟩:=zaF h;exact ⟨_,RO.vw_l (α:=te'.den) ho (zai hT h2) hz (zah h1) (zat he) (zah hi) hg,h⟩
      ·cases h
     ·rename_i b;split at h
      ·rename_i j hj;obtain ⟨hg,h⟩:=zaF h;exact ⟨_,RO.vw_h (α:=te'.den) ho (zai hT h2) hz (zah h1) (zat he) (zah hj) hg,h⟩
      ·cases h
     ·cases h
    ·cases h
   ·cases h
  ·cases h
 ·cases h
structure Both (bo:Option R->Option R->Option R):Prop where
 l:∀ {a b:Option R} {q:R},bo a b=some q->a=some q
 r:∀ {a b:Option R} {q:R},bo a b=some q->b=some q
def zsM:BinOp->Option Bool
 | .eql=>some false
 | .neq=>some true
 | _=>none
def ztK (bo:Option R->Option R->Option R) (s:ESt) (n:Nat) (d:Nat) (neq:Bool) (K:ESt->Option R):Option R:=
 if n=0 then bo (K (s.set d (.d .bool true))) (K (s.set d (.d .bool false))) else K (s.set d (.d .bool neq))
def evR (TT:List TE) (bo:Option R->Option R->Option R) (s:ESt) (o:Oper) (K:ESt->Option R):Option R:=match o.dst with
 | none=>none
 | some d=>bif Nat.blt d s.n then (match o.op with
  | .pick c a b=>match s.ev c with
   | some (.d .bool t)=>if t=true then (match s.ev a with
     | some v=>K (s.set d v)
     | none=>none) else (match s.ev b with
     | some v=>K (s.set d v)
     | none=>none)
   | _=>none
  | .build t parts=>zmA TT (preR TT s (.build t parts)) t parts.toList fun x=>K ((preR TT s (.build t parts)).set d x)
  | .binOp op t x y _=>match s.ev x,s.ev y with
   | some (.d (.list _) l),some .nil=>match zsM op,zbs TT t with
    | some ng,some _=>ztK bo s l.length d ng K
    | _,_=>none
   | some .nil,some .nil=>match zsM op,zbs TT t with
    | some ng,some _=>K (s.set d (.d .bool (!ng)))
    | _,_=>none
   | _,_=>zsv TT s op t x y fun x=>K (s.set d x)
  | .index t x i=>match s.ev x,s.ev i with
   | some (.d .str _),_=>evRO TT s (.index t x i) fun x=>K (s.set d x)
   | some (.d tx a),some (.d (.int _) j)=>match arrT TT t with
    | some (n,e)=>match tyT TT e with
     | some te=>match zaL tx (vecT te n) a with
      | some v=>bif te.agg then none else G (0<=j/\j < (n:Int)) (K (s.set d (.d te (vget te n v j.toNat))))
      | none=>none
     | none=>none
    | none=>none
   | _,_=>none
  | .slice t x lo hi none=>bif zpE s x && (lo.isSome || hi.isSome) then zrp TT s t x lo hi (fun x=>K (s.set d x)) else
    evRO TT (preR TT s (.slice t x lo hi none)) (.slice t x lo hi none) fun y=>K ((preR TT s (.slice t x lo hi none)).set d y)
  | op=>bif zrE s op then evDR TT s op (fun x=>K (s.set d x)) else evRO TT (preR TT s op) op fun x=>K ((preR TT s op).set d x)) else none
def preV (TT:List TE) (s:ESt):Op->ESt
 | .box T x=>s.datV TT x T
 | .store t _ y=>s.datV TT y t
 | _=>s
theorem zfT (TT:List TE) (s:ESt) (op:Op):Wk s (preV TT s op)/\Sfx s (preV TT s op):=by
 unfold preV;split
 ·exact zqY _ _ _ _
 ·exact zqY _ _ _ _
 ·exact ⟨Wk.refl _,Sfx.refl _⟩
def nilV (TT:List TE) (s:ESt) (y:Operand):ESt:=match s.ev y with
 | some (.fn _ c)=>zqt TT s c
 | _=>s
theorem zt1 (TT:List TE) (s:ESt) (y:Operand):Wk s (nilV TT s y)/\Sfx s (nilV TT s y):=by
 unfold nilV;split
 ·exact zna TT _ s
 ·exact ⟨Wk.refl _,Sfx.refl _⟩
def evE3 (TT:List TE) (Γ:List CE) (s:ESt) (o:Oper) (K:ESt->Option R):Option R:=match o.op,o.dst with
 | .store t x y,none=>zmO TT (nilV TT s y) t x y K
 | _,_=>evE TT Γ s o K
theorem zqh {P:Program} {TT:List TE} {Γ:List CE} {F:Fr} {s:ESt} {o:Oper} {K:ESt->Option R} {q:R} (hT:TOK P TT) (hG:GOK P Γ) (h:evE3 TT Γ s o K=some q):∃ s0,Wk s s0/\Sfx s s0/\EF P F s0.st o (Post s K q):=by
 unfold evE3 at h;split at h
 ·rename_i t x y ho hd;obtain ⟨h1,h2⟩:=zt1 TT s y;obtain ⟨s0,h3,h4,h5⟩:=ziw (F:=F) hT hd ho h;exact ⟨s0,h1.trans h3,h2.trans h4,h5.post fun x ⟨s',e1,e2,e3⟩=>⟨s',e1,h2.trans e2,e3⟩⟩
 ·exact zdn hT hG h
def zpx (TT:List TE) (Γ:List CE) (bo:Option R->Option R->Option R) (c:Nat) (o:Oper) (s:ESt) (K:ESt->Option R):Option R:=match c with
 | 0=>evR TT bo s o K
 | 1=>evA TT Γ (preV TT s o.op) o K
 | 3=>evE3 TT Γ (preV TT s o.op) o K
 | 4=>evD TT s o K
 | 9=>evK TT Γ false s o K
 | 10=>evK TT Γ true s o K
 | 11=>evE TT Γ (preV TT (zql s o.op) o.op) o K
 | _=>evE TT Γ (preV TT s o.op) o K
def gE (ops:Array Oper) (s:ESt) (o:Oper):Prop:=match o.guard with
 | none=>True
 | some (j,b)=>∃ t,(ops[j]?).bind (·.dst)=some t/\s.get t=some (.d .bool b)
section
variable {P:Program} {TT:List TE} {Γ:List CE} {bo:Option R->Option R->Option R} {F:Fr} {s:ESt} {o:Oper} {K:ESt->Option R} {q:R} {ops:Array Oper} {rest:List (Nat×Oper)} {KK:St->Prop}
theorem gE.on (h:gE ops s o) {s':ESt} (hw:Wk s s'):gOn ops s'.st o true:=by
 unfold gE at h;cases hg:o.guard with
 | none=>exact zsD hg
 | some p=>
  obtain ⟨j,b⟩:=p;rw [hg] at h;obtain ⟨t,h1,h2⟩:=h;exact zku t b hg h1 (zbY (hw.kd t .bool b h2)) (by cases b<;>rfl)
theorem zej {d:Nat} (hd:o.dst=some d) (hlt:Nat.blt d s.n=true) {s0:ESt} (hw:Wk s s0) (hs:Sfx s s0) (hg:gE ops s o) {x:EV} (h:RO P F s0.st o x.av) (hk:AO P F ops rest (s0.set d x).st KK):AO P F ops ((0,o)::rest) s.st KK:=
 AO.weak (fun a w r=>hw.rel F a w r) (AO.ro hd (by show Nat.blt d s0.n=true;rw [hs.n];exact hlt) (hg.on hw) h hk)
theorem RO.nilnil {op:BinOp} (neq:Bool) (hop:op=if neq then .neq else .eql) {t t' e:TypeId} {x y:Operand} (ho:o.op = .binOp op t x y t') (ht:P.underlying t=some (.slice e)) (hx:s.st.ev x=some .nil) (hy:s.st.ev y=some .nil):RO P F s.st o (EV.d .bool (!neq)).av:=fun H a w r=>by
 have hv:=r.ev hx;have hv2:=r.ev hy;generalize hu:a.eval x=u at hv;generalize hu2:a.eval y=u2 at hv2;cases hv;cases hv2;refine ⟨.bool (!neq),fun w' _ => ?_,VRel.bool _ _ _ _⟩;have hu1:(Value.slice none 0 0).oneCell'=true:=rfl;have hi:(Value.slice none 0 0) ≠ .nilIface:=by simp
 cases neq
 ·simp only [Bool.false_eq_true,if_false] at hop;subst hop;simp [execOp,ho,hu,hu2,ze8 P .eql t x y _ _ _ hu1 hi,Lib.run_eql_slice_nil w' t e none 0 0 0 0 ht]
 ·simp only [if_true] at hop;subst hop;have:(binOp .neq t (.slice none 0 0) (.slice none 0 0)).run P w' = .ok (.bool false) w':=by
   simp only [binOp];simp [Op.equal,Op.maxDepth,Lib.run_equalIn_slice_nil w' 9999 t e none 0 0 0 0 ht]
  simp [execOp,ho,hu,hu2,ze8 P .neq t x y _ _ _ hu1 hi,this]
theorem zro (hT:TOK P TT) (hbo:Both bo) (hg:gE ops s o) (h:evR TT bo s o K=some q) (hk:∀ s',Sfx s s'->K s'=some q->AO P F ops rest s'.st KK):AO P F ops ((0,o)::rest) s.st KK:=by
 unfold evR at h;split at h
 ·cases h
 ·rename_i d hd;have hb:=(zaa h).1;replace h:=(zaa h).2;split at h
  ·rename_i c a b ho;split at h
   ·rename_i t hc;split at h
    ·rename_i ht;subst ht;split at h
     ·rename_i v hv;exact zej hd hb (Wk.refl s) (Sfx.refl s) hg (RO.pick_t ho (zah hc) (zah hv)) (hk _ (Sfx.set _ _ _) h)
     ·cases h
    ·rename_i ht;have ht:t=false:=by simpa using ht
     subst ht;split at h
     ·rename_i v hv;exact zej hd hb (Wk.refl s) (Sfx.refl s) hg (RO.pick_f ho (zah hc) (zah hv)) (hk _ (Sfx.set _ _ _) h)
     ·cases h
   ·cases h
  ·rename_i t parts ho;obtain ⟨z,h1,h2⟩:=zis hT ho h;obtain ⟨hw,hs⟩:=zo6 TT s (.build t parts);exact zej hd hb hw hs hg h1 (hk _ (hs.trans (Sfx.set _ _ _)) h2)
  ·rename_i op t x y t' ho;split at h
   ·rename_i te l hx hy;split at h
    ·rename_i ng e hng he;have hop:op=if ng then .neq else .eql:=by
      cases op<;>simp only [zsM,reduceCtorEq,Option.some.injEq] at hng<;>subst hng<;>rfl
     have hl:l.length=0->l=[]:=fun h=>List.length_eq_zero_iff.1 h
     refine AO.eqnil (α:=te.den) (l:=l) ng hop hd hb (by have:=hg.on (Wk.refl s);exact this) ho (zai hT he) (zah hx) (zah hy) (fun hh => ?_) (fun hh => ?_)
     ·refine hk _ (Sfx.set s d (.d .bool true)) ?_;unfold ztK at h;split at h
      ·exact hbo.l h
      ·cases ng
       ·rename_i hn;exact absurd (by rw [hh rfl];rfl) hn
       ·exact h
     ·refine hk _ (Sfx.set s d (.d .bool false)) ?_;unfold ztK at h;split at h
      ·exact hbo.r h
      ·cases ng
       ·exact h
       ·rename_i hn;exact absurd (by rw [hh rfl];rfl) hn
    ·cases h
   ·rename_i hx hy;split at h
    ·rename_i ng e hng he;have hop:op=if ng then .neq else .eql:=by
      cases op<;>simp only [zsM,reduceCtorEq,Option.some.injEq] at hng<;>subst hng<;>rfl
     exact zej hd hb (Wk.refl s) (Sfx.refl s) hg (RO.nilnil ng hop ho (zai hT he) (zah hx) (zah hy)) (hk _ (Sfx.set _ _ _) h)
    ·cases h
   ·obtain ⟨z,h1,h2⟩:=zkY hT ho h;exact zej hd hb (Wk.refl s) (Sfx.refl s) hg h1 (hk _ (Sfx.set _ _ _) h2)
  ·rename_i t x i ho;split at h
   ·rename_i hx;rw [<- ho] at h;obtain ⟨z,h1,h2⟩:=zhg (s:=s) (o:=o) hT h;exact zej hd hb (Wk.refl s) (Sfx.refl s) hg h1 (hk _ (Sfx.set _ _ _) h2)
   ·rename_i tx a k j _ hx hi;split at h
    ·rename_i n e hn;split at h
     ·rename_i te hte;split at h
      ·rename_i v hv;cases hag:te.agg with
       | true=>rw [hag] at h;cases h
       | false=>
        rw [hag] at h;simp only [cond_false] at h;obtain ⟨hj,h⟩:=zaF h;obtain ⟨rfl,rfl⟩:=zaz hv;obtain ⟨z,hz,_⟩:=zaK hT hte;exact zej hd hb (Wk.refl s) (Sfx.refl s) hg (RO.idx_val ho (ze2 hT hn) hz (zah hx) (zah hi) hj hag) (hk _ (Sfx.set _ _ _) h)
      ·cases h
     ·cases h
    ·cases h
   ·cases h
  ·rename_i t x lo hi ho;cases hbb:zpE s x && (lo.isSome || hi.isSome) with
   | true=>
    rw [hbb,cond_true] at h;obtain ⟨z,h1,h2⟩:=znQ (s:=s) (o:=o) hT ho h;exact zej hd hb (Wk.refl s) (Sfx.refl s) hg h1 (hk _ (Sfx.set _ _ _) h2)
   | false=>
    rw [hbb,cond_false,<- ho] at h;obtain ⟨hw,hs⟩:=zo6 TT s o.op;obtain ⟨z,h1,h2⟩:=zhg (s:=preR TT s o.op) (o:=o) hT h;exact zej hd hb hw hs hg h1 (hk _ (hs.trans (Sfx.set _ _ _)) h2)
  ·cases hdp:zrE s o.op with
   | true=>
    rw [hdp,cond_true] at h;obtain ⟨z,h1,h2⟩:=zqg (s:=s) (o:=o) hT h;exact zej hd hb (Wk.refl s) (Sfx.refl s) hg h1 (hk _ (Sfx.set _ _ _) h2)
   | false=>
    rw [hdp,cond_false] at h;obtain ⟨hw,hs⟩:=zo6 TT s o.op;obtain ⟨z,h1,h2⟩:=zhg (s:=preR TT s o.op) (o:=o) hT h;exact zej hd hb hw hs hg h1 (hk _ (hs.trans (Sfx.set _ _ _)) h2)
theorem zgt (hT:TOK P TT) (hG:GOK P Γ) (hbo:Both bo) (hg:gE ops s o) {c:Nat} (h:zpx TT Γ bo c o s K=some q) (hk:∀ s',Sfx s s'->K s'=some q->AO P F ops rest s'.st KK):AO P F ops ((c,o)::rest) s.st KK:=by
 match c,h with
 | 0,h=>exact zro hT hbo hg h hk
 | 1,h=>
  obtain ⟨hw0,hs0⟩:=zfT TT s o.op;obtain ⟨s0,hw,hs,hal⟩:=znC (F:=F) hT hG h
  replace hw:=hw0.trans hw
  replace hk:∀ s',Sfx (preV TT s o.op) s'->K s'=some q->AO P F ops rest s'.st KK:=fun s' h1 h2=>hk s' (hs0.trans h1) h2
  exact AO.weak (fun a w r=>hw.rel F a w r) (AO.al (hg.on hw) hal fun σ' ⟨s',h1,h2,h3⟩=>by subst h1;exact hk s' h2 h3)
 | 3,h=>
  obtain ⟨hw0,hs0⟩:=zfT TT s o.op;obtain ⟨s0,hw,hs,hef⟩:=zqh (F:=F) hT hG h
  replace hw:=hw0.trans hw
  replace hk:∀ s',Sfx (preV TT s o.op) s'->K s'=some q->AO P F ops rest s'.st KK:=fun s' h1 h2=>hk s' (hs0.trans h1) h2
  exact AO.weak (fun a w r=>hw.rel F a w r) (AO.ef (hg.on hw) hef fun σ' ⟨s',h1,h2,h3⟩=>by subst h1;exact hk s' h2 h3)
 | 2,h=>
  obtain ⟨hw0,hs0⟩:=zfT TT s o.op;obtain ⟨s0,hw,hs,hef⟩:=zdn (F:=F) hT hG h
  replace hw:=hw0.trans hw
  replace hk:∀ s',Sfx (preV TT s o.op) s'->K s'=some q->AO P F ops rest s'.st KK:=fun s' h1 h2=>hk s' (hs0.trans h1) h2
  exact AO.weak (fun a w r=>hw.rel F a w r) (AO.ef (hg.on hw) hef fun σ' ⟨s',h1,h2,h3⟩=>by subst h1;exact hk s' h2 h3)
 | 4,h=>
  obtain ⟨s0,hw,hs,hef⟩:=zrf (F:=F) hT h;exact AO.weak (fun a w r=>hw.rel F a w r) (AO.ef (hg.on hw) hef fun σ' ⟨s',h1,h2,h3⟩=>by subst h1;exact hk s' h2 h3)
 | 9,h=>
  obtain ⟨s0,hw,hs,hef⟩:=znK (F:=F) hG h;exact AO.weak (fun a w r=>hw.rel F a w r) (AO.ef (hg.on hw) hef fun σ' ⟨s',h1,h2,h3⟩=>by subst h1;exact hk s' h2 h3)
 | 10,h=>
  obtain ⟨s0,hw,hs,hef⟩:=znK (F:=F) hG h;exact AO.weak (fun a w r=>hw.rel F a w r) (AO.ef (hg.on hw) hef fun σ' ⟨s',h1,h2,h3⟩=>by subst h1;exact hk s' h2 h3)
 | 5,h=>
  have h:evE TT Γ (preV TT s o.op) o K=some q:=h;obtain ⟨hw0,hs0⟩:=zfT TT s o.op;obtain ⟨s0,hw,hs,hef⟩:=zdn (F:=F) hT hG h
  replace hw:=hw0.trans hw
  replace hk:∀ s',Sfx (preV TT s o.op) s'->K s'=some q->AO P F ops rest s'.st KK:=fun s' h1 h2=>hk s' (hs0.trans h1) h2
  exact AO.weak (fun a w r=>hw.rel F a w r) (AO.ef (hg.on hw) hef fun σ' ⟨s',h1,h2,h3⟩=>by subst h1;exact hk s' h2 h3)
 | 6,h=>
  have h:evE TT Γ (preV TT s o.op) o K=some q:=h;obtain ⟨hw0,hs0⟩:=zfT TT s o.op;obtain ⟨s0,hw,hs,hef⟩:=zdn (F:=F) hT hG h
  replace hw:=hw0.trans hw
  replace hk:∀ s',Sfx (preV TT s o.op) s'->K s'=some q->AO P F ops rest s'.st KK:=fun s' h1 h2=>hk s' (hs0.trans h1) h2
  exact AO.weak (fun a w r=>hw.rel F a w r) (AO.ef (hg.on hw) hef fun σ' ⟨s',h1,h2,h3⟩=>by subst h1;exact hk s' h2 h3)
 | 7,h=>
  have h:evE TT Γ (preV TT s o.op) o K=some q:=h;obtain ⟨hw0,hs0⟩:=zfT TT s o.op;obtain ⟨s0,hw,hs,hef⟩:=zdn (F:=F) hT hG h
  replace hw:=hw0.trans hw
  replace hk:∀ s',Sfx (preV TT s o.op) s'->K s'=some q->AO P F ops rest s'.st KK:=fun s' h1 h2=>hk s' (hs0.trans h1) h2
  exact AO.weak (fun a w r=>hw.rel F a w r) (AO.ef (hg.on hw) hef fun σ' ⟨s',h1,h2,h3⟩=>by subst h1;exact hk s' h2 h3)
 | 8,h=>
  have h:evE TT Γ (preV TT s o.op) o K=some q:=h;obtain ⟨hw0,hs0⟩:=zfT TT s o.op;obtain ⟨s0,hw,hs,hef⟩:=zdn (F:=F) hT hG h
  replace hw:=hw0.trans hw
  replace hk:∀ s',Sfx (preV TT s o.op) s'->K s'=some q->AO P F ops rest s'.st KK:=fun s' h1 h2=>hk s' (hs0.trans h1) h2
  exact AO.weak (fun a w r=>hw.rel F a w r) (AO.ef (hg.on hw) hef fun σ' ⟨s',h1,h2,h3⟩=>by subst h1;exact hk s' h2 h3)
 | 11,h=>
  obtain ⟨hw1,hs1⟩:=zsy s o.op;obtain ⟨hw0,hs0⟩:=zfT TT (zql s o.op) o.op;obtain ⟨s0,hw,hs,hef⟩:=zdn (F:=F) hT hG h
  replace hw:=(hw1.trans hw0).trans hw
  replace hk:∀ s',Sfx (preV TT (zql s o.op) o.op) s'->K s'=some q->AO P F ops rest s'.st KK:=fun s' h1 h2=>hk s' ((hs1.trans hs0).trans h1) h2
  exact AO.weak (fun a w r=>hw.rel F a w r) (AO.ef (hg.on hw) hef fun σ' ⟨s',h1,h2,h3⟩=>by subst h1;exact hk s' h2 h3)
 | c+12,h=>
  have h:evE TT Γ (preV TT s o.op) o K=some q:=h;obtain ⟨hw0,hs0⟩:=zfT TT s o.op;obtain ⟨s0,hw,hs,hef⟩:=zdn (F:=F) hT hG h
  replace hw:=hw0.trans hw
  replace hk:∀ s',Sfx (preV TT s o.op) s'->K s'=some q->AO P F ops rest s'.st KK:=fun s' h1 h2=>hk s' (hs0.trans h1) h2
  exact AO.weak (fun a w r=>hw.rel F a w r) (AO.ef (hg.on hw) hef fun σ' ⟨s',h1,h2,h3⟩=>by subst h1;exact hk s' h2 h3)
end
def zcm (TT:List TE) (Γ:List CE) (bo:Option R->Option R->Option R) (ol:List Oper):List (Nat×Oper)->ESt->(ESt->Option R)->Option R
 | [],s,K=>K s
 | (c,o)::r,s,K=>match o.guard with
  | none=>zpx TT Γ bo c o s fun s'=>zcm TT Γ bo ol r s' K
  | some (j,want)=>match (ol[j]?).bind (·.dst) with
   | none=>none
   | some t=>match s.get t with
    | some .undef=>match o.dst with
     | some d=>bif Nat.blt d s.n then zcm TT Γ bo ol r (s.set d .undef) K else none
     | none=>none
    | some (.d .bool b)=>if b=true then
      (bif want then zpx TT Γ bo c o (s.set t (.d .bool true)) fun s'=>zcm TT Γ bo ol r s' K
       else match o.dst with
        | some d=>bif Nat.blt d s.n then zcm TT Γ bo ol r ((s.set t (.d .bool true)).set d .undef) K else none
        | none=>none)
     else
      (bif want then match o.dst with
       | some d=>bif Nat.blt d s.n then zcm TT Γ bo ol r ((s.set t (.d .bool false)).set d .undef) K else none
       | none=>none
       else zpx TT Γ bo c o (s.set t (.d .bool false)) fun s'=>zcm TT Γ bo ol r s' K)
    | _=>none
section
variable {P:Program} {TT:List TE} {Γ:List CE} {bo:Option R->Option R->Option R} {F:Fr} {ops:Array Oper} {q:R} {K:ESt->Option R}
theorem zpZ {s:ESt} {t:Nat} {b c:Bool} {l:List (Nat×Oper)} {KK:St->Prop} (ht:s.get t=some (.d .bool b)) (hb:b=c) (h:AO P F ops l (s.set t (.d .bool c)).st KK):AO P F ops l s.st KK:=
 AO.say t (.d (.lit (.bool c))) (zbY ht) (by rw [hb];rfl) h
theorem zav (hT:TOK P TT) (hG:GOK P Γ) (hbo:Both bo):∀ {l:List (Nat×Oper)} {s:ESt},zcm TT Γ bo ops.toList l s K=some q->AO P F ops l s.st (fun σ=>∃ s',σ=s'.st/\Sfx s s'/\K s'=some q)
 | [],s,h=>AO.nil ⟨s,rfl,Sfx.refl s,h⟩
 | (c,o)::r,s,h=>by
  have wide:∀ {s1:ESt},Sfx s s1->AO P F ops r s1.st (fun σ=>∃ s',σ=s'.st/\Sfx s1 s'/\K s'=some q)->AO P F ops r s1.st (fun σ=>∃ s',σ=s'.st/\Sfx s s'/\K s'=some q):=by
   intro s1 hs hh a w Q rl hq;refine hh a w Q rl fun σ' a' w' ⟨s',h1,h2,h3⟩ hr=>hq σ' a' w' ⟨s',h1,hs.trans h2,h3⟩ hr
  simp only [zcm] at h;split at h
  ·rename_i hg;refine zgt hT hG hbo (by unfold gE;rw [hg];trivial) h fun s' hs' hk=>wide hs' (zav hT hG hbo hk)
  ·rename_i j want hg;have hl:ops.toList[j]? =ops[j]? :=by simp
   rw [hl] at h;split at h
   ·cases h
   ·rename_i t ht;split at h
    ·rename_i hu;split at h
     ·rename_i d hd;have hb:=(zaa h).1;replace h:=(zaa h).2;exact AO.skip hd hb (ztO t hg ht (zbY hu)) (wide (Sfx.set s d .undef) (zav hT hG hbo h))
     ·cases h
    ·rename_i b hu;split at h
     ·rename_i hb1;subst hb1;refine zpZ hu rfl ?_;have hget:(s.set t (.d .bool true)).get t=some (.d .bool true):=by rw [get_set,if_pos rfl]
      have hgon:∀ w:Bool,(true==w)=want->gOn ops (s.set t (.d .bool true)).st o (w==true):=by
       intro w hw;refine zku t true hg ht (zbY hget) ?_;cases w<;>cases want<;>simp_all
      cases want with
      | true=>
       simp only [cond_true] at h;exact zgt hT hG hbo (by unfold gE;rw [hg];exact ⟨t,ht,hget⟩) h fun s' hs' hk=>wide ((Sfx.set _ _ _).trans hs') (zav hT hG hbo hk)
      | false=>
       simp only [cond_false] at h;split at h
       ·rename_i d hd;have hb:=(zaa h).1;replace h:=(zaa h).2;exact AO.skip hd hb (zku t true hg ht (zbY hget) rfl) (wide ((Sfx.set _ _ _).trans (Sfx.set _ _ _)) (zav hT hG hbo h))
       ·cases h
     ·rename_i hb1;have hb1:b=false:=by simpa using hb1
      subst hb1;refine zpZ hu rfl ?_;have hget:(s.set t (.d .bool false)).get t=some (.d .bool false):=by rw [get_set,if_pos rfl]
      cases want with
      | true=>
       simp only [cond_true] at h;split at h
       ·rename_i d hd;have hb:=(zaa h).1;replace h:=(zaa h).2;exact AO.skip hd hb (zku t false hg ht (zbY hget) rfl) (wide ((Sfx.set _ _ _).trans (Sfx.set _ _ _)) (zav hT hG hbo h))
       ·cases h
      | false=>
       simp only [cond_false] at h;exact zgt hT hG hbo (by unfold gE;rw [hg];exact ⟨t,ht,hget⟩) h fun s' hs' hk=>wide ((Sfx.set _ _ _).trans hs') (zav hT hG hbo hk)
    ·cases h
end
end
end Go.Ab
