import Derived.Test.YtajabcfngklacaaEv40n28
set_option linter.unusedVariables false
set_option linter.unusedSimpArgs false
set_option linter.unusedSectionVars false
namespace Go.Ab
noncomputable section
open Enc (enc)
variable {R:Type}
def fldTy (TT:List TE) (t:Nat) (i:Nat):Option Nat:=match fT TT t with
 | some ⟨_,.struct fs _,_,_,_,_,_⟩=>(fs[i]?).map (·.2)
 | some ⟨_,.array _ e,_,_,_,_,_⟩=>some e
 | _=>none
def zAT:Option EV->Bool
 | some .nil=>true
 | _=>false
def ESt.datW (s:ESt) (x:Operand):ESt:=match s.ev x with
 | some (.view _ t _ _)=>s.dat x (.list t)
 | _=>s
theorem zAH (s:ESt) (x:Operand):Wk s (s.datW x)/\Sfx s (s.datW x):=by
 unfold ESt.datW;split
 ·exact ⟨zog _ _ _,Sfx.dat _ _ _⟩
 ·exact ⟨Wk.refl _,Sfx.refl _⟩
def preR (TT:List TE) (s:ESt):Op->ESt
 | .slice t x _ _ _=>bif zAT (s.ev x) then s else match zgs TT t with
  | some e=>match tyT TT e with
   | some b=>s.dat x (.list b)
   | none=>s
  | none=>s
 | .build t a=>zhH TT (fldTy TT t) s a.toList
 | .load t x=>match s.ev x with
  | some (.ptr id k)=>match fT TT t with
   | some e=>bif e.ag then s.boxDat id k e.size else s
   | none=>s
  | _=>s
 | .convert _ _ x=>s.datW x
 | .call c=>match c.callee with
  | .builtin .len=>s
  | _=>match c.args.toList with
   | [x]=>s.datW x
   | _=>s
 | _=>s
theorem zyq (TT:List TE) (s:ESt) (a:Op):Wk s (preR TT s a)/\Sfx s (preR TT s a):=by
 unfold preR;split
 ·rename_i t x _ _ _;cases zAT (s.ev x)
  case true=>exact ⟨Wk.refl _,Sfx.refl _⟩
  simp only [cond_false];split
  ·split
   ·exact ⟨zog _ _ _,Sfx.dat _ _ _⟩
   ·exact ⟨Wk.refl _,Sfx.refl _⟩
  ·exact ⟨Wk.refl _,Sfx.refl _⟩
 ·exact zkN _ _ _ _
 ·split
  ·split
   ·rename_i e _;cases e.ag
    ·exact ⟨Wk.refl _,Sfx.refl _⟩
    ·exact ⟨zmp _ _ _ _,Sfx.boxDat _ _ _ _⟩
   ·exact ⟨Wk.refl _,Sfx.refl _⟩
  ·exact ⟨Wk.refl _,Sfx.refl _⟩
 ·exact zAH _ _
 ·split
  ·exact ⟨Wk.refl _,Sfx.refl _⟩
  ·split
   ·exact zAH _ _
   ·exact ⟨Wk.refl _,Sfx.refl _⟩
 ·exact ⟨Wk.refl _,Sfx.refl _⟩
def zAY (TT:List TE) (s:ESt) (t:Nat) (x:Operand) (lo c:Option Operand) (K:EV->Option R):Option R:=match zgs TT t with
 | some e=>match tyT TT e with
  | some d=>match s.ev x with
   | some (.own id)=>match s.ent id with
    | some (.arr _ te' l)=>bif Ty.beq te' d then (match lo,c with
     | some a,some b=>match s.ev a,s.ev b with
      | some (.d (.int .i64) i),some (.d (.int .i64) j)=>G (0<=i/\i<=j/\j<=(l.length:Int)) (K (.view id te' (Int.toNat i) (Int.toNat (j - i))))
      | _,_=>none
     | some a,none=>match s.ev a with
      | some (.d (.int .i64) i)=>G (0<=i/\i<=(l.length:Int)) (K (.view id te' (Int.toNat i) (l.length - Int.toNat i)))
      | _=>none
     | none,some b=>match s.ev b with
      | some (.d (.int .i64) j)=>G (0<=j/\j<=(l.length:Int)) (K (.view id te' 0 (Int.toNat j)))
      | _=>none
     | none,none=>none) else none
    | _=>none
   | _=>none
  | none=>none
 | none=>none
def zy4 (s:ESt) (x:Operand):Bool:=match s.ev x with
 | some (.own id)=>match s.ent id with
  | some (.arr _ _ _)=>true
  | _=>false
 | _=>false
theorem zw9 {P:Program} {TT:List TE} {F:Fr} {s:ESt} {o:Oper} {K:EV->Option R} {r:R} (g:TOK P TT) {t:Nat} {x:Operand} {lo d:Option Operand} (k:o.op = .slice t x lo d none) (h:zAY TT s t x lo d K=some r):∃ z,RO P F s.st o z.av/\K z=some r:=by
 unfold zAY at h;split at h
 ·rename_i e m;split at h
  ·rename_i y v;split at h
   ·rename_i id n;split at h
    ·rename_i E c l p;have w:=(zad h).1;replace h:=(zad h).2;have:=Ty.eq_of_beq w;subst this;obtain ⟨z,u,_⟩:=zeD g v;split at h
     ·rename_i a b;split at h
      ·rename_i i j d q;obtain ⟨f,h⟩:=zdU h;exact ⟨_,RO.vw_lh (α:=c.den) k (zbv g m) u (za0 n) (zbw p) (za0 d) (za0 q) f,h⟩
      ·cases h
     ·rename_i a;split at h
      ·rename_i i d;obtain ⟨f,h⟩:=zdU h;exact ⟨_,RO.vw_l (α:=c.den) k (zbv g m) u (za0 n) (zbw p) (za0 d) f,h⟩
      ·cases h
     ·rename_i b;split at h
      ·rename_i j q;obtain ⟨f,h⟩:=zdU h;exact ⟨_,RO.vw_h (α:=c.den) k (zbv g m) u (za0 n) (zbw p) (za0 q) f,h⟩
      ·cases h
     ·cases h
    ·cases h
   ·cases h
  ·cases h
 ·cases h
structure Both (bo:Option R->Option R->Option R):Prop where
 l:∀ {a b:Option R} {q:R},bo a b=some q->a=some q
 r:∀ {a b:Option R} {q:R},bo a b=some q->b=some q
def zCv:BinOp->Option Bool
 | .eql=>some false
 | .neq=>some true
 | _=>none
def zDA (bo:Option R->Option R->Option R) (s:ESt) (n:Nat) (d:Nat) (a:Bool) (K:ESt->Option R):Option R:=
 if n=0 then bo (K (s.set d (.d .bool true))) (K (s.set d (.d .bool false))) else K (s.set d (.d .bool a))
def evR (TT:List TE) (bo:Option R->Option R->Option R) (s:ESt) (o:Oper) (K:ESt->Option R):Option R:=match o.dst with
 | none=>none
 | some d=>bif Nat.blt d s.n then (match o.op with
  | .pick c a b=>match s.ev c with
   | some (.d .bool t)=>if t=true then (match s.ev a with
     | some v=>K (s.set d v)
     | none=>none) else (match s.ev b with
     | some v=>K (s.set d v)
     | none=>none)
   | _=>none
  | .build t f=>zvV TT (preR TT s (.build t f)) t f.toList fun x=>K ((preR TT s (.build t f)).set d x)
  | .binOp g t x y _=>match s.ev x,s.ev y with
   | some (.d (.list _) l),some .nil=>match zCv g,zgs TT t with
    | some ng,some _=>zDA bo s l.length d ng K
    | _,_=>none
   | some .nil,some .nil=>match zCv g,zgs TT t with
    | some ng,some _=>K (s.set d (.d .bool (!ng)))
    | _,_=>none
   | _,_=>zCb TT s g t x y fun x=>K (s.set d x)
  | .index t x i=>match s.ev x,s.ev i with
   | some (.d .str _),_=>evRO TT s (.index t x i) fun x=>K (s.set d x)
   | some (.d tx a),some (.d (.int _) j)=>match arrT TT t with
    | some (n,e)=>match tyT TT e with
     | some k=>match zcF tx (vecT k n) a with
      | some v=>bif k.agg then none else G (0<=j/\j < (n:Int)) (K (s.set d (.d k (vget k n v j.toNat))))
      | none=>none
     | none=>none
    | none=>none
   | _,_=>none
  | .slice t x lo h none=>bif zy4 s x && (lo.isSome || h.isSome) then zAY TT s t x lo h (fun x=>K (s.set d x)) else
    evRO TT (preR TT s (.slice t x lo h none)) (.slice t x lo h none) fun y=>K ((preR TT s (.slice t x lo h none)).set d y)
  | g=>bif zA8 s g then evDR TT s g (fun x=>K (s.set d x)) else evRO TT (preR TT s g) g fun x=>K ((preR TT s g).set d x)) else none
def preV (TT:List TE) (s:ESt):Op->ESt
 | .box T x=>s.datV TT x T
 | .store t _ y=>s.datV TT y t
 | _=>s
theorem znm (TT:List TE) (s:ESt) (a:Op):Wk s (preV TT s a)/\Sfx s (preV TT s a):=by
 unfold preV;split
 ·exact zAG _ _ _ _
 ·exact zAG _ _ _ _
 ·exact ⟨Wk.refl _,Sfx.refl _⟩
def nilV (TT:List TE) (s:ESt) (y:Operand):ESt:=match s.ev y with
 | some (.fn _ c)=>zzZ TT s c
 | _=>s
theorem zDQ (TT:List TE) (s:ESt) (y:Operand):Wk s (nilV TT s y)/\Sfx s (nilV TT s y):=by
 unfold nilV;split
 ·exact zwr TT _ s
 ·exact ⟨Wk.refl _,Sfx.refl _⟩
def evE3 (TT:List TE) (Γ:List CE) (s:ESt) (o:Oper) (K:ESt->Option R):Option R:=match o.op,o.dst with
 | .store t x y,none=>zv3 TT (nilV TT s y) t x y K
 | _,_=>evE TT Γ s o K
theorem zzP {P:Program} {TT:List TE} {Γ:List CE} {F:Fr} {s:ESt} {o:Oper} {K:ESt->Option R} {q:R} (a:TOK P TT) (c:GOK P Γ) (h:evE3 TT Γ s o K=some q):∃ s0,Wk s s0/\Sfx s s0/\EF P F s0.st o (Post s K q):=by
 unfold evE3 at h;split at h
 ·rename_i t x y d e;obtain ⟨f,b⟩:=zDQ TT s y;obtain ⟨s0,g,i,j⟩:=zqA (F:=F) a e d h;exact ⟨s0,f.trans g,b.trans i,j.post fun x ⟨s',e1,e2,e3⟩=>⟨s',e1,b.trans e2,e3⟩⟩
 ·exact zjt a c h
def zyY (TT:List TE) (Γ:List CE) (bo:Option R->Option R->Option R) (c:Nat) (o:Oper) (s:ESt) (K:ESt->Option R):Option R:=match c with
 | 0=>evR TT bo s o K
 | 1=>evA TT Γ (preV TT s o.op) o K
 | 3=>evE3 TT Γ (preV TT s o.op) o K
 | 4=>evD TT s o K
 | 9=>evK TT Γ false s o K
 | 10=>evK TT Γ true s o K
 | 11=>evE TT Γ (preV TT (zzS s o.op) o.op) o K
 | _=>evE TT Γ (preV TT s o.op) o K
def gE (ops:Array Oper) (s:ESt) (o:Oper):Prop:=match o.guard with
 | none=>True
 | some (j,b)=>∃ t,(ops[j]?).bind (·.dst)=some t/\s.get t=some (.d .bool b)
section
variable {P:Program} {TT:List TE} {Γ:List CE} {bo:Option R->Option R->Option R} {F:Fr} {s:ESt} {o:Oper} {K:ESt->Option R} {q:R} {ops:Array Oper} {rest:List (Nat×Oper)} {KK:St->Prop}
theorem gE.on (h:gE ops s o) {c:ESt} (d:Wk s c):gOn ops c.st o true:=by
 unfold gE at h;cases a:o.guard with
 | none=>exact zCl a
 | some p=>
  obtain ⟨j,b⟩:=p;rw [a] at h;obtain ⟨t,e,f⟩:=h;exact ztf t b a e (zf0 (d.kd t .bool b f)) (by cases b<;>rfl)
theorem zk8 {d:Nat} (e:o.dst=some d) (b:Nat.blt d s.n=true) {s0:ESt} (c:Wk s s0) (hs:Sfx s s0) (f:gE ops s o) {x:EV} (h:RO P F s0.st o x.av) (g:AO P F ops rest (s0.set d x).st KK):AO P F ops ((0,o)::rest) s.st KK:=
 AO.weak (fun a w r=>c.rel F a w r) (AO.ro e (by show Nat.blt d s0.n=true;rw [hs.n];exact b) (f.on c) h g)
theorem RO.nilnil {h:BinOp} (b:Bool) (c:h=if b then .neq else .eql) {t t' e:TypeId} {x y:Operand} (i:o.op = .binOp h t x y t') (j:P.underlying t=some (.slice e)) (n:s.st.ev x=some .nil) (p:s.st.ev y=some .nil):RO P F s.st o (EV.d .bool (!b)).av:=fun H a w r=>by
 have k:=r.ev n;have d:=r.ev p;generalize m:a.eval x=u at k;generalize g:a.eval y=u2 at d;cases k;cases d;refine ⟨.bool (!b),fun w' _ => ?_,VRel.bool _ _ _ _⟩;have f:(Value.slice none 0 0).oneCell'=true:=rfl;have l:(Value.slice none 0 0) ≠ .nilIface:=by simp
 cases b
 ·simp only [Bool.false_eq_true,if_false] at c;subst c;simp [execOp,i,m,g,zms P .eql t x y _ _ _ f l,Lib.run_eql_slice_nil w' t e none 0 0 0 0 j]
 ·simp only [if_true] at c;subst c;have:(binOp .neq t (.slice none 0 0) (.slice none 0 0)).run P w' = .ok (.bool false) w':=by
   simp only [binOp];simp [Op.equal,Op.maxDepth,Lib.run_equalIn_slice_nil w' 9999 t e none 0 0 0 0 j]
  simp [execOp,i,m,g,zms P .neq t x y _ _ _ f l,this]
theorem zAX (A:TOK P TT) (J:Both bo) (r:gE ops s o) (h:evR TT bo s o K=some q) (g:∀ T,Sfx s T->K T=some q->AO P F ops rest T.st KK):AO P F ops ((0,o)::rest) s.st KK:=by
 unfold evR at h;split at h
 ·cases h
 ·rename_i d u;have w:=(zad h).1;replace h:=(zad h).2;split at h
  ·rename_i c a b f;split at h
   ·rename_i t hc;split at h
    ·rename_i L;subst L;split at h
     ·rename_i v M;exact zk8 u w (Wk.refl s) (Sfx.refl s) r (RO.pick_t f (za0 hc) (za0 M)) (g _ (Sfx.set _ _ _) h)
     ·cases h
    ·rename_i L;have L:t=false:=by simpa using L
     subst L;split at h
     ·rename_i v M;exact zk8 u w (Wk.refl s) (Sfx.refl s) r (RO.pick_f f (za0 hc) (za0 M)) (g _ (Sfx.set _ _ _) h)
     ·cases h
   ·cases h
  ·rename_i t C f;obtain ⟨z,m,p⟩:=zqw A f h;obtain ⟨R,hs⟩:=zyq TT s (.build t C);exact zk8 u w R hs r m (g _ (hs.trans (Sfx.set _ _ _)) p)
  ·rename_i S t x y t' f;split at h
   ·rename_i V l I W;split at h
    ·rename_i D e B X;have E:S=if D then .neq else .eql:=by
      cases S<;>simp only [zCv,reduceCtorEq,Option.some.injEq] at B<;>subst B<;>rfl
     have hl:l.length=0->l=[]:=fun h=>List.length_eq_zero_iff.1 h
     refine AO.eqnil (α:=V.den) (l:=l) D E u w (by have:=r.on (Wk.refl s);exact this) f (zbv A X) (za0 I) (za0 W) (fun U => ?_) (fun U => ?_)
     ·refine g _ (Sfx.set s d (.d .bool true)) ?_;unfold zDA at h;split at h
      ·exact J.l h
      ·cases D
       ·rename_i N;exact absurd (by rw [U rfl];rfl) N
       ·exact h
     ·refine g _ (Sfx.set s d (.d .bool false)) ?_;unfold zDA at h;split at h
      ·exact J.r h
      ·cases D
       ·exact h
       ·rename_i N;exact absurd (by rw [U rfl];rfl) N
    ·cases h
   ·rename_i I W;split at h
    ·rename_i D e B X;have E:S=if D then .neq else .eql:=by
      cases S<;>simp only [zCv,reduceCtorEq,Option.some.injEq] at B<;>subst B<;>rfl
     exact zk8 u w (Wk.refl s) (Sfx.refl s) r (RO.nilnil D E f (zbv A X) (za0 I) (za0 W)) (g _ (Sfx.set _ _ _) h)
    ·cases h
   ·obtain ⟨z,m,p⟩:=ztK A f h;exact zk8 u w (Wk.refl s) (Sfx.refl s) r m (g _ (Sfx.set _ _ _) p)
  ·rename_i t x i f;split at h
   ·rename_i I;rw [<- f] at h;obtain ⟨z,m,p⟩:=zo6 (s:=s) (o:=o) A h;exact zk8 u w (Wk.refl s) (Sfx.refl s) r m (g _ (Sfx.set _ _ _) p)
   ·rename_i tx a k j _ I Y;split at h
    ·rename_i n e N;split at h
     ·rename_i V Z;split at h
      ·rename_i v M;cases H:V.agg with
       | true=>rw [H] at h;cases h
       | false=>
        rw [H] at h;simp only [cond_false] at h;obtain ⟨hj,h⟩:=zdU h;obtain ⟨rfl,rfl⟩:=zcf M;obtain ⟨z,hz,_⟩:=zeD A Z;exact zk8 u w (Wk.refl s) (Sfx.refl s) r (RO.idx_val f (zmm A N) hz (za0 I) (za0 Y) hj H) (g _ (Sfx.set _ _ _) h)
      ·cases h
     ·cases h
    ·cases h
   ·cases h
  ·rename_i t x lo Y f;cases O:zy4 s x && (lo.isSome || Y.isSome) with
   | true=>
    rw [O,cond_true] at h;obtain ⟨z,m,p⟩:=zw9 (s:=s) (o:=o) A f h;exact zk8 u w (Wk.refl s) (Sfx.refl s) r m (g _ (Sfx.set _ _ _) p)
   | false=>
    rw [O,cond_false,<- f] at h;obtain ⟨R,hs⟩:=zyq TT s o.op;obtain ⟨z,m,p⟩:=zo6 (s:=preR TT s o.op) (o:=o) A h;exact zk8 u w R hs r m (g _ (hs.trans (Sfx.set _ _ _)) p)
  ·cases Q:zA8 s o.op with
   | true=>
    rw [Q,cond_true] at h;obtain ⟨z,m,p⟩:=zzO (s:=s) (o:=o) A h;exact zk8 u w (Wk.refl s) (Sfx.refl s) r m (g _ (Sfx.set _ _ _) p)
   | false=>
    rw [Q,cond_false] at h;obtain ⟨R,hs⟩:=zyq TT s o.op;obtain ⟨z,m,p⟩:=zo6 (s:=preR TT s o.op) (o:=o) A h;exact zk8 u w R hs r m (g _ (hs.trans (Sfx.set _ _ _)) p)
theorem zoj (m:TOK P TT) (n:GOK P Γ) (p:Both bo) (l:gE ops s o) {c:Nat} (h:zyY TT Γ bo c o s K=some q) (k:∀ b,Sfx s b->K b=some q->AO P F ops rest b.st KK):AO P F ops ((c,o)::rest) s.st KK:=by
 match c,h with
 | 0,h=>exact zAX m p l h k
 | 1,h=>
  obtain ⟨i,j⟩:=znm TT s o.op;obtain ⟨s0,d,hs,t⟩:=zwZ (F:=F) m n h
  replace d:=i.trans d
  replace k:∀ b,Sfx (preV TT s o.op) b->K b=some q->AO P F ops rest b.st KK:=fun b f g=>k b (j.trans f) g
  exact AO.weak (fun a w r=>d.rel F a w r) (AO.al (l.on d) t fun σ' ⟨b,f,g,h3⟩=>by subst f;exact k b g h3)
 | 3,h=>
  obtain ⟨i,j⟩:=znm TT s o.op;obtain ⟨s0,d,hs,e⟩:=zzP (F:=F) m n h
  replace d:=i.trans d
  replace k:∀ b,Sfx (preV TT s o.op) b->K b=some q->AO P F ops rest b.st KK:=fun b f g=>k b (j.trans f) g
  exact AO.weak (fun a w r=>d.rel F a w r) (AO.ef (l.on d) e fun σ' ⟨b,f,g,h3⟩=>by subst f;exact k b g h3)
 | 2,h=>
  obtain ⟨i,j⟩:=znm TT s o.op;obtain ⟨s0,d,hs,e⟩:=zjt (F:=F) m n h
  replace d:=i.trans d
  replace k:∀ b,Sfx (preV TT s o.op) b->K b=some q->AO P F ops rest b.st KK:=fun b f g=>k b (j.trans f) g
  exact AO.weak (fun a w r=>d.rel F a w r) (AO.ef (l.on d) e fun σ' ⟨b,f,g,h3⟩=>by subst f;exact k b g h3)
 | 4,h=>
  obtain ⟨s0,d,hs,e⟩:=zAQ (F:=F) m h;exact AO.weak (fun a w r=>d.rel F a w r) (AO.ef (l.on d) e fun σ' ⟨b,f,g,h3⟩=>by subst f;exact k b g h3)
 | 9,h=>
  obtain ⟨s0,d,hs,e⟩:=zw4 (F:=F) n h;exact AO.weak (fun a w r=>d.rel F a w r) (AO.ef (l.on d) e fun σ' ⟨b,f,g,h3⟩=>by subst f;exact k b g h3)
 | 10,h=>
  obtain ⟨s0,d,hs,e⟩:=zw4 (F:=F) n h;exact AO.weak (fun a w r=>d.rel F a w r) (AO.ef (l.on d) e fun σ' ⟨b,f,g,h3⟩=>by subst f;exact k b g h3)
 | 5,h=>
  have h:evE TT Γ (preV TT s o.op) o K=some q:=h;obtain ⟨i,j⟩:=znm TT s o.op;obtain ⟨s0,d,hs,e⟩:=zjt (F:=F) m n h
  replace d:=i.trans d
  replace k:∀ b,Sfx (preV TT s o.op) b->K b=some q->AO P F ops rest b.st KK:=fun b f g=>k b (j.trans f) g
  exact AO.weak (fun a w r=>d.rel F a w r) (AO.ef (l.on d) e fun σ' ⟨b,f,g,h3⟩=>by subst f;exact k b g h3)
 | 6,h=>
  have h:evE TT Γ (preV TT s o.op) o K=some q:=h;obtain ⟨i,j⟩:=znm TT s o.op;obtain ⟨s0,d,hs,e⟩:=zjt (F:=F) m n h
  replace d:=i.trans d
  replace k:∀ b,Sfx (preV TT s o.op) b->K b=some q->AO P F ops rest b.st KK:=fun b f g=>k b (j.trans f) g
  exact AO.weak (fun a w r=>d.rel F a w r) (AO.ef (l.on d) e fun σ' ⟨b,f,g,h3⟩=>by subst f;exact k b g h3)
 | 7,h=>
  have h:evE TT Γ (preV TT s o.op) o K=some q:=h;obtain ⟨i,j⟩:=znm TT s o.op;obtain ⟨s0,d,hs,e⟩:=zjt (F:=F) m n h
  replace d:=i.trans d
  replace k:∀ b,Sfx (preV TT s o.op) b->K b=some q->AO P F ops rest b.st KK:=fun b f g=>k b (j.trans f) g
  exact AO.weak (fun a w r=>d.rel F a w r) (AO.ef (l.on d) e fun σ' ⟨b,f,g,h3⟩=>by subst f;exact k b g h3)
 | 8,h=>
  have h:evE TT Γ (preV TT s o.op) o K=some q:=h;obtain ⟨i,j⟩:=znm TT s o.op;obtain ⟨s0,d,hs,e⟩:=zjt (F:=F) m n h
  replace d:=i.trans d
  replace k:∀ b,Sfx (preV TT s o.op) b->K b=some q->AO P F ops rest b.st KK:=fun b f g=>k b (j.trans f) g
  exact AO.weak (fun a w r=>d.rel F a w r) (AO.ef (l.on d) e fun σ' ⟨b,f,g,h3⟩=>by subst f;exact k b g h3)
 | 11,h=>
  obtain ⟨u,v⟩:=zCg s o.op;obtain ⟨i,j⟩:=znm TT (zzS s o.op) o.op;obtain ⟨s0,d,hs,e⟩:=zjt (F:=F) m n h
  replace d:=(u.trans i).trans d
  replace k:∀ b,Sfx (preV TT (zzS s o.op) o.op) b->K b=some q->AO P F ops rest b.st KK:=fun b f g=>k b ((v.trans j).trans f) g
  exact AO.weak (fun a w r=>d.rel F a w r) (AO.ef (l.on d) e fun σ' ⟨b,f,g,h3⟩=>by subst f;exact k b g h3)
 | c+12,h=>
  have h:evE TT Γ (preV TT s o.op) o K=some q:=h;obtain ⟨i,j⟩:=znm TT s o.op;obtain ⟨s0,d,hs,e⟩:=zjt (F:=F) m n h
  replace d:=i.trans d
  replace k:∀ b,Sfx (preV TT s o.op) b->K b=some q->AO P F ops rest b.st KK:=fun b f g=>k b (j.trans f) g
  exact AO.weak (fun a w r=>d.rel F a w r) (AO.ef (l.on d) e fun σ' ⟨b,f,g,h3⟩=>by subst f;exact k b g h3)
end
def zhq (TT:List TE) (Γ:List CE) (bo:Option R->Option R->Option R) (a:List Oper):List (Nat×Oper)->ESt->(ESt->Option R)->Option R
 | [],s,K=>K s
 | (c,o)::r,s,K=>match o.guard with
  | none=>zyY TT Γ bo c o s fun e=>zhq TT Γ bo a r e K
  | some (j,want)=>match (a[j]?).bind (·.dst) with
   | none=>none
   | some t=>match s.get t with
    | some .undef=>match o.dst with
     | some d=>bif Nat.blt d s.n then zhq TT Γ bo a r (s.set d .undef) K else none
     | none=>none
    | some (.d .bool b)=>if b=true then
      (bif want then zyY TT Γ bo c o (s.set t (.d .bool true)) fun e=>zhq TT Γ bo a r e K
       else match o.dst with
        | some d=>bif Nat.blt d s.n then zhq TT Γ bo a r ((s.set t (.d .bool true)).set d .undef) K else none
        | none=>none)
     else
      (bif want then match o.dst with
       | some d=>bif Nat.blt d s.n then zhq TT Γ bo a r ((s.set t (.d .bool false)).set d .undef) K else none
       | none=>none
       else zyY TT Γ bo c o (s.set t (.d .bool false)) fun e=>zhq TT Γ bo a r e K)
    | _=>none
section
variable {P:Program} {TT:List TE} {Γ:List CE} {bo:Option R->Option R->Option R} {F:Fr} {ops:Array Oper} {q:R} {K:ESt->Option R}
theorem zzr {s:ESt} {t:Nat} {b c:Bool} {l:List (Nat×Oper)} {KK:St->Prop} (a:s.get t=some (.d .bool b)) (d:b=c) (h:AO P F ops l (s.set t (.d .bool c)).st KK):AO P F ops l s.st KK:=
 AO.say t (.d (.lit (.bool c))) (zf0 a) (by rw [d];rfl) h
theorem zbc (n:TOK P TT) (p:GOK P Γ) (f:Both bo):∀ {l:List (Nat×Oper)} {s:ESt},zhq TT Γ bo ops.toList l s K=some q->AO P F ops l s.st (fun σ=>∃ g,σ=g.st/\Sfx s g/\K g=some q)
 | [],s,h=>AO.nil ⟨s,rfl,Sfx.refl s,h⟩
 | (c,o)::r,s,h=>by
  have wide:∀ {y:ESt},Sfx s y->AO P F ops r y.st (fun σ=>∃ g,σ=g.st/\Sfx y g/\K g=some q)->AO P F ops r y.st (fun σ=>∃ g,σ=g.st/\Sfx s g/\K g=some q):=by
   intro y hs D a w Q E H;refine D a w Q E fun σ' a' w' ⟨g,h1,h2,h3⟩ hr=>H σ' a' w' ⟨g,h1,hs.trans h2,h3⟩ hr
  simp only [zhq] at h;split at h
  ·rename_i u;refine zoj n p f (by unfold gE;rw [u];trivial) h fun g k x=>wide k (zbc n p f x)
  ·rename_i j i u;have I:ops.toList[j]? =ops[j]? :=by simp
   rw [I] at h;split at h
   ·cases h
   ·rename_i t v;split at h
    ·rename_i B;split at h
     ·rename_i d z;have A:=(zad h).1;replace h:=(zad h).2;exact AO.skip z A (zDG t u v (zf0 B)) (wide (Sfx.set s d .undef) (zbc n p f h))
     ·cases h
    ·rename_i b B;split at h
     ·rename_i m;subst m;refine zzr B rfl ?_;have e:(s.set t (.d .bool true)).get t=some (.d .bool true):=by rw [get_set,if_pos rfl]
      have C:∀ w:Bool,(true==w)=i->gOn ops (s.set t (.d .bool true)).st o (w==true):=by
       intro w J;refine ztf t true u v (zf0 e) ?_;cases w<;>cases i<;>simp_all
      cases i with
      | true=>
       simp only [cond_true] at h;exact zoj n p f (by unfold gE;rw [u];exact ⟨t,v,e⟩) h fun g k x=>wide ((Sfx.set _ _ _).trans k) (zbc n p f x)
      | false=>
       simp only [cond_false] at h;split at h
       ·rename_i d z;have A:=(zad h).1;replace h:=(zad h).2;exact AO.skip z A (ztf t true u v (zf0 e) rfl) (wide ((Sfx.set _ _ _).trans (Sfx.set _ _ _)) (zbc n p f h))
       ·cases h
     ·rename_i m;have m:b=false:=by simpa using m
      subst m;refine zzr B rfl ?_;have e:(s.set t (.d .bool false)).get t=some (.d .bool false):=by rw [get_set,if_pos rfl]
      cases i with
      | true=>
       simp only [cond_true] at h;split at h
       ·rename_i d z;have A:=(zad h).1;replace h:=(zad h).2;exact AO.skip z A (ztf t false u v (zf0 e) rfl) (wide ((Sfx.set _ _ _).trans (Sfx.set _ _ _)) (zbc n p f h))
       ·cases h
      | false=>
       simp only [cond_false] at h;exact zoj n p f (by unfold gE;rw [u];exact ⟨t,v,e⟩) h fun g k x=>wide ((Sfx.set _ _ _).trans k) (zbc n p f x)
    ·cases h
end
end
end Go.Ab
