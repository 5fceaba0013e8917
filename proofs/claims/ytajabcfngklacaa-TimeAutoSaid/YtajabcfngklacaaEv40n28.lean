import Derived.Test.YtajabcfngklacaaEv40n14
set_option linter.unusedVariables false
set_option linter.unusedSimpArgs false
set_option linter.unusedSectionVars false
namespace Go.Ab
noncomputable section
open Enc (enc)
variable {R:Type}
def zwh (s:ESt):Option EV->Bool
 | some (.own id)=>match s.ent id with
  | some (.out _ _)=>true
  | _=>false
 | some (.eptr id _ _ _)=>match s.ent id with
  | some (.out _ _)=>true
  | _=>false
 | some (.row _ _ _)=>true
 | some (.reptr _ _ _ _ _)=>true
 | _=>false
def zA8 (s:ESt):Op->Bool
 | .indexAddr _ x _=>zwh s (s.ev x)
 | .load _ x=>zwh s (s.ev x)
 | .fieldAddr _ x _=>zwh s (s.ev x)
 | .call c=>match c.callee,c.args.toList with
  | .builtin .len,[x]=>zwh s (s.ev x)
  | _,_=>false
 | _=>false
def evDR (TT:List TE) (s:ESt) (a:Op) (K:EV->Option R):Option R:=bif Nat.beq s.n 0 && Nat.beq s.n 1 then K .any else none
section
variable {P:Program} {TT:List TE} {F:Fr} {s:ESt} {o:Oper} {K:EV->Option R} {r:R}
theorem zzO (b:TOK P TT) (h:evDR TT s o.op K=some r):∃ z,RO P F s.st o z.av/\K z=some r:=by unfold evDR at h;obtain ⟨a,e⟩:=zad h;simp only [Bool.and_eq_true] at a;have c:=Nat.eq_of_beq_eq_true a.1;have d:=Nat.eq_of_beq_eq_true a.2;omega
end
def deepT (TT:List TE) (t:Nat):Option (Nat×Nat×Ty):=match zgs TT t with
 | some e=>match zgs TT e with
  | some E1=>match tyT TT E1,tyT TT e with
   | some te,some u=>bif Ty.beq u (.list te) && Nat.blt 0 te.sz then some (e,E1,te) else none
   | _,_=>none
  | none=>none
 | none=>none
def ESt.up (s:ESt) (d:Nat):ESt:=⟨s.n,(d,.own s.nxt)::s.slots,s.heap,s.nxt+1,s.rws⟩
def ESt.upD (s:ESt) (d k:Nat):ESt:=⟨s.n,(d,.own s.nxt)::s.slots,(k,none)::s.heap,s.nxt+1,s.rws⟩
theorem Sfx.famS (s:ESt) (k E E1:Nat) (t:Ty) (l:List (List t.den)) (a os:List Nat):Sfx s (s.famS k E E1 t l a os):=
 ⟨⟨[],rfl⟩,⟨(k,some (.out s.nxt E))::os.map fun o=>(o,none),rfl⟩,⟨(s.nxt,some ⟨E1,t,l,none⟩)::a.map fun f=>(f,none),rfl⟩,Nat.le_succ _,rfl⟩
theorem Sfx.up (s:ESt) (d:Nat):Sfx s (s.up d):=⟨⟨[_],rfl⟩,⟨[],rfl⟩,⟨[],rfl⟩,Nat.le_succ _,rfl⟩
theorem Sfx.upD (s:ESt) (d k:Nat):Sfx s (s.upD d k):=⟨⟨[_],rfl⟩,⟨[_],rfl⟩,⟨[],rfl⟩,Nat.le_succ _,rfl⟩
def evDAppO (TT:List TE) (s:ESt) (x y:Operand) (t d:Nat) (K:ESt->Option R):Option R:=match deepT TT t with
 | some (e,E1,te)=>match s.ev y with
  | some (.own k2)=>match s.ent k2 with
   | some (.out f2 _)=>match zrj s f2 with
    | some a=>match zcF (.list (.list a.t)) (.list (.list te)) a.l with
     | some l2=>bif Nat.blt (s.nxt+1) LIM && Nat.blt d s.n && Nat.beq a.E E1 then (match s.ev x with
      | some .nil=>bif znT (s.up d) s.nxt [f2] [k2] then G (room ([]:List (List te.den)) l2 24) (K ((s.up d).famS s.nxt e E1 te l2 [f2] [k2])) else none
      | some (.own k)=>match s.ent k with
       | some (.out f E)=>match zrj s f with
        | some b=>match zcF (.list (.list b.t)) (.list (.list te)) b.l with
         | some l1=>bif Nat.beq b.E E1 && Nat.beq E e && !(Nat.beq k k2) && !(Nat.beq f f2) && znT (s.upD d k) s.nxt [f,f2] [k2] then
           G (room l1 l2 24) (K ((s.upD d k).famS s.nxt e E1 te (l1++l2) [f,f2] [k2])) else none
         | none=>none
        | none=>none
       | _=>none
      | _=>none) else none
     | none=>none
    | none=>none
   | _=>none
  | _=>none
 | none=>none
def evD (TT:List TE) (s:ESt) (o:Oper) (K:ESt->Option R):Option R:=bif Nat.beq s.n 0 && Nat.beq s.n 1 then K s else none
section
variable {P:Program} {TT:List TE} {F:Fr} {s:ESt} {o:Oper} {K:ESt->Option R} {q:R}
theorem zAQ (b:TOK P TT) (h:evD TT s o K=some q):∃ s0,Wk s s0/\Sfx s s0/\EF P F s0.st o (Post s K q):=by unfold evD at h;obtain ⟨a,e⟩:=zad h;simp only [Bool.and_eq_true] at a;have c:=Nat.eq_of_beq_eq_true a.1;have d:=Nat.eq_of_beq_eq_true a.2;omega
end
def ESt.cellUp (s:ESt) (id j T:Nat) (cs:List EV):ESt:=⟨s.n,s.slots,(id,some (.box T (cs.set j (.own s.nxt))))::s.heap,s.nxt+1,s.rws⟩
def ESt.nil1D (s:ESt) (id j E E1:Nat) (t:Ty):ESt:=match s.ent id with
 | some (.box T cs)=>match cs[j]? with
  | some .nil=>bif Nat.blt (s.nxt+1) LIM && Nat.blt 0 t.sz && znT (s.cellUp id j T cs) s.nxt [] [] then (s.cellUp id j T cs).famS s.nxt E E1 t [] [] [] else s
  | _=>s
 | _=>s
theorem zth (s:ESt) (id j E E1:Nat) (t:Ty):Wk s (s.nil1D id j E E1 t)/\Sfx s (s.nil1D id j E E1 t):=by
 unfold ESt.nil1D;split
 ·rename_i T cs n;split
  ·rename_i f;have g:(EV.avL cs)[j]? =some .nil:=by rw [zhf,List.getElem?_map,f];rfl
   cases p:Nat.blt (s.nxt+1) LIM && Nat.blt 0 t.sz && znT (s.cellUp id j T cs) s.nxt [] [] with
   | false=>exact ⟨Wk.refl _,Sfx.refl _⟩
   | true=>
    simp only [Bool.and_eq_true] at p;obtain ⟨⟨c,h⟩,b3⟩:=p;have c:s.nxt+1 < LIM:=by simpa using c
    have h:0 < t.sz:=by simpa using h
    have l:Sfx s (s.cellUp id j T cs):=⟨⟨[],rfl⟩,⟨[_],rfl⟩,⟨[],rfl⟩,Nat.le_succ _,rfl⟩;refine ⟨⟨fun F a w ⟨H,r⟩ => ?_,fun k t x b=>b⟩,l.trans (Sfx.famS _ _ _ _ _ _ _ _)⟩;have m:id≠s.nxt:=fun e=>by
     obtain ⟨v,u,_⟩:=r.ent id _ (zbw n);have y:=r.fresh0 s.nxt (Nat.le_refl _) (show s.st.nxt < LIM by show s.nxt < LIM;omega);rw [e,y] at u;cases u
    have z:=r.nilcellE (e0 := .out E 24 []) (by show s.nxt < LIM;omega) (fun w _ _ => .out E 24 [] _ [] (zgL.of_row (World.ownsRow_nil w 0 E 1)) (by simp [most]) (by simp)) (zbw n) g;rw [cond_true];refine zCe (s:=s.cellUp id j T cs) (σ:=(s.st.new (.out E 24 [])).put id (some (.box T ((EV.avL cs).set j (.own s.st.nxt))))) (cells:=[]) b3 (by show s.nxt+1 < LIM;exact c) (by unfold LIM at c;unfold RB;omega) h rfl rfl (fun q=>rfl) ?_ rfl (fun i e' d _ _ b => ?_) (fun j f=>absurd f (by simp)) (fun i j o d=>absurd d (by simp)) ⟨_,z⟩
    ·rw [St.ent_put,if_neg m,St.ent_new,if_pos (show s.st.nxt=s.nxt from rfl)]
    ·rw [zbC] at b;show _=some e';rw [St.ent_put];have b:(match look ((id,some (.box T (cs.set j (.own s.nxt))))::s.heap) i with
      | some e=>e.map (EEnt.ent s.rws)
      | none=>zbi s.rws i)=some e':=b
     rw [zan] at b;by_cases e:id=i
     ·rw [if_pos e] at b ⊢;simp only [Option.map_some,Option.some.injEq] at b;rw [<- b];simp only [EEnt.ent,zp2];rfl
     ·rw [if_neg e] at b ⊢;rw [St.ent_new,if_neg (show ¬ s.st.nxt=i from fun e=>d e.symm),zbC];exact b
  ·exact ⟨Wk.refl _,Sfx.refl _⟩
 ·exact ⟨Wk.refl _,Sfx.refl _⟩
def ESt.nilBD (TT:List TE) (id T:Nat):Nat->ESt->ESt
 | 0,s=>s
 | j+1,s=>match zEP TT T j with
  | some (E,.list t)=>match zDt TT E with
   | some (E1,_)=>(ESt.nilBD TT id T j s).nil1D id j E E1 t
   | none=>ESt.nilBD TT id T j s
  | some (E,t)=>(ESt.nilBD TT id T j s).nil1 id j E t
  | none=>ESt.nilBD TT id T j s
theorem zze (TT:List TE) (id T:Nat):∀ (j:Nat) (s:ESt),Wk s (ESt.nilBD TT id T j s)/\Sfx s (ESt.nilBD TT id T j s)
 | 0,s=>⟨Wk.refl _,Sfx.refl _⟩
 | j+1,s=>by
  obtain ⟨a,b⟩:=zze TT id T j s;simp only [ESt.nilBD];split
  ·split
   ·exact ⟨a.trans (zth _ _ _ _ _ _).1,b.trans (zth _ _ _ _ _ _).2⟩
   ·exact ⟨a,b⟩
  ·exact ⟨a.trans (zwq _ _ _ _ _).1,b.trans (zwq _ _ _ _ _).2⟩
  ·exact ⟨a,b⟩
def zwj (TT:List TE) (nil:Bool):ESt->List Operand->ESt
 | s,[]=>s
 | s,x::r=>match s.ev x with
  | some (.view _ t _ _)=>zwj TT nil (s.dat x (.list t)) r
  | some (.ptr id _)=>bif nil then (match s.ent id with
   | some (.box T cs)=>zwj TT nil (ESt.nilBD TT id T cs.length s) r
   | _=>zwj TT nil s r) else zwj TT nil s r
  | _=>zwj TT nil s r
theorem zpb (TT:List TE) (nil:Bool):∀ (l:List Operand) (s:ESt),Wk s (zwj TT nil s l)/\Sfx s (zwj TT nil s l)
 | [],s=>⟨Wk.refl s,Sfx.refl s⟩
 | x::r,s=>by
  simp only [zwj];split
  ·rename_i t _ _ _;obtain ⟨a,b⟩:=zpb TT nil r (s.dat x (.list t));exact ⟨(zog s x _).trans a,(Sfx.dat s x _).trans b⟩
  ·rename_i id _ _;cases nil with
   | true=>
    rw [cond_true];split
    ·rename_i T cs _;obtain ⟨d,c⟩:=zze TT id T cs.length s;obtain ⟨a,b⟩:=zpb TT true r (ESt.nilBD TT id T cs.length s);exact ⟨d.trans a,c.trans b⟩
    ·exact zpb TT true r s
   | false=>exact zpb TT false r s
  ·exact zpb TT nil r s
def evK (TT:List TE) (Γ:List CE) (nil:Bool) (s:ESt) (o:Oper) (K:ESt->Option R):Option R:=match o.op,o.dst with
 | .call c,some d=>match c.callee with
  | .value f=>zvW TT Γ (zwj TT nil s c.args.toList) f c.args d false K
  | _=>none
 | _,_=>none
theorem zw4 {P:Program} {TT:List TE} {Γ:List CE} {F:Fr} {s:ESt} {o:Oper} {K:ESt->Option R} {q:R} (e:GOK P Γ) {nil:Bool} (h:evK TT Γ nil s o K=some q):∃ s0,Wk s s0/\Sfx s s0/\EF P F s0.st o (Post s K q):=by
 unfold evK at h;split at h
 ·rename_i c d i j;split at h
  ·rename_i f k;obtain ⟨l,b⟩:=zpb TT nil c.args.toList s;refine ⟨_,l,b,fun a w r=>Oper.wp_mono2 (fun n w' g => ?_) (fun _ _ _ h=>h) (zqx e j (ts:=c.argTypes) (by rw [i,<- k]) h a w r)⟩;obtain ⟨⟨m,_⟩,σ',⟨s',e1,e2,e3⟩,g3⟩:=g;exact ⟨m,σ',⟨s',e1,b.trans e2,e3⟩,g3⟩
  ·cases h
 ·cases h
def ESt.flatR (s:ESt) (x:Operand):ESt:=match s.ev x with
 | some (.own id)=>match s.ent id with
  | some (.out f E)=>match look s.rws f with
   | some (some r)=>bif r.hole.isNone && znT s id [f] [] && Nat.blt f RB then s.frzR id f E r.t r.l else s
   | _=>s
  | _=>s
 | _=>s
theorem zCh (s:ESt) (x:Operand):Wk s (s.flatR x)/\Sfx s (s.flatR x):=by
 unfold ESt.flatR;split
 ·rename_i id e;split
  ·rename_i f E g;split
   ·rename_i r h;cases c:r.hole.isNone && znT s id [f] [] && Nat.blt f RB with
    | false=>rw [cond_false];exact ⟨Wk.refl _,Sfx.refl _⟩
    | true=>
     rw [cond_true];simp only [Bool.and_eq_true] at c;obtain ⟨⟨i,j⟩,b3⟩:=c;obtain ⟨E1,t,l,b⟩:=r;have:b=none:=by cases b;rfl;cases i
     subst this;exact ⟨⟨fun F a w ⟨H,r⟩=>⟨H,zCj j (by simpa using b3) g h r⟩,fun k t x d=>d⟩,⟨⟨[],rfl⟩,⟨[(id,some (.arr E (.list t) l))],rfl⟩,⟨[(f,none)],rfl⟩,Nat.le_refl _,rfl⟩⟩
   ·exact ⟨Wk.refl _,Sfx.refl _⟩
  ·exact ⟨Wk.refl _,Sfx.refl _⟩
 ·exact ⟨Wk.refl _,Sfx.refl _⟩
def zzS (s:ESt):Op->ESt
 | .call c=>match c.args.toList with
  | x::_=>s.flatR x
  | _=>s
 | _=>s
theorem zCg (s:ESt) (o:Op):Wk s (zzS s o)/\Sfx s (zzS s o):=by
 unfold zzS;split
 ·split
  ·exact zCh s _
  ·exact ⟨Wk.refl _,Sfx.refl _⟩
 ·exact ⟨Wk.refl _,Sfx.refl _⟩
end
end Go.Ab
