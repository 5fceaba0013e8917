import Derived.Test.YtmogekkikaelhaaEv40n14
set_option linter.unusedVariables false
set_option linter.unusedSimpArgs false
set_option linter.unusedSectionVars false
namespace Go.Ab
noncomputable section
open Enc (enc)
variable {R:Type}
theorem EF.conv {P:Program} {F:Fr} {σ σ1 σ2:St} {o:Oper} (h:EF P F σ o (·=σ1)) (hc:∀ a w,Rel F σ1 a w->Rel F σ2 a w):EF P F σ o (·=σ2):=
 fun a w r=>Oper.wp_mono2 (fun a' w' ⟨h0,x,h3,h4⟩=>⟨h0,σ2,rfl,by subst h3;exact hc _ _ h4⟩) (fun _ _ _ h=>h) (h a w r)
def zm2 (s:ESt):Option EV->Bool
 | some (.own id)=>match s.ent id with
  | some (.out _ _)=>true
  | _=>false
 | some (.eptr id _ _ _)=>match s.ent id with
  | some (.out _ _)=>true
  | _=>false
 | some (.row _ _ _)=>true
 | some (.reptr _ _ _ _ _)=>true
 | _=>false
def zrE (s:ESt):Op->Bool
 | .indexAddr _ x _=>zm2 s (s.ev x)
 | .load _ x=>zm2 s (s.ev x)
 | .fieldAddr _ x _=>zm2 s (s.ev x)
 | .call c=>match c.callee,c.args.toList with
  | .builtin .len,[x]=>zm2 s (s.ev x)
  | _,_=>false
 | _=>false
def zre (TT:List TE) (s:ESt) (x:Operand) (t:Nat) (K:EV->Option R):Option R:=match zbs TT t with
 | some _=>match s.ev x with
  | some (.own id)=>match s.ent id with
   | some (.out f _)=>match look s.rws f with
    | some (some r)=>K (.d (.int .i64) ((r.l.length:Nat):Int))
    | _=>none
   | _=>none
  | some (.row f _ i)=>match zeT s f with
   | some r=>G (i < r.l.length) (K (.d (.int .i64) (((r.l.getD i []).length:Nat):Int)))
   | none=>none
  | _=>none
 | none=>none
def zrd (TT:List TE) (s:ESt) (t:Nat) (x i:Operand) (K:EV->Option R):Option R:=match s.ev i with
 | some (.d (.int _) j)=>match zbs TT t with
  | some e=>match tyT TT e with
   | some te=>match s.ev x with
    | some (.own id)=>match s.ent id with
     | some (.out f _)=>match look s.rws f with
      | some (some r)=>bif Ty.beq te (.list r.t) then G (0<=j/\j < (r.l.length:Int)) (K (.eptr id te (Int.toNat j) 0)) else none
      | _=>none
     | _=>none
    | some (.row f _ i')=>match zeT s f with
     | some r=>bif Ty.beq te r.t then G (0<=j/\j < ((r.l.getD i' []).length:Int)) (K (.reptr f te i' (Int.toNat j) 0)) else none
     | none=>none
    | _=>none
   | none=>none
  | none=>none
 | _=>none
def zoM (TT:List TE) (s:ESt) (t:Nat) (x:Operand) (K:EV->Option R):Option R:=match tyT TT t with
 | some u=>match s.ev x with
  | some (.eptr id te j k)=>match s.ent id with
   | some (.out f _)=>match look s.rws f with
    | some (some r)=>bif Ty.beq te u && Ty.beq u (.list r.t) && Nat.beq k 0 then G (j < r.l.length) (K (.row f r.t j)) else none
    | _=>none
   | _=>none
  | some (.reptr f te i j k)=>match zeT s f with
   | some r=>bif Ty.beq te r.t then (match zly r.t ((r.l.getD i []).getD j r.t.dflt) k u with
    | some y=>bif Nat.ble (k+u.sz) r.t.sz then G (j < (r.l.getD i []).length) (K (.d u y)) else none
    | none=>none) else none
   | none=>none
  | _=>none
 | none=>none
def evDR (TT:List TE) (s:ESt) (op:Op) (K:EV->Option R):Option R:=match op with
 | .call c=>match c.callee,c.args.toList,c.argTypes.toList with
  | .builtin .len,[x],[t]=>zre TT s x t K
  | _,_,_=>none
 | .indexAddr t x i=>zrd TT s t x i K
 | .load t x=>zoM TT s t x K
 | .fieldAddr st x i=>match fldT TT st i with
  | some (off,_,_)=>match s.ev x with
   | some (.reptr f te a j k)=>K (.reptr f te a j (k+off))
   | _=>none
  | none=>none
 | _=>none
section
variable {P:Program} {TT:List TE} {F:Fr} {s:ESt} {o:Oper} {K:EV->Option R} {r:R}
theorem zs1 {j:Int} {n:Nat} (h:0<=j/\j < n):Int.toNat j < n:=by omega
theorem zmX {α:Type} {l:List (List α)} {i j:Nat} (h:j < (l.getD i []).length):i < l.length:=by
 apply Decidable.byContradiction;intro hn;rw [List.getD_eq_getElem?_getD,List.getElem?_eq_none (by omega)] at h;simp at h
theorem znG (hT:TOK P TT) {x:Operand} {t:Nat} (ho:o.op = .call { callee := .builtin .len,args:=#[x],argTypes:=#[t] }) (h:zre TT s x t K=some r):∃ z,RO P F s.st o z.av/\K z=some r:=by
 unfold zre at h;split at h
 ·rename_i e he;split at h
  ·rename_i id h1;split at h
   ·rename_i f E h2;split at h
    ·rename_i rw h3;refine ⟨_,?_,h⟩;have:=RO.len_out (P:=P) (F:=F) ho (zai hT he) (zah h1) (zic h2 h3);rw [zbj] at this;exact this
    ·cases h
   ·cases h
  ·rename_i f t' i h1;split at h
   ·rename_i rw hw;obtain ⟨h3,h4,h5,h6⟩:=zbU hw;obtain ⟨hg,h⟩:=zaF h;exact ⟨_,RO.len_own (α:=rw.t.den) ho (zai hT he) (zah h1) (zcW h4 h5 h3 (by rw [h6];simp) hg),h⟩
   ·cases h
  ·cases h
 ·cases h
theorem znF (hT:TOK P TT) {t:Nat} {x i:Operand} (ho:o.op = .indexAddr t x i) (h:zrd TT s t x i K=some r):∃ z,RO P F s.st o z.av/\K z=some r:=by
 unfold zrd at h;split at h
 ·rename_i kk j hi;split at h
  ·rename_i e he;split at h
   ·rename_i te hte;obtain ⟨z,hz,_⟩:=zaK hT hte;split at h
    ·rename_i id h1;split at h
     ·rename_i f E h2;split at h
      ·rename_i rw h3;have hb:=(zaa h).1;replace h:=(zaa h).2;have:=Ty.eq_of_beq hb;subst this;obtain ⟨hg,h⟩:=zaF h;exact ⟨_,RO.idx_out ho (zai hT he) hz (zah h1) (zic h2 h3) (zah hi) (by rw [zbj];exact hg),h⟩
      ·cases h
     ·cases h
    ·rename_i f t' i' h1;split at h
     ·rename_i rw hw;obtain ⟨h3,h4,h5,h6⟩:=zbU hw;have hb:=(zaa h).1;replace h:=(zaa h).2;have:=Ty.eq_of_beq hb;subst this;obtain ⟨hg,h⟩:=zaF h;have hil:i' < rw.l.length:=zmX (l:=rw.l) (i:=i') (j:=Int.toNat j) (zs1 hg);exact ⟨_,RO.idx_own (α:=rw.t.den) ho (zai hT he) hz (zah h1) (zcW h4 h5 h3 (by rw [h6];simp) hil) (zah hi) hg,h⟩
     ·cases h
    ·cases h
   ·cases h
  ·cases h
 ·cases h
theorem zmG (hT:TOK P TT) {t:Nat} {x:Operand} (ho:o.op = .load t x) (h:zoM TT s t x K=some r):∃ z,RO P F s.st o z.av/\K z=some r:=by
 unfold zoM at h;split at h
 ·rename_i u hu;obtain ⟨z,hz,_⟩:=zaK hT hu;split at h
  ·rename_i id te j k h1;split at h
   ·rename_i f E h2;split at h
    ·rename_i rw h3;have hb:=(zaa h).1;replace h:=(zaa h).2;simp only [Bool.and_eq_true] at hb;have:=Ty.eq_of_beq hb.1.1;subst this;have e2:=Ty.eq_of_beq hb.1.2;subst e2;have:=Nat.eq_of_beq_eq_true hb.2;subst this;obtain ⟨hg,h⟩:=zaF h;obtain ⟨dd,hd1,hd2⟩:=hz.un;exact ⟨_,RO.ld_out ho hd1 (by rw [hd2];rfl) (zah h1) (zic h2 h3) (zbA? hg),h⟩
    ·cases h
   ·cases h
  ·rename_i f te i j k h1;split at h
   ·rename_i rw hw;obtain ⟨h3,h4,h5,h6⟩:=zbU hw;have hb:=(zaa h).1;replace h:=(zaa h).2;have:=Ty.eq_of_beq hb;subst this;split at h
    ·rename_i y hy;have hle:=(zaa h).1;replace h:=(zaa h).2;obtain ⟨hg,h⟩:=zaF h;have hil:i < rw.l.length:=zmX (j:=j) hg;exact ⟨_,RO.ld_eptr_sub ho hz (zah h1) (zcW h4 h5 h3 (by rw [h6];simp) hil) hg hy (by simpa using hle),h⟩
    ·cases h
   ·cases h
  ·cases h
 ·cases h
theorem zqg (hT:TOK P TT) (h:evDR TT s o.op K=some r):∃ z,RO P F s.st o z.av/\K z=some r:=by
 unfold evDR at h;split at h
 ·rename_i c ho;split at h
  ·rename_i x t h1 h2 h3;refine znG hT ?_ h;rw [ho];obtain ⟨cc,ca,ct⟩:=c;simp only at h1 h2 h3;subst h1;rw [show ca=#[x] from Array.ext' h2,show ct=#[t] from Array.ext' h3]
  ·cases h
 ·rename_i t x i ho;exact znF hT ho h
 ·rename_i t x ho;exact zmG hT ho h
 ·rename_i st x i ho;split at h
  ·rename_i off ft e hf;obtain ⟨hf,he,rfl⟩:=zk5 hT hf;split at h
   ·rename_i f te a j k h1;exact ⟨_,RO.fld_eptr ho hf (zah h1),h⟩
   ·cases h
  ·cases h
 ·cases h
end
def zq2 (TT:List TE) (t:Nat):Option (Nat×Nat×Ty):=match zbs TT t with
 | some e=>match zbs TT e with
  | some E1=>match tyT TT E1,tyT TT e with
   | some te,some u=>bif Ty.beq u (.list te) && Nat.blt 0 te.sz then some (e,E1,te) else none
   | _,_=>none
  | none=>none
 | none=>none
theorem zji {TT:List TE} {t e E1:Nat} {te:Ty} (h:zq2 TT t=some (e,E1,te)):zbs TT t=some e/\tyT TT E1=some te/\tyT TT e=some (.list te)/\0 < te.sz:=by
 unfold zq2 at h;split at h
 ·rename_i e' h1;split at h
  ·split at h
   ·rename_i te' u h3 h4;have hb:=(zaa h).1;replace h:=(zaa h).2;simp only [Bool.and_eq_true] at hb;cases h;have:=Ty.eq_of_beq hb.1;subst this;exact ⟨h1,h3,h4,by simpa using hb.2⟩
   ·cases h
  ·cases h
 ·cases h
def ESt.up (s:ESt) (d:Nat):ESt:=⟨s.n,(d,.own s.nxt)::s.slots,s.heap,s.nxt+1,s.rws⟩
def ESt.upD (s:ESt) (d k:Nat):ESt:=⟨s.n,(d,.own s.nxt)::s.slots,(k,none)::s.heap,s.nxt+1,s.rws⟩
theorem Sfx.famS (s:ESt) (k E E1:Nat) (t:Ty) (l:List (List t.den)) (fs os:List Nat):Sfx s (s.famS k E E1 t l fs os):=
 ⟨⟨[],rfl⟩,⟨(k,some (.out s.nxt E))::os.map fun o=>(o,none),rfl⟩,⟨(s.nxt,some ⟨E1,t,l,none⟩)::fs.map fun f=>(f,none),rfl⟩,Nat.le_succ _,rfl⟩
theorem Sfx.up (s:ESt) (d:Nat):Sfx s (s.up d):=⟨⟨[_],rfl⟩,⟨[],rfl⟩,⟨[],rfl⟩,Nat.le_succ _,rfl⟩
theorem Sfx.upD (s:ESt) (d k:Nat):Sfx s (s.upD d k):=⟨⟨[_],rfl⟩,⟨[_],rfl⟩,⟨[],rfl⟩,Nat.le_succ _,rfl⟩
def zk3 (s:ESt) (te:Ty) (E1:Nat):List (Nat×Operand)->Nat->Option (List (Option Nat×List te.den))
 | [],_=>some []
 | (i,x)::r,k=>bif Nat.beq i k then (match s.ev x with
  | some (.own o)=>match s.ent o with
   | some (.arr E t l)=>bif Nat.beq E E1 then (match zaL (.list t) (.list te) l with
    | some l'=>match zk3 s te E1 r (k+1) with
     | some q=>some ((some o,l')::q)
     | none=>none
    | none=>none) else none
   | _=>none
  | some .nil=>match zk3 s te E1 r (k+1) with
   | some q=>some ((none,[])::q)
   | none=>none
  | _=>none) else none
def rowO:Option Nat->AV
 | some o => .own o
 | none => .nil
theorem zgs {s:ESt} {te:Ty} {E1:Nat}:∀ {l:List (Nat×Operand)} {k:Nat} {ps:List (Option Nat×List te.den)},zk3 s te E1 l k=some ps->
  zpn s.st l k (ps.map fun p=>rowO p.1)/\(∀ p∈ps,∀ o,p.1=some o->s.ent o=some (.arr E1 te p.2))/\(∀ p∈ps,p.1=none->p.2=[])/\ps.length=l.length
 | [],k,ps,h=>by cases h;exact ⟨rfl,by simp,by simp,rfl⟩
 | (i,x)::r,k,ps,h=>by
  simp only [zk3] at h;have hb:=(zaa h).1;replace h:=(zaa h).2;have:=Nat.eq_of_beq_eq_true hb;subst this;split at h
  ·rename_i o h1;split at h
   ·rename_i E t l h2;have hb:=(zaa h).1;replace h:=(zaa h).2;have:=Nat.eq_of_beq_eq_true hb;subst this;split at h
    ·rename_i l' hl;split at h
     ·rename_i q hq;cases h;obtain ⟨e',rfl⟩:=zaz hl;cases e';obtain ⟨g1,g2,g3,g4⟩:=zgs hq;refine ⟨⟨rfl,zah h1,rfl,g1⟩,fun p hp o' ho' => ?_,fun p hp hn => ?_,by simp [g4]⟩
      ·rcases List.mem_cons.1 hp with rfl | hp
       ·cases ho';exact h2
       ·exact g2 p hp o' ho'
      ·rcases List.mem_cons.1 hp with rfl | hp
       ·cases hn
       ·exact g3 p hp hn
     ·cases h
    ·cases h
   ·cases h
  ·rename_i h1;split at h
   ·rename_i q hq;cases h;obtain ⟨g1,g2,g3,g4⟩:=zgs hq;refine ⟨⟨rfl,zah h1,rfl,g1⟩,fun p hp o' ho' => ?_,fun p hp hn => ?_,by simp [g4]⟩
    ·rcases List.mem_cons.1 hp with rfl | hp
     ·cases ho'
     ·exact g2 p hp o' ho'
    ·rcases List.mem_cons.1 hp with rfl | hp
     ·rfl
     ·exact g3 p hp hn
   ·cases h
  ·cases h
theorem zrY {α:Type}:∀ {ps:List (Option Nat×α)},(ps.filterMap (·.1)).Nodup->∀ (i j o:Nat) (hi:i < ps.length) (hj:j < ps.length),ps[i].1=some o->ps[j].1=some o->i=j
 | [],_,i,_,_,hi,_,_,_=>absurd hi (by simp)
 | p::ps,h,i,j,o,hi,hj,h1,h2=>by
  have hps:(ps.filterMap (·.1)).Nodup:=by
   rw [List.filterMap_cons] at h;split at h
   ·exact h
   ·exact (List.nodup_cons.1 h).2
  have hout:∀ (k:Nat) (hk:k < ps.length),p.1=some o->ps[k].1=some o->False:=fun k hk e1 e2=>by
   rw [List.filterMap_cons,e1] at h;exact (List.nodup_cons.1 h).1 (List.mem_filterMap.2 ⟨_,List.getElem_mem hk,e2⟩)
  match i,j,hi,hj,h1,h2 with
  | 0,0,_,_,_,_=>rfl
  | 0,j+1,_,hj,h1,h2=>exact (hout j (by simpa using hj) h1 h2).elim
  | i+1,0,hi,_,h1,h2=>exact (hout i (by simpa using hi) h2 h1).elim
  | i+1,j+1,hi,hj,h1,h2=>exact congrArg (·+1) (zrY hps i j o (by simpa using hi) (by simpa using hj) h1 h2)
def zoN (TT:List TE) (s:ESt) (t:Nat) (l c:Operand) (d:Nat) (K:ESt->Option R):Option R:=match zq2 TT t with
 | some (e,E1,te)=>match s.ev l,s.ev c with
  | some (.d (.int .i64) m),some (.d (.int .i64) k)=>bif Nat.blt (s.nxt+1) LIM && Nat.blt d s.n && zdC (s.up d) s.nxt [] [] then
    G (mkOK m k 24) (K ((s.up d).famS s.nxt e E1 te (List.replicate (Int.toNat m) []) [] [])) else none
  | _,_=>none
 | none=>none
def zoL (TT:List TE) (s:ESt) (t n:Nat) (parts:List (Nat×Operand)) (d:Nat) (K:ESt->Option R):Option R:=match zq2 TT t with
 | some (e,E1,te)=>match zk3 s te E1 parts 0 with
  | some ps=>bif Nat.blt (s.nxt+1) LIM && Nat.blt d s.n && (Nat.beq n parts.length && Nat.ble (n * 24) most && Nat.ble n 16777216 && za0 (ps.filterMap (·.1)) && (ps.filterMap (·.1)).all (fun p => !(Nat.beq p s.nxt))) && zdC (s.up d) s.nxt [] (ps.filterMap (·.1)) then
    K ((s.up d).famS s.nxt e E1 te (ps.map (·.2)) [] (ps.filterMap (·.1))) else none
  | none=>none
 | none=>none
def zoK (TT:List TE) (s:ESt) (f i:Nat) (y:Operand) (t d:Nat) (K:ESt->Option R):Option R:=match zbs TT t with
 | some e=>match tyT TT e with
  | some te=>match zeT s f with
   | some r=>bif Nat.blt 0 te.sz && Nat.blt 0 te.bts && Nat.blt s.nxt LIM && Nat.blt d s.n && Nat.beq r.E e then (match zaL (.list r.t) (.list te) (r.l.getD i []) with
    | some xs=>zlC s y te fun ys=>G (i < r.l.length) (G (room xs ys te.bts) (K (((⟨s.n,s.slots,s.heap,s.nxt,(f,some ⟨r.E,r.t,r.l,some i⟩)::s.rws⟩:ESt).new (.arr e te (xs++ys))).set d (.own s.nxt))))
    | none=>none) else none
   | none=>none
  | none=>none
 | none=>none
def zoJ (TT:List TE) (s:ESt) (x y:Operand) (t d:Nat) (K:ESt->Option R):Option R:=match zq2 TT t with
 | some (e,E1,te)=>match s.ev y with
  | some (.own k2)=>match s.ent k2 with
   | some (.out f2 _)=>match zeT s f2 with
    | some r2=>match zaL (.list (.list r2.t)) (.list (.list te)) r2.l with
     | some l2=>bif Nat.blt (s.nxt+1) LIM && Nat.blt d s.n && Nat.beq r2.E E1 then (match s.ev x with
      | some .nil=>bif zdC (s.up d) s.nxt [f2] [k2] then G (room ([]:List (List te.den)) l2 24) (K ((s.up d).famS s.nxt e E1 te l2 [f2] [k2])) else none
      | some (.own k)=>match s.ent k with
       | some (.out f E)=>match zeT s f with
        | some r1=>match zaL (.list (.list r1.t)) (.list (.list te)) r1.l with
         | some l1=>bif Nat.beq r1.E E1 && Nat.beq E e && !(Nat.beq k k2) && !(Nat.beq f f2) && zdC (s.upD d k) s.nxt [f,f2] [k2] then
           G (room l1 l2 24) (K ((s.upD d k).famS s.nxt e E1 te (l1++l2) [f,f2] [k2])) else none
         | none=>none
        | none=>none
       | _=>none
      | _=>none) else none
     | none=>none
    | none=>none
   | _=>none
  | _=>none
 | none=>none
def zsF (i:Nat) (h:Option Nat) (k:Option R):Option R:=match h with
 | none=>k
 | some h=>G (i=h) k
def zmI (TT:List TE) (s:ESt) (t:Nat) (x y:Operand) (K:ESt->Option R):Option R:=match tyT TT t with
 | some u=>match s.ev x with
  | some (.eptr id te i k)=>match s.ent id with
   | some (.out f E)=>match look s.rws f with
    | some (some r)=>bif Ty.beq te u && Ty.beq u (.list r.t) && Nat.beq k 0 && Nat.blt f RB && Nat.blt s.nxt LIM && Nat.blt 0 r.t.sz then (match s.ev y with
     | some .nil=>bif zdC s id [f] [] then zsF i r.hole (K (s.famS id E r.E r.t (r.l.set i []) [f] [])) else none
     | some (.own o)=>match s.ent o with
      | some (.arr E' t' l')=>match zaL (.list t') (.list r.t) l' with
       | some x'=>bif Nat.beq E' r.E && zdC s id [f] [o] then zsF i r.hole (K (s.famS id E r.E r.t (r.l.set i x') [f] [o])) else none
       | none=>none
      | _=>none
     | _=>none) else none
    | _=>none
   | _=>none
  | some (.reptr f te _ _ k)=>match (s.dat y u).ev y with
   | some v=>match v.exact u with
    | some c=>match zeT (s.dat y u) f with
     | some r=>bif Ty.beq te r.t then (match (s.dat y u).ev x with
      | some (.reptr f2 te2 i2 j2 k2)=>bif Nat.beq f2 f && Ty.beq te2 r.t && Nat.beq k2 k then (match zpf r.t ((r.l.getD i2 []).getD j2 r.t.dflt) k u c with
       | some z=>G (j2 < (r.l.getD i2 []).length) (K (⟨(s.dat y u).n,(s.dat y u).slots,(s.dat y u).heap,(s.dat y u).nxt,(f,some ⟨r.E,r.t,r.l.set i2 ((r.l.getD i2 []).set j2 z),none⟩)::(s.dat y u).rws⟩:ESt))
       | none=>none) else none
      | _=>none) else none
     | none=>none
    | none=>none
   | none=>none
  | _=>none
 | none=>none
def evD (TT:List TE) (s:ESt) (o:Oper) (K:ESt->Option R):Option R:=match o.op,o.dst with
 | .makeSlice t l c,some d=>zoN TT s t l c d K
 | .buildSlice t n parts,some d=>zoL TT s t n parts.toList d K
 | .store t x y,none=>zmI TT s t x y K
 | .call c,some d=>match c.callee,c.args.toList,c.argTypes.toList with
  | .builtin .append,[x,y],[t,t']=>bif Nat.beq t t' then (match s.ev x with
   | some (.row f _ i)=>zoK TT s f i y t d K
   | _=>zoJ TT s x y t d K) else none
  | _,_,_=>none
 | _,_=>none
section
variable {P:Program} {TT:List TE} {F:Fr} {s:ESt} {o:Oper} {K:ESt->Option R} {q:R}
theorem zq3 {P:Program} {TT:List TE} (hT:TOK P TT) {e:Nat} {te:Ty} (h:tyT TT e=some (.list te)):∃ z,TI P e false 1 24 z/\z.cells=#[.slice none 0 0]:=by
 obtain ⟨z,h1,h2⟩:=zaK hT h;exact ⟨z,h1,Array.ext' h2⟩
theorem zsg (s:ESt) (d k:Nat):(s.up d).st.get k=if d=k then some (.own s.nxt) else s.st.get k:=zae _ _ _ _
theorem zuD (s:ESt) (d i k:Nat):(s.upD d i).st.get k=if d=k then some (.own s.nxt) else s.st.get k:=zae _ _ _ _
theorem zsf (s:ESt) (d i:Nat):(s.up d).st.ent i=s.st.ent i:=by
 rw [zao,zao];rfl
theorem zuC {s:ESt} {d k i:Nat} {e:Ent} (h:(s.upD d k).st.ent i=some e):i≠k/\s.st.ent i=some e:=by
 rw [zao] at h;have e1:(s.upD d k).heap=(k,none)::s.heap:=rfl;rw [e1,zae] at h;by_cases hk:k=i
 ·rw [if_pos hk] at h;cases h
 ·rw [if_neg hk] at h;refine ⟨fun e=>hk e.symm,?_⟩;rw [zao];exact h
theorem zu2 {s:ESt} {d k:Nat} {fs os:List Nat} (h:zdC (s.up d) k fs os=true):s.low=true:=by
 show (s.up d).low=true;exact zfa h
theorem ztW {k:Int} (h:k * (24:Nat)<=140737488355328):k<=9223372036854775807:=by omega
theorem low_upD {s:ESt} {d i k:Nat} {fs os:List Nat} (h:zdC (s.upD d i) k fs os=true):s.low=true/\i < RB:=by
 have:=zfa h;unfold ESt.low at this ⊢;have e1:(s.upD d i).heap=(i,none)::s.heap:=rfl;rw [e1,List.all_cons,Bool.and_eq_true] at this;exact ⟨this.2,by simpa using this.1⟩
theorem zmH (hT:TOK P TT) {t d:Nat} {l c:Operand} (hd:o.dst=some d) (ho:o.op = .makeSlice t l c) (h:zoN TT s t l c d K=some q):EF P F s.st o (Post s K q):=by
 unfold zoN at h;split at h
 ·rename_i e E1 te hde;obtain ⟨h1,h2,h3,h4⟩:=zji hde;obtain ⟨z,hz,hzc⟩:=zq3 hT h3;split at h
  ·rename_i m k hm hk;have hb:=(zaa h).1;replace h:=(zaa h).2;simp only [Bool.and_eq_true] at hb;obtain ⟨⟨g1,g2⟩,g3⟩:=hb;have g1:s.nxt+1 < LIM:=by simpa using g1
   obtain ⟨hg,h⟩:=zaF h;obtain ⟨k1,k2,k3⟩:0<=(m:Int)/\(m:Int)<=(k:Int)/\(k:Int) * (24:Nat)<=140737488355328:=hg;have k4:(k:Int)<=9223372036854775807:=ztW k3;have hbase:=(AL.make_out (P:=P) (F:=F) (σ:=s.st) s.nxt rfl (by simpa using (show s.nxt < LIM by omega)) hd g2 ho (zai hT h1) hz hzc (zah hm) (zah hk) k1 k2 k3 k4).ef;refine (EF.conv hbase (σ2:=((s.up d).famS s.nxt e E1 te (List.replicate (Int.toNat m) []) [] []).st) fun a w r => ?_).post fun x hx=>⟨_,hx,(Sfx.up _ _).trans (Sfx.famS _ _ _ _ _ _ _ _),h⟩
   refine zhh g3 g1 (by unfold LIM at g1;unfold RB;omega) h4 rfl rfl (fun i => ?_) (cells:=List.replicate (Int.toNat m) .nil) ?_ (by simp) (fun i e' hi _ _ he => ?_) (fun j hj => .inr ?_) (fun i j o' hi hj h1 h2 => ?_) r
   ·rw [zsg,St.get_set];rfl
   ·rw [St.ent_set,St.ent_new];rw [if_pos (show s.st.nxt=s.nxt from rfl)]
   ·rw [zsf] at he;rw [St.ent_set,St.ent_new];rw [if_neg (show ¬ s.st.nxt=i from fun e=>hi e.symm)];exact he
   ·have hj:j < Int.toNat m:=by simpa using hj
    simp [List.getD_eq_getElem?_getD,hj]
   ·have hi:i < Int.toNat m:=by simpa using hi
    simp [List.getD_eq_getElem?_getD,hi] at h1
  ·cases h
 ·cases h
theorem zmF (hT:TOK P TT) {t n d:Nat} {parts:Array (Nat×Operand)} (hd:o.dst=some d) (ho:o.op = .buildSlice t n parts) (h:zoL TT s t n parts.toList d K=some q):EF P F s.st o (Post s K q):=by
 unfold zoL at h;split at h
 ·rename_i e E1 te hde;obtain ⟨h1,h2,h3,h4⟩:=zji hde;obtain ⟨z,hz,hzc⟩:=zq3 hT h3;split at h
  ·rename_i ps hps;have hb:=(zaa h).1;replace h:=(zaa h).2;simp only [Bool.and_eq_true] at hb;obtain ⟨⟨⟨g1,g2⟩,⟨⟨⟨⟨b1,b2⟩,b3⟩,b4⟩,b5⟩⟩,g3⟩:=hb;have g1:s.nxt+1 < LIM:=by simpa using g1
   obtain ⟨p1,p2,pn,p3⟩:=zgs hps;have hn:n=ps.length:=by rw [p3];simpa using Nat.eq_of_beq_eq_true b1
   have hbase:=(AL.lits_out (P:=P) (F:=F) (σ:=s.st) (bs:=24) s.nxt rfl (by simpa using (show s.nxt < LIM by omega)) hd g2 ho (zai hT h1) hz p1 (by simpa using hn) b2 b3).ef;have hnd:=zee b4;have hcell:∀ (j:Nat) (hj:j < ps.length),(ps.map fun p=>rowO p.1).getD j default=rowO (ps[j]).1:=fun j hj=>by simp [List.getD_eq_getElem?_getD,hj]
   refine (EF.conv hbase (σ2:=((s.up d).famS s.nxt e E1 te (ps.map (·.2)) [] (ps.filterMap (·.1))).st) fun a w r => ?_).post fun x hx=>⟨_,hx,(Sfx.up _ _).trans (Sfx.famS _ _ _ _ _ _ _ _),h⟩
   have hlow:=zu2 g3;have hne:∀ p∈ps,∀ o,p.1=some o->o≠s.nxt:=fun p hp o ho e=>by
    have:=List.all_eq_true.1 b5 o (List.mem_filterMap.2 ⟨p,hp,ho⟩);rw [e] at this;simp at this
   refine zhh g3 g1 (by unfold LIM at g1;unfold RB;omega) h4 rfl rfl (fun i => ?_) (cells:=ps.map fun p=>rowO p.1) ?_ (by simp) (fun i e' hi _ _ he => ?_) (fun j hj => ?_) (fun i j o' hi hj h1 h2 => ?_) r
   ·rw [zsg,St.get_set];rfl
   ·rw [St.ent_set,St.ent_new];rw [if_pos (show s.st.nxt=s.nxt from rfl)]
   ·rw [zsf] at he;rw [St.ent_set,St.ent_new];rw [if_neg (show ¬ s.st.nxt=i from fun e=>hi e.symm)];exact he
   ·have hj:j < ps.length:=by simpa using hj
    have hm:=List.getElem_mem hj;cases hp1:(ps[j]).1 with
    | some o'=>
     refine .inl ⟨o',by rw [hcell j hj,hp1];rfl,?_,.inl (List.mem_filterMap.2 ⟨_,hm,hp1⟩)⟩;rw [St.ent_set,St.ent_new,if_neg (show ¬ s.st.nxt=_ from fun e=>hne _ hm o' hp1 e.symm),zat (p2 _ hm o' hp1)];simp [List.getD_eq_getElem?_getD,hj];rfl
    | none=>
     refine .inr ⟨by rw [hcell j hj,hp1];rfl,?_⟩;have:=pn _ hm hp1;simp [List.getD_eq_getElem?_getD,hj,this]
   ·have hi:i < ps.length:=by simpa using hi
    have hj:j < ps.length:=by simpa using hj
    rw [hcell i hi] at h1;rw [hcell j hj] at h2;cases hp1:(ps[i]).1 with
    | none=>rw [hp1] at h1;cases h1
    | some o1=>
     cases hp2:(ps[j]).1 with
     | none=>rw [hp2] at h2;cases h2
     | some o2=>
      rw [hp1] at h1;rw [hp2] at h2;have h1:AV.own o1 = .own o':=h1;have h2:AV.own o2 = .own o':=h2;injection h1 with h1
      injection h2 with h2
      subst h1;rw [h2] at hp2;exact zrY hnd i j o1 hi hj hp1 hp2
  ·cases h
 ·cases h
theorem zod {s:ESt} {f:Nat} {r r':RW} (hlow:s.low=true) (hr:look s.rws f=some (some r)) (hlen:r'.l.length=r.l.length) {j:Nat} {e:Ent}
  (h:(⟨s.n,s.slots,s.heap,s.nxt,(f,some r')::s.rws⟩:ESt).st.ent j=some e):(∃ x,j=rid f x/\r'.ent x=some e)\/((RB<=j->j % RB≠f)/\s.st.ent j=some e):=by
 rw [zao] at h;have hh:(⟨s.n,s.slots,s.heap,s.nxt,(f,some r')::s.rws⟩:ESt).heap=s.heap:=rfl;have hw:(⟨s.n,s.slots,s.heap,s.nxt,(f,some r')::s.rws⟩:ESt).rws=(f,some r')::s.rws:=rfl;rw [hh] at h;cases hl:look s.heap j with
 | some ee=>
  rw [hl] at h;cases ee with
  | none=>cases h
  | some e0=>
   have hjR:j < RB:=by
    unfold ESt.low at hlow;have:=List.all_eq_true.1 hlow _ (zak hl);simpa using this
   simp only [Option.map_some,Option.some.injEq] at h;refine .inr ⟨fun h=>by omega,?_⟩;rw [zao,hl];simp only [Option.map_some];rw [<- h];cases e0 with
   | out f2 E2=>
    show some (Ent.out E2 24 (famA f2 (rlen s.rws f2)))=some (Ent.out E2 24 (famA f2 (rlen ((f,some r')::s.rws) f2)));have:rlen ((f,some r')::s.rws) f2=rlen s.rws f2:=by
     unfold rlen;rw [zae];by_cases hf:f=f2
     ·subst hf;rw [if_pos rfl,hr];exact hlen
     ·rw [if_neg hf]
    rw [this]
   | _=>rfl
 | none=>
  rw [hl] at h;simp only at h;have hjR:RB<=j:=by
   unfold zar at h;split at h
   ·assumption
   ·cases h
  unfold zar at h;rw [if_pos hjR] at h;simp only [zae] at h;by_cases hf:f=j % RB
  ·rw [if_pos hf] at h;exact .inl ⟨j / RB - 1,by rw [hf];exact zfw hjR,h⟩
  ·rw [if_neg hf] at h;refine .inr ⟨fun _ e=>hf e.symm,?_⟩;rw [zgd hlow hjR];unfold zar;rw [if_pos hjR];exact h
theorem zmE (hT:TOK P TT) {t d f i:Nat} {t0:Ty} {x y:Operand} (hd:o.dst=some d) (ho:o.op = .call { callee := .builtin .append,args:=#[x,y],argTypes:=#[t,t] }) (hx:s.ev x=some (.row f t0 i)) (h:zoK TT s f i y t d K=some q):EF P F s.st o (Post s K q):=by
 unfold zoK at h;split at h
 ·rename_i e he;split at h
  ·rename_i te hte;obtain ⟨z,hz,hzc⟩:=zaK hT hte;split at h
   ·rename_i r hw;obtain ⟨E,t1,l,hole⟩:=r;obtain ⟨hr,hlow,hfR,hho⟩:=zbU hw;have hho:hole=none:=hho;subst hho;have hb:=(zaa h).1;replace h:=(zaa h).2;simp only [Bool.and_eq_true] at hb;obtain ⟨⟨⟨⟨g1,g2⟩,g3⟩,g4⟩,g5⟩:=hb;have hE:E=e:=Nat.eq_of_beq_eq_true g5;split at h
    ·rename_i xs hxs;obtain ⟨e',hxe⟩:=zaz hxs;cases e';have hxe:l.getD i []=xs:=hxe;obtain ⟨ys,hsrc,h⟩:=zg7 h;obtain ⟨hi,h⟩:=zaF h;obtain ⟨hg,h⟩:=zaF h;have hbp:0 < t1.bts:=by simpa using g2
     have hm:∀ n:Nat,n * t1.bts<=140737488355328->n<=9223372036854775807:=by
      intro n hn;have:n * 1<=n * t1.bts:=Nat.mul_le_mul_left n hbp;omega
     have hrow:=zcW hlow hfR hr (i:=i) (by simp) hi;have hrow:s.st.ent (rid f i)=some (Ent.arrOf E xs):=by rw [<- hxe];exact hrow
     have hbase:=EF.append (P:=P) (F:=F) (σ:=s.st) (α:=t1.den) t1.dflt s.nxt rfl g3 hd g4 ho (zai hT he) hz hE rfl rfl (by simpa using g1) (by rw [hzc];exact zrs t1) (zah hx) hrow hsrc hg (hm _ hg);refine (EF.conv hbase (σ2:=(((⟨s.n,s.slots,s.heap,s.nxt,(f,some ⟨E,t1,l,some i⟩)::s.rws⟩:ESt).new (.arr e t1 (xs++ys))).set d (.own s.nxt)).st) fun a w r => ?_).post fun x hx=>⟨_,hx,⟨⟨[_],rfl⟩,⟨[_],rfl⟩,⟨[_],rfl⟩,Nat.le_succ _,rfl⟩,h⟩
     refine Eqv.rel (?_:Eqv _ _) r;refine ⟨rfl,rfl,fun k x hk=>hk,fun j e0 he0 => ?_⟩;rw [zcY,St.ent_set,zeF,St.ent_new] at he0;rw [St.ent_set,St.ent_new];by_cases hj:s.nxt=j
     ·rw [if_pos (show (ESt.st ⟨s.n,s.slots,s.heap,s.nxt,(f,some ⟨E,t1,l,some i⟩)::s.rws⟩).nxt=j from hj)] at he0;rw [if_pos (show (s.st.put (rid f i) none).nxt=j from hj),<- he0,hE];rfl
     ·rw [if_neg (show ¬ (ESt.st ⟨s.n,s.slots,s.heap,s.nxt,(f,some ⟨E,t1,l,some i⟩)::s.rws⟩).nxt=j from hj)] at he0;rw [if_neg (show ¬ (s.st.put (rid f i) none).nxt=j from hj),St.ent_put];rcases zod hlow hr (r':=⟨E,t1,l,some i⟩) rfl he0 with ⟨x,rfl,h2⟩ | ⟨h1,h2⟩
      ·unfold RW.ent at h2;by_cases hix:i=x
       ·subst hix;simp at h2
       ·simp only [Option.some.injEq,hix,if_false] at h2;obtain ⟨xx,hx1,hx2⟩:=Option.map_eq_some_iff.1 h2;have hlt:=(List.getElem?_eq_some_iff.1 hx1).1;rw [if_neg (fun e=>hix (zfW hfR hfR e).2),zcW hlow hfR hr (i:=x) (by simp) hlt,<- hx2];have:l.getD x []=xx:=by rw [List.getD_eq_getElem?_getD,hx1];rfl
        show some (Ent.arrOf E (l.getD x []))=_;rw [this]
      ·rw [if_neg (fun e=>h1 (by rw [<- e];exact zaP f i) (by rw [<- e];exact zbc hfR))];exact h2
    ·cases h
   ·cases h
  ·cases h
 ·cases h
theorem zpy (f n:Nat):(famA f n).all AV.one=true:=by
 rw [List.all_eq_true];intro x hx;unfold famA at hx;obtain ⟨y,_,rfl⟩:=List.mem_map.1 hx;rfl
theorem zpz {f n j o:Nat} (h:(famA f n).getD j default = .own o) (hj:j < n):o=rid f j:=by
 rw [zbA hj] at h;injection h with h
 exact h.symm
theorem zu1 {n:Nat} (h:n < LIM):n < RB:=by unfold LIM at h;unfold RB;omega
theorem zmD (hT:TOK P TT) {t d:Nat} {x y:Operand} (hd:o.dst=some d) (ho:o.op = .call { callee := .builtin .append,args:=#[x,y],argTypes:=#[t,t] }) (h:zoJ TT s x y t d K=some q):EF P F s.st o (Post s K q):=by
 unfold zoJ at h;split at h
 ·rename_i e E1 te hde;obtain ⟨hd1,hd2,hd3,hd4⟩:=zji hde;obtain ⟨z,hz,hzc⟩:=zq3 hT hd3;split at h
  ·rename_i k2 hy;split at h
   ·rename_i f2 E2 hk2;split at h
    ·rename_i r2 hw2;obtain ⟨E3,t2,l2,hole2⟩:=r2;obtain ⟨hr2,hlow,hfR2,hho2⟩:=zbU hw2;have hho2:hole2=none:=hho2;subst hho2;split at h
     ·rename_i l2' hl2;obtain ⟨e',hl2e⟩:=zaz hl2;cases e';have hl2e:l2'=l2:=hl2e.symm;rw [<- hl2e] at hr2;have hb:=(zaa h).1;replace h:=(zaa h).2;simp only [Bool.and_eq_true] at hb;obtain ⟨⟨g1,g2⟩,g3⟩:=hb;have g1:s.nxt+1 < LIM:=by simpa using g1
      have g3:E3=E1:=Nat.eq_of_beq_eq_true g3;subst g3;have hk2s:s.st.ent k2=some (.out E2 24 (famA f2 l2'.length)):=zic hk2 hr2;have hlimb:Nat.blt s.nxt LIM=true:=by simpa using (show s.nxt < LIM by omega)
      have hnR:s.nxt < RB:=zu1 (by omega);split at h
      ·-- nil
       rename_i hx;have hok:=(zaa h).1;replace h:=(zaa h).2;obtain ⟨hg,h⟩:=zaF h;have hg':(famA f2 l2'.length).length * 24<=140737488355328:=by
        have:room ([]:List (List t2.den)) l2' 24:=hg;unfold room at this;rw [zbj];simpa using this
       have hbase:=EF.append_out_nil (P:=P) (F:=F) (σ:=s.st) s.nxt rfl hlimb hd g2 ho (zai hT hd1) hz (by rw [hzc];rfl) (zah hx) (zah hy) hk2s (zpy _ _) hg' (by omega);refine (EF.conv hbase (σ2:=((s.up d).famS s.nxt e E3 t2 l2' [f2] [k2]).st) fun a w r => ?_).post fun x hx=>⟨_,hx,(Sfx.up _ _).trans (Sfx.famS _ _ _ _ _ _ _ _),h⟩
       refine zhh hok g1 hnR hd4 rfl rfl (fun i => ?_) (cells:=famA f2 l2'.length) ?_ (zbj _ _) (fun i e' hi _ _ he => ?_) (fun j hj => .inl ⟨rid f2 j,zbA hj,?_,.inr ⟨zaP _ _,by rw [zbc hfR2];simp⟩⟩) (fun i j o' hi hj h1 h2 => ?_) r
       ·rw [zsg,St.get_set];rfl
       ·rw [St.ent_set,St.ent_new,if_pos (show s.st.nxt=s.nxt from rfl)]
       ·rw [zsf] at he;rw [St.ent_set,St.ent_new,if_neg (show ¬ s.st.nxt=i from fun e=>hi e.symm)];exact he
       ·rw [St.ent_set,St.ent_new,if_neg (show ¬ s.st.nxt=rid f2 j from fun e=>by have:=zaP f2 j;have:s.nxt=rid f2 j:=e;omega)];exact zcW hlow hfR2 hr2 (by simp) hj
       ·have e1:=zpz h1 hi;have e2:=zpz h2 hj;exact (zfW hfR2 hfR2 (e1.symm.trans e2)).2
      ·rename_i k hx;split at h
       ·rename_i f E hk;split at h
        ·rename_i r1 hw1;obtain ⟨E4,t1,l1,hole1⟩:=r1;obtain ⟨hr1,_,hfR1,hho1⟩:=zbU hw1;have hho1:hole1=none:=hho1;subst hho1;split at h
         ·rename_i l1' hl1;obtain ⟨e',hl1e⟩:=zaz hl1;cases e';have hl1e:l1'=l1:=hl1e.symm;rw [<- hl1e] at hr1;have hb:=(zaa h).1;replace h:=(zaa h).2;simp only [Bool.and_eq_true,Bool.not_eq_true'] at hb;obtain ⟨⟨⟨⟨b1,b2⟩,b3⟩,b4⟩,hok⟩:=hb;have b1:E4=E3:=Nat.eq_of_beq_eq_true b1;subst b1;have b2:E=e:=Nat.eq_of_beq_eq_true b2;subst b2;have b3:k≠k2:=Nat.ne_of_beq_eq_false b3;have b4:f≠f2:=Nat.ne_of_beq_eq_false b4;obtain ⟨hg,h⟩:=zaF h;have hks:s.st.ent k=some (.out E 24 (famA f l1'.length)):=zic hk hr1;have hkR:=zq9 hlow hk;have hg':((famA f l1'.length).length+(famA f2 l2'.length).length) * 24<=140737488355328:=by
           rw [zbj,zbj];exact hg
          have hbase:=EF.append_out (P:=P) (F:=F) (σ:=s.st) s.nxt rfl hlimb hd g2 ho (zai hT hd1) hz (by rw [hzc];rfl) rfl (zah hx) hks (zah hy) hk2s (zpy _ _) hg' (by omega);refine (EF.conv hbase (σ2:=((s.upD d k).famS s.nxt E E4 _ (l1'++l2') [f,f2] [k2]).st) fun a w r => ?_).post fun x hx=>⟨_,hx,(Sfx.upD _ _ _).trans (Sfx.famS _ _ _ _ _ _ _ _),h⟩
          have hcl:∀ j,j < (l1'++l2').length->(j < l1'.length/\(famA f l1'.length++famA f2 l2'.length).getD j default = .own (rid f j)/\(l1'++l2').getD j []=l1'.getD j [])\/
            (l1'.length<=j/\j - l1'.length < l2'.length/\(famA f l1'.length++famA f2 l2'.length).getD j default = .own (rid f2 (j - l1'.length))/\(l1'++l2').getD j []=l2'.getD (j - l1'.length) []):=by
           intro j hj;rw [List.length_append] at hj;by_cases hjl:j < l1'.length
           ·left;refine ⟨hjl,?_,?_⟩
            ·rw [List.getD_eq_getElem?_getD,List.getElem?_append_left (by rw [zbj];exact hjl),<- List.getD_eq_getElem?_getD];exact zbA hjl
            ·simp only [List.getD_eq_getElem?_getD];rw [List.getElem?_append_left hjl]
           ·right;refine ⟨by omega,by omega,?_,?_⟩
            ·rw [List.getD_eq_getElem?_getD,List.getElem?_append_right (by rw [zbj];omega),zbj,<- List.getD_eq_getElem?_getD];exact zbA (by omega)
            ·simp only [List.getD_eq_getElem?_getD];rw [List.getElem?_append_right (by omega)]
          refine zhh hok g1 hnR hd4 rfl rfl (fun i => ?_) (cells:=famA f l1'.length++famA f2 l2'.length) ?_ (by rw [List.length_append,zbj,zbj,List.length_append]) (fun i e' hi _ _ he => ?_) (fun j hj => .inl ?_) (fun i j o' hi hj h1 h2 => ?_) r
          ·rw [zuD,St.get_set];rfl
          ·rw [St.ent_set,St.ent_new,if_pos (show (s.st.put k none).nxt=s.nxt from rfl)]
          ·obtain ⟨h3,h4⟩:=zuC he;rw [St.ent_set,St.ent_new,if_neg (show ¬ (s.st.put k none).nxt=i from fun e=>hi e.symm),St.ent_put,if_neg (fun e=>h3 e.symm)];exact h4
          ·have hnotn:∀ g y,¬ (s.st.put k none).nxt=rid g y:=fun g y e=>by have:=zaP g y;have:s.nxt=rid g y:=e;omega
           have hnotk:∀ g y,¬ k=rid g y:=fun g y e=>by have:=zaP g y;omega
           rcases hcl j hj with ⟨h3,h4,h5⟩ | ⟨h3,h6,h4,h5⟩
           ·refine ⟨_,h4,?_,.inr ⟨zaP _ _,by rw [zbc hfR1];simp⟩⟩;rw [St.ent_set,St.ent_new,if_neg (hnotn _ _),St.ent_put,if_neg (hnotk _ _),h5];exact zcW hlow hfR1 hr1 (by simp) h3
           ·refine ⟨_,h4,?_,.inr ⟨zaP _ _,by rw [zbc hfR2];simp⟩⟩;rw [St.ent_set,St.ent_new,if_neg (hnotn _ _),St.ent_put,if_neg (hnotk _ _),h5];exact zcW hlow hfR2 hr2 (by simp) h6
          ·rcases hcl i hi with ⟨h3,h4,_⟩ | ⟨h3,h6,h4,_⟩<;>rcases hcl j hj with ⟨k3,k4,_⟩ | ⟨k3,k6,k4,_⟩<;>rw [h1] at h4<;>rw [h2] at k4<;>injection h4 with h4<;>injection k4 with k4<;>rw [h4] at k4
           ·exact (zfW hfR1 hfR1 k4).2
           ·exact absurd (zfW hfR1 hfR2 k4).1 b4
           ·exact absurd (zfW hfR2 hfR1 k4).1.symm b4
           ·have:=(zfW hfR2 hfR2 k4).2;omega
         ·cases h
        ·cases h
       ·cases h
      ·cases h
     ·cases h
    ·cases h
   ·cases h
  ·cases h
 ·cases h
theorem zl6 {i:Nat} {h:Option Nat} {k:Option R} {q:R} (e:zsF i h k=some q):(∀ j,h=some j->j=i)/\k=some q:=by
 unfold zsF at e;cases h with
 | none=>exact ⟨fun j hj=>(by cases hj),e⟩
 | some h0=>
  obtain ⟨h1,h2⟩:=zaF e;exact ⟨fun j hj=>by cases hj;exact h1.symm,h2⟩
theorem ztn {t id i f E bytes E1:Nat} {t1:Ty} {l:List (List t1.den)} {hole:Option Nat} {z:Value} {x y:Operand} {c:EV} {x':List t1.den} {os:List Nat} (hd:o.dst=none) (ho:o.op = .store t x y) (hti:TI P t false 1 bytes z) (hx:s.st.ev x=some (.eptr id 1 i 0)) (hk:s.ent id=some (.out f E))
  (hr:look s.rws f=some (some ⟨E1,t1,l,hole⟩)) (hfR:f < RB) (hlim:s.nxt < LIM) (hsz:0 < t1.sz) (hhole:∀ j,hole=some j->j=i) (hok:zdC s id [f] os=true) (hy:s.ev y=some c) (hone:c.av.one=true)
  (hc:(∃ o,c.av = .own o/\s.ent o=some (.arr E1 t1 x')/\o∈os)\/(c.av = .nil/\x'=[])) (h:K (s.famS id E E1 t1 (l.set i x') [f] os)=some q):EF P F s.st o (Post s K q):=by
 have hlow:=zfa hok;have hks:=zic hk hr;have hkR:=zq9 hlow hk;have hbase:=EF.st_out (P:=P) (F:=F) (σ:=s.st) hd ho hti hx hks (zah hy) hone;refine (EF.conv hbase (σ2:=(s.famS id E E1 t1 (l.set i x') [f] os).st) fun a w r => ?_).post fun x hx=>⟨_,hx,Sfx.famS _ _ _ _ _ _ _ _,h⟩
 have hcl:∀ j,j < l.length->(i≠j->((famA f l.length).set i c.av).getD j default = .own (rid f j)/\(l.set i x').getD j []=l.getD j [])/\(i=j->((famA f l.length).set i c.av).getD j default=c.av/\(l.set i x').getD j []=x'):=by
  intro j hj;constructor
  ·intro hij;simp only [List.getD_eq_getElem?_getD];rw [List.getElem?_set_ne hij,List.getElem?_set_ne hij,<- List.getD_eq_getElem?_getD,<- List.getD_eq_getElem?_getD];exact ⟨zbA hj,rfl⟩
  ·intro hij;subst hij;simp [List.getD_eq_getElem?_getD,hj,zbj]
 have hent:∀ i' e',i'≠id->s.st.ent i'=some e'->(s.st.put id (some (.out E 24 ((famA f l.length).set i c.av)))).ent i'=some e':=fun i' e' h1 h2=>by
  rw [St.ent_put,if_neg (fun e=>h1 e.symm)];exact h2
 refine zhh (σ:=s.st.put id (some (Ent.out E 24 ((famA f l.length).set i c.av)))) hok hlim hkR hsz rfl rfl (fun _=>rfl) (cells:=(famA f l.length).set i c.av) ?_ (by simp [zbj]) (fun i' e' hi _ _ he=>hent i' e' hi he) (fun j hj => ?_) (fun a b o' ha hb h1 h2 => ?_) r
 ·rw [St.ent_put,if_pos rfl]
 ·have hj:j < l.length:=by simpa using hj
  by_cases hij:i=j
  ·obtain ⟨h1,h2⟩:=(hcl j hj).2 hij;rw [h1,h2];rcases hc with ⟨o',h3,h4,h5⟩ | ⟨h3,h4⟩
   ·refine .inl ⟨o',h3,hent _ _ (fun e => ?_) (zat h4),.inl h5⟩;subst e;rw [hk] at h4;cases h4
   ·exact .inr ⟨h3,h4⟩
  ·obtain ⟨h1,h2⟩:=(hcl j hj).1 hij;rw [h1,h2];refine .inl ⟨_,rfl,hent _ _ (fun e => ?_) (zcW hlow hfR hr (fun e=>hij (hhole j e).symm) hj),.inr ⟨zaP _ _,by rw [zbc hfR];simp⟩⟩;have:=zaP f j;omega
 ·have ha:a < l.length:=by simpa using ha
  have hb:b < l.length:=by simpa using hb
  have hno:∀ j,j < l.length->c.av = .own o'->o'≠rid f j:=fun j _ e e2=>by
   rcases hc with ⟨o2,h3,h4,h5⟩ | ⟨h3,_⟩
   ·rw [h3] at e;cases e;have:=zq9 hlow h4;have:=zaP f j;omega
   ·rw [h3] at e;cases e
  by_cases hia:i=a<;>by_cases hib:i=b
  ·omega
  ·rw [((hcl a ha).2 hia).1] at h1;rw [((hcl b hb).1 hib).1] at h2;injection h2 with h2
   exact absurd h2.symm (hno b hb h1)
  ·rw [((hcl a ha).1 hia).1] at h1;rw [((hcl b hb).2 hib).1] at h2;injection h1 with h1
   exact absurd h1.symm (hno a ha h2)
  ·rw [((hcl a ha).1 hia).1] at h1;rw [((hcl b hb).1 hib).1] at h2;rw [<- h2] at h1;injection h1 with h1
   exact (zfW hfR hfR h1).2
theorem zlK (hT:TOK P TT) {t:Nat} {x y:Operand} (hd:o.dst=none) (ho:o.op = .store t x y) (h:zmI TT s t x y K=some q):∃ s0,Wk s s0/\Sfx s s0/\EF P F s0.st o (Post s K q):=by
 unfold zmI at h;split at h
 ·rename_i u hu;obtain ⟨z,hz,_⟩:=zaK hT hu;split at h
  ·rename_i id te i k hx;split at h
   ·rename_i f E hk;split at h
    ·rename_i r hr;obtain ⟨E1,t1,l,hole⟩:=r;have hb:=(zaa h).1;replace h:=(zaa h).2;simp only [Bool.and_eq_true] at hb;obtain ⟨⟨⟨⟨⟨b1,b2⟩,b3⟩,b4⟩,b5⟩,b6⟩:=hb;have b1:=Ty.eq_of_beq b1;subst b1;have b2:=Ty.eq_of_beq b2;subst b2;have b3:=Nat.eq_of_beq_eq_true b3;subst b3;split at h
     ·rename_i hy;have hok:=(zaa h).1;replace h:=(zaa h).2;obtain ⟨hh,h⟩:=zl6 h;exact ⟨s,Wk.refl _,Sfx.refl _,ztn hd ho hz (zah hx) hk hr (by simpa using b4) (by simpa using b5) (by simpa using b6) hh hok hy rfl (.inr ⟨rfl,rfl⟩) h⟩
     ·rename_i o' hy;split at h
      ·rename_i E' t' l' hE;split at h
       ·rename_i x' hx';obtain ⟨e',rfl⟩:=zaz hx';cases e';have hb:=(zaa h).1;replace h:=(zaa h).2;simp only [Bool.and_eq_true] at hb;have:=Nat.eq_of_beq_eq_true hb.1;subst this;obtain ⟨hh,h⟩:=zl6 h;exact ⟨s,Wk.refl _,Sfx.refl _,ztn hd ho hz (zah hx) hk hr (by simpa using b4) (by simpa using b5) (by simpa using b6) hh hb.2 hy rfl (.inl ⟨o',rfl,hE,by simp⟩) h⟩
       ·cases h
      ·cases h
     ·cases h
    ·cases h
   ·cases h
  ·rename_i f te _ _ k hx;have hdw:=zev s y u;have hds:=Sfx.dat s y u;generalize hs1:s.dat y u=s1 at h hdw hds;split at h
   ·rename_i v hv;split at h
    ·rename_i c hc;have:=zbJ hc;subst this;split at h
     ·rename_i r hw;obtain ⟨E1,t1,l,hole⟩:=r;obtain ⟨hr,hlow,hfR,hho⟩:=zbU hw;have hho:hole=none:=hho;subst hho;have hb:=(zaa h).1;replace h:=(zaa h).2;have:=Ty.eq_of_beq hb;subst this;split at h
      ·rename_i f2 te2 i2 j2 k2 hx2;have hb:=(zaa h).1;replace h:=(zaa h).2;simp only [Bool.and_eq_true] at hb;obtain ⟨⟨b1,b2⟩,b4⟩:=hb;have:=Nat.eq_of_beq_eq_true b1;subst this;have:=Ty.eq_of_beq b2;subst this;have:=Nat.eq_of_beq_eq_true b4;subst this;split at h
       ·rename_i zz hzz;obtain ⟨hg,h⟩:=zaF h;have hil:i2 < l.length:=zmX (j:=j2) hg;have hrow:s1.st.ent (rid f2 i2)=some (Ent.arrOf E1 (l.getD i2 [])):=zcW hlow hfR hr (by simp) hil;have hbase:=EF.st_eptr_sub (P:=P) (F:=F) (σ:=s1.st) hd ho hz (zah hx2) hrow (zah hv) hg hzz;refine ⟨s1,hdw,hds,(EF.conv hbase (σ2:=(⟨s1.n,s1.slots,s1.heap,s1.nxt,(f2,some ⟨E1,te2,l.set i2 ((l.getD i2 []).set j2 zz),none⟩)::s1.rws⟩:ESt).st) fun a w r => ?_).post fun x hx=>⟨_,hx,hds.trans ⟨⟨[],rfl⟩,⟨[],rfl⟩,⟨[_],rfl⟩,Nat.le_refl _,rfl⟩,h⟩⟩;refine Eqv.rel (?_:Eqv _ _) r;refine ⟨rfl,rfl,fun k x hk=>hk,fun m e0 he0 => ?_⟩;rw [St.ent_put];rcases zod hlow hr (r':=⟨E1,te2,l.set i2 ((l.getD i2 []).set j2 zz),none⟩) (by simp) he0 with ⟨x,rfl,h2⟩ | ⟨h1,h2⟩
        ·simp only [RW.ent,reduceCtorEq,if_false] at h2;obtain ⟨xx,hx1,hx2⟩:=Option.map_eq_some_iff.1 h2;by_cases hix:i2=x
         ·subst hix;rw [if_pos rfl,<- hx2];rw [List.getElem?_set] at hx1;simp only [if_true,hil] at hx1;cases hx1;rfl
         ·rw [if_neg (fun e=>hix (zfW hfR hfR e).2)];rw [List.getElem?_set_ne hix] at hx1;have hlt:=(List.getElem?_eq_some_iff.1 hx1).1;rw [zcW hlow hfR hr (i:=x) (by simp) hlt,<- hx2];have:l.getD x []=xx:=by rw [List.getD_eq_getElem?_getD,hx1];rfl
          show some (Ent.arrOf E1 (l.getD x []))=_;rw [this]
        ·rw [if_neg (fun e=>h1 (by rw [<- e];exact zaP f2 i2) (by rw [<- e];exact zbc hfR))];exact h2
       ·cases h
      ·cases h
     ·cases h
    ·cases h
   ·cases h
  ·cases h
 ·cases h
theorem zrf (hT:TOK P TT) (h:evD TT s o K=some q):∃ s0,Wk s s0/\Sfx s s0/\EF P F s0.st o (Post s K q):=by
 unfold evD at h;split at h
 ·rename_i t l c d ho hd;exact ⟨s,Wk.refl _,Sfx.refl _,zmH hT hd ho h⟩
 ·rename_i t n parts d ho hd;exact ⟨s,Wk.refl _,Sfx.refl _,zmF hT hd ho h⟩
 ·rename_i t x y ho hd;exact zlK hT hd ho h
 ·rename_i c d ho hd;split at h
  ·rename_i x y t t' h1 h2 h3;have hb:=(zaa h).1;replace h:=(zaa h).2;have:=Nat.eq_of_beq_eq_true hb;subst this;have hcall:o.op = .call { callee := .builtin .append,args:=#[x,y],argTypes:=#[t,t] }:=by
    rw [ho];obtain ⟨cc,ca,ct⟩:=c;simp only at h1 h2 h3;subst h1;rw [show ca=#[x,y] from Array.ext' h2,show ct=#[t,t] from Array.ext' h3]
   split at h
   ·rename_i f t0 i hx;exact ⟨s,Wk.refl _,Sfx.refl _,zmE hT hd hcall hx h⟩
   ·exact ⟨s,Wk.refl _,Sfx.refl _,zmD hT hd hcall h⟩
  ·cases h
 ·cases h
end
def ESt.cellUp (s:ESt) (id j T:Nat) (cs:List EV):ESt:=⟨s.n,s.slots,(id,some (.box T (cs.set j (.own s.nxt))))::s.heap,s.nxt+1,s.rws⟩
def ESt.nil1D (s:ESt) (id j E E1:Nat) (t:Ty):ESt:=match s.ent id with
 | some (.box T cs)=>match cs[j]? with
  | some .nil=>bif Nat.blt (s.nxt+1) LIM && Nat.blt 0 t.sz && zdC (s.cellUp id j T cs) s.nxt [] [] then (s.cellUp id j T cs).famS s.nxt E E1 t [] [] [] else s
  | _=>s
 | _=>s
theorem zkz (s:ESt) (id j E E1:Nat) (t:Ty):Wk s (s.nil1D id j E E1 t)/\Sfx s (s.nil1D id j E E1 t):=by
 unfold ESt.nil1D;split
 ·rename_i T cs he;split
  ·rename_i hj;have hj':(EV.avL cs)[j]? =some .nil:=by rw [zch,List.getElem?_map,hj];rfl
   cases hb:Nat.blt (s.nxt+1) LIM && Nat.blt 0 t.sz && zdC (s.cellUp id j T cs) s.nxt [] [] with
   | false=>exact ⟨Wk.refl _,Sfx.refl _⟩
   | true=>
    simp only [Bool.and_eq_true] at hb;obtain ⟨⟨b1,b2⟩,b3⟩:=hb;have b1:s.nxt+1 < LIM:=by simpa using b1
    have b2:0 < t.sz:=by simpa using b2
    have hsx:Sfx s (s.cellUp id j T cs):=⟨⟨[],rfl⟩,⟨[_],rfl⟩,⟨[],rfl⟩,Nat.le_succ _,rfl⟩;refine ⟨⟨fun F a w ⟨H,r⟩ => ?_,fun k t x hx=>hx⟩,hsx.trans (Sfx.famS _ _ _ _ _ _ _ _)⟩;have hne:id≠s.nxt:=fun e=>by
     obtain ⟨v,hv,_⟩:=r.ent id _ (zat he);have h0:=r.fresh0 s.nxt (Nat.le_refl _) (show s.st.nxt < LIM by show s.nxt < LIM;omega);rw [e,h0] at hv;cases hv
    have r1:=r.nilcellE (e0 := .out E 24 []) (by show s.nxt < LIM;omega) (fun w _ _ => .out E 24 [] _ [] (zbN.of_row (World.ownsRow_nil w 0 E 1)) (by simp [most]) (by simp)) (zat he) hj';rw [cond_true];refine zhh (s:=s.cellUp id j T cs) (σ:=(s.st.new (.out E 24 [])).put id (some (.box T ((EV.avL cs).set j (.own s.st.nxt))))) (cells:=[]) b3 (by show s.nxt+1 < LIM;exact b1) (by unfold LIM at b1;unfold RB;omega) b2 rfl rfl (fun q=>rfl) ?_ rfl (fun i e' hi _ _ hx => ?_) (fun j hj=>absurd hj (by simp)) (fun i j o hi=>absurd hi (by simp)) ⟨_,r1⟩
    ·rw [St.ent_put,if_neg hne,St.ent_new,if_pos (show s.st.nxt=s.nxt from rfl)]
    ·rw [zao] at hx;show _=some e';rw [St.ent_put];have hx:(match look ((id,some (.box T (cs.set j (.own s.nxt))))::s.heap) i with
      | some e=>e.map (EEnt.ent s.rws)
      | none=>zar s.rws i)=some e':=hx
     rw [zae] at hx;by_cases e:id=i
     ·rw [if_pos e] at hx ⊢;simp only [Option.map_some,Option.some.injEq] at hx;rw [<- hx];simp only [EEnt.ent,zhZ];rfl
     ·rw [if_neg e] at hx ⊢;rw [St.ent_new,if_neg (show ¬ s.st.nxt=i from fun e=>hi e.symm),zao];exact hx
  ·exact ⟨Wk.refl _,Sfx.refl _⟩
 ·exact ⟨Wk.refl _,Sfx.refl _⟩
def ESt.nilBD (TT:List TE) (id T:Nat):Nat->ESt->ESt
 | 0,s=>s
 | j+1,s=>match zuQ TT T j with
  | some (E,.list t)=>match ztD TT E with
   | some (E1,_)=>(ESt.nilBD TT id T j s).nil1D id j E E1 t
   | none=>ESt.nilBD TT id T j s
  | some (E,t)=>(ESt.nilBD TT id T j s).nil1 id j E t
  | none=>ESt.nilBD TT id T j s
theorem zpO (TT:List TE) (id T:Nat):∀ (j:Nat) (s:ESt),Wk s (ESt.nilBD TT id T j s)/\Sfx s (ESt.nilBD TT id T j s)
 | 0,s=>⟨Wk.refl _,Sfx.refl _⟩
 | j+1,s=>by
  obtain ⟨h1,h2⟩:=zpO TT id T j s;simp only [ESt.nilBD];split
  ·split
   ·exact ⟨h1.trans (zkz _ _ _ _ _ _).1,h2.trans (zkz _ _ _ _ _ _).2⟩
   ·exact ⟨h1,h2⟩
  ·exact ⟨h1.trans (zm9 _ _ _ _ _).1,h2.trans (zm9 _ _ _ _ _).2⟩
  ·exact ⟨h1,h2⟩
def zm3 (TT:List TE) (nil:Bool):ESt->List Operand->ESt
 | s,[]=>s
 | s,x::r=>match s.ev x with
  | some (.view _ t _ _)=>zm3 TT nil (s.dat x (.list t)) r
  | some (.ptr id _)=>bif nil then (match s.ent id with
   | some (.box T cs)=>zm3 TT nil (ESt.nilBD TT id T cs.length s) r
   | _=>zm3 TT nil s r) else zm3 TT nil s r
  | _=>zm3 TT nil s r
theorem zhk (TT:List TE) (nil:Bool):∀ (l:List Operand) (s:ESt),Wk s (zm3 TT nil s l)/\Sfx s (zm3 TT nil s l)
 | [],s=>⟨Wk.refl s,Sfx.refl s⟩
 | x::r,s=>by
  simp only [zm3];split
  ·rename_i t _ _ _;obtain ⟨h1,h2⟩:=zhk TT nil r (s.dat x (.list t));exact ⟨(zev s x _).trans h1,(Sfx.dat s x _).trans h2⟩
  ·rename_i id _ _;cases nil with
   | true=>
    rw [cond_true];split
    ·rename_i T cs _;obtain ⟨h0,h0'⟩:=zpO TT id T cs.length s;obtain ⟨h1,h2⟩:=zhk TT true r (ESt.nilBD TT id T cs.length s);exact ⟨h0.trans h1,h0'.trans h2⟩
    ·exact zhk TT true r s
   | false=>exact zhk TT false r s
  ·exact zhk TT nil r s
def evK (TT:List TE) (Γ:List CE) (nil:Bool) (s:ESt) (o:Oper) (K:ESt->Option R):Option R:=match o.op,o.dst with
 | .call c,some d=>match c.callee with
  | .value f=>zmB TT Γ (zm3 TT nil s c.args.toList) f c.args d false K
  | _=>none
 | _,_=>none
theorem znK {P:Program} {TT:List TE} {Γ:List CE} {F:Fr} {s:ESt} {o:Oper} {K:ESt->Option R} {q:R} (hG:GOK P Γ) {nil:Bool} (h:evK TT Γ nil s o K=some q):∃ s0,Wk s s0/\Sfx s s0/\EF P F s0.st o (Post s K q):=by
 unfold evK at h;split at h
 ·rename_i c d ho hd;split at h
  ·rename_i f hf;obtain ⟨h1,h2⟩:=zhk TT nil c.args.toList s;refine ⟨_,h1,h2,fun a w r=>Oper.wp_mono2 (fun a' w' hh => ?_) (fun _ _ _ h=>h) (zit hG hd (ts:=c.argTypes) (by rw [ho,<- hf]) h a w r)⟩;obtain ⟨⟨g1,_⟩,σ',⟨s',e1,e2,e3⟩,g3⟩:=hh;exact ⟨g1,σ',⟨s',e1,h2.trans e2,e3⟩,g3⟩
  ·cases h
 ·cases h
def ESt.flatR (s:ESt) (x:Operand):ESt:=match s.ev x with
 | some (.own id)=>match s.ent id with
  | some (.out f E)=>match look s.rws f with
   | some (some r)=>bif r.hole.isNone && zdC s id [f] [] && Nat.blt f RB then s.frzR id f E r.t r.l else s
   | _=>s
  | _=>s
 | _=>s
theorem zsz (s:ESt) (x:Operand):Wk s (s.flatR x)/\Sfx s (s.flatR x):=by
 unfold ESt.flatR;split
 ·rename_i id hid;split
  ·rename_i f E he;split
   ·rename_i r hr;cases hb:r.hole.isNone && zdC s id [f] [] && Nat.blt f RB with
    | false=>rw [cond_false];exact ⟨Wk.refl _,Sfx.refl _⟩
    | true=>
     rw [cond_true];simp only [Bool.and_eq_true] at hb;obtain ⟨⟨b1,b2⟩,b3⟩:=hb;obtain ⟨E1,t,l,hole⟩:=r;have:hole=none:=by cases hole;rfl;cases b1
     subst this;exact ⟨⟨fun F a w ⟨H,r⟩=>⟨H,zsB b2 (by simpa using b3) he hr r⟩,fun k t x hx=>hx⟩,⟨⟨[],rfl⟩,⟨[(id,some (.arr E (.list t) l))],rfl⟩,⟨[(f,none)],rfl⟩,Nat.le_refl _,rfl⟩⟩
   ·exact ⟨Wk.refl _,Sfx.refl _⟩
  ·exact ⟨Wk.refl _,Sfx.refl _⟩
 ·exact ⟨Wk.refl _,Sfx.refl _⟩
def zql (s:ESt):Op->ESt
 | .call c=>match c.args.toList with
  | x::_=>s.flatR x
  | _=>s
 | _=>s
theorem zsy (s:ESt) (o:Op):Wk s (zql s o)/\Sfx s (zql s o):=by
 unfold zql;split
 ·split
  ·exact zsz s _
  ·exact ⟨Wk.refl _,Sfx.refl _⟩
 ·exact ⟨Wk.refl _,Sfx.refl _⟩
end
end Go.Ab
