import Derived.Test.YtiegbkgnhjncdaaEv40n14
set_option linter.unusedVariables false
set_option linter.unusedSimpArgs false
set_option linter.unusedSectionVars false
namespace Go.Ab
noncomputable section
open Enc (enc)
variable {R:Type}
theorem EF.conv {P:Program} {F:Fr} {σ b σ2:St} {o:Oper} (h:EF P F σ o (·=b)) (c:∀ a w,Rel F b a w->Rel F σ2 a w):EF P F σ o (·=σ2):=
 fun a w r=>Oper.wp_mono2 (fun a' w' ⟨h0,x,h3,h4⟩=>⟨h0,σ2,rfl,by subst h3;exact c _ _ h4⟩) (fun _ _ _ h=>h) (h a w r)
def zuq (s:ESt):Option EV->Bool
 | some (.own id)=>match s.ent id with
  | some (.out _ _)=>true
  | _=>false
 | some (.eptr id _ _ _)=>match s.ent id with
  | some (.out _ _)=>true
  | _=>false
 | some (.row _ _ _)=>true
 | some (.reptr _ _ _ _ _)=>true
 | _=>false
def zz1 (s:ESt):Op->Bool
 | .indexAddr _ x _=>zuq s (s.ev x)
 | .load _ x=>zuq s (s.ev x)
 | .fieldAddr _ x _=>zuq s (s.ev x)
 | .call c=>match c.callee,c.args.toList with
  | .builtin .len,[x]=>zuq s (s.ev x)
  | _,_=>false
 | _=>false
def zzF (TT:List TE) (s:ESt) (x:Operand) (t:Nat) (K:EV->Option R):Option R:=match zdd TT t with
 | some _=>match s.ev x with
  | some (.own id)=>match s.ent id with
   | some (.out f _)=>match look s.rws f with
    | some (some r)=>K (.d (.int .i64) ((r.l.length:Nat):Int))
    | _=>none
   | _=>none
  | some (.row f _ i)=>match zlf s f with
   | some r=>G (i < r.l.length) (K (.d (.int .i64) (((r.l.getD i []).length:Nat):Int)))
   | none=>none
  | _=>none
 | none=>none
def zzE (TT:List TE) (s:ESt) (t:Nat) (x i:Operand) (K:EV->Option R):Option R:=match s.ev i with
 | some (.d (.int _) j)=>match zdd TT t with
  | some e=>match tyT TT e with
   | some a=>match s.ev x with
    | some (.own id)=>match s.ent id with
     | some (.out f _)=>match look s.rws f with
      | some (some r)=>bif Ty.beq a (.list r.t) then G (0<=j/\j < (r.l.length:Int)) (K (.eptr id a (Int.toNat j) 0)) else none
      | _=>none
     | _=>none
    | some (.row f _ i')=>match zlf s f with
     | some r=>bif Ty.beq a r.t then G (0<=j/\j < ((r.l.getD i' []).length:Int)) (K (.reptr f a i' (Int.toNat j) 0)) else none
     | none=>none
    | _=>none
   | none=>none
  | none=>none
 | _=>none
def zwL (TT:List TE) (s:ESt) (t:Nat) (x:Operand) (K:EV->Option R):Option R:=match tyT TT t with
 | some u=>match s.ev x with
  | some (.eptr id te j k)=>match s.ent id with
   | some (.out f _)=>match look s.rws f with
    | some (some r)=>bif Ty.beq te u && Ty.beq u (.list r.t) && Nat.beq k 0 then G (j < r.l.length) (K (.row f r.t j)) else none
    | _=>none
   | _=>none
  | some (.reptr f te i j k)=>match zlf s f with
   | some r=>bif Ty.beq te r.t then (match zsO r.t ((r.l.getD i []).getD j r.t.dflt) k u with
    | some y=>bif Nat.ble (k+u.sz) r.t.sz then G (j < (r.l.getD i []).length) (K (.d u y)) else none
    | none=>none) else none
   | none=>none
  | _=>none
 | none=>none
def evDR (TT:List TE) (s:ESt) (b:Op) (K:EV->Option R):Option R:=match b with
 | .call c=>match c.callee,c.args.toList,c.argTypes.toList with
  | .builtin .len,[x],[t]=>zzF TT s x t K
  | _,_,_=>none
 | .indexAddr t x i=>zzE TT s t x i K
 | .load t x=>zwL TT s t x K
 | .fieldAddr st x i=>match fldT TT st i with
  | some (off,_,_)=>match s.ev x with
   | some (.reptr f te a j k)=>K (.reptr f te a j (k+off))
   | _=>none
  | none=>none
 | _=>none
section
variable {P:Program} {TT:List TE} {F:Fr} {s:ESt} {o:Oper} {K:EV->Option R} {r:R}
theorem zB9 {j:Int} {n:Nat} (h:0<=j/\j < n):Int.toNat j < n:=by omega
theorem zup {α:Type} {l:List (List α)} {i j:Nat} (h:j < (l.getD i []).length):i < l.length:=by
 apply Decidable.byContradiction;intro a;rw [List.getD_eq_getElem?_getD,List.getElem?_eq_none (by omega)] at h;simp at h
theorem zvn (c:TOK P TT) {x:Operand} {t:Nat} (d:o.op = .call { callee := .builtin .len,args:=#[x],argTypes:=#[t] }) (h:zzF TT s x t K=some r):∃ z,RO P F s.st o z.av/\K z=some r:=by
 unfold zzF at h;split at h
 ·rename_i e g;split at h
  ·rename_i id a;split at h
   ·rename_i f E j;split at h
    ·rename_i rw b;refine ⟨_,?_,h⟩;have:=RO.len_out (P:=P) (F:=F) d (zat c g) (zap a) (zsn j b);rw [zgj] at this;exact this
    ·cases h
   ·cases h
  ·rename_i f t' i a;split at h
   ·rename_i rw k;obtain ⟨b,l,m,n⟩:=zeV k;obtain ⟨p,h⟩:=zbk h;exact ⟨_,RO.len_own (α:=rw.t.den) d (zat c g) (zap a) (ziY l m b (by rw [n];simp) p),h⟩
   ·cases h
  ·cases h
 ·cases h
theorem zvm (b:TOK P TT) {t:Nat} {x i:Operand} (n:o.op = .indexAddr t x i) (h:zzE TT s t x i K=some r):∃ z,RO P F s.st o z.av/\K z=some r:=by
 unfold zzE at h;split at h
 ·rename_i D j p;split at h
  ·rename_i e q;split at h
   ·rename_i H c;obtain ⟨z,v,_⟩:=zbZ b c;split at h
    ·rename_i id d;split at h
     ·rename_i f E w;split at h
      ·rename_i rw g;have k:=(zac h).1;replace h:=(zac h).2;have:=Ty.eq_of_beq k;subst this;obtain ⟨a,h⟩:=zbk h;exact ⟨_,RO.idx_out n (zat b q) v (zap d) (zsn w g) (zap p) (by rw [zgj];exact a),h⟩
      ·cases h
     ·cases h
    ·rename_i f t' u d;split at h
     ·rename_i rw y;obtain ⟨g,A,B,C⟩:=zeV y;have k:=(zac h).1;replace h:=(zac h).2;have:=Ty.eq_of_beq k;subst this;obtain ⟨a,h⟩:=zbk h;have m:u < rw.l.length:=zup (l:=rw.l) (i:=u) (j:=Int.toNat j) (zB9 a);exact ⟨_,RO.idx_own (α:=rw.t.den) n (zat b q) v (zap d) (ziY A B g (by rw [C];simp) m) (zap p) a,h⟩
     ·cases h
    ·cases h
   ·cases h
  ·cases h
 ·cases h
theorem zt9 (p:TOK P TT) {t:Nat} {x:Operand} (m:o.op = .load t x) (h:zwL TT s t x K=some r):∃ z,RO P F s.st o z.av/\K z=some r:=by
 unfold zwL at h;split at h
 ·rename_i u q;obtain ⟨z,n,_⟩:=zbZ p q;split at h
  ·rename_i id v j k c;split at h
   ·rename_i f E w;split at h
    ·rename_i rw d;have a:=(zac h).1;replace h:=(zac h).2;simp only [Bool.and_eq_true] at a;have:=Ty.eq_of_beq a.1.1;subst this;have C:=Ty.eq_of_beq a.1.2;subst C;have:=Nat.eq_of_beq_eq_true a.2;subst this;obtain ⟨b,h⟩:=zbk h;obtain ⟨J,hd1,l⟩:=n.un;exact ⟨_,RO.ld_out m hd1 (by rw [l];rfl) (zap c) (zsn w d) (zeG? b),h⟩
    ·cases h
   ·cases h
  ·rename_i f v i j k c;split at h
   ·rename_i rw A;obtain ⟨d,D,H,I⟩:=zeV A;have a:=(zac h).1;replace h:=(zac h).2;have:=Ty.eq_of_beq a;subst this;split at h
    ·rename_i y B;have e:=(zac h).1;replace h:=(zac h).2;obtain ⟨b,h⟩:=zbk h;have g:i < rw.l.length:=zup (j:=j) b;exact ⟨_,RO.ld_eptr_sub m n (zap c) (ziY D H d (by rw [I];simp) g) b B (by simpa using e),h⟩
    ·cases h
   ·cases h
  ·cases h
 ·cases h
theorem zyt (d:TOK P TT) (h:evDR TT s o.op K=some r):∃ z,RO P F s.st o z.av/\K z=some r:=by
 unfold evDR at h;split at h
 ·rename_i c b;split at h
  ·rename_i x t g m n;refine zvn d ?_ h;rw [b];obtain ⟨w,p,q⟩:=c;simp only at g m n;subst g;rw [show p=#[x] from Array.ext' m,show q=#[t] from Array.ext' n]
  ·cases h
 ·rename_i t x i b;exact zvm d b h
 ·rename_i t x b;exact zt9 d b h
 ·rename_i st x i b;split at h
  ·rename_i off u e l;obtain ⟨l,y,rfl⟩:=zr4 d l;split at h
   ·rename_i f v a j k g;exact ⟨_,RO.fld_eptr b l (zap g),h⟩
   ·cases h
  ·cases h
 ·cases h
end
def zCS (TT:List TE) (t:Nat):Option (Nat×Nat×Ty):=match zdd TT t with
 | some e=>match zdd TT e with
  | some E1=>match tyT TT E1,tyT TT e with
   | some te,some u=>bif Ty.beq u (.list te) && Nat.blt 0 te.sz then some (e,E1,te) else none
   | _,_=>none
  | none=>none
 | none=>none
theorem zys {TT:List TE} {t e E1:Nat} {a:Ty} (h:zCS TT t=some (e,E1,a)):zdd TT t=some e/\tyT TT E1=some a/\tyT TT e=some (.list a)/\0 < a.sz:=by
 unfold zCS at h;split at h
 ·rename_i e' c;split at h
  ·split at h
   ·rename_i d u f g;have b:=(zac h).1;replace h:=(zac h).2;simp only [Bool.and_eq_true] at b;cases h;have:=Ty.eq_of_beq b.1;subst this;exact ⟨c,f,g,by simpa using b.2⟩
   ·cases h
  ·cases h
 ·cases h
def ESt.up (s:ESt) (d:Nat):ESt:=⟨s.n,(d,.own s.nxt)::s.slots,s.heap,s.nxt+1,s.rws⟩
theorem Sfx.famS (s:ESt) (k E E1:Nat) (t:Ty) (l:List (List t.den)) (a os:List Nat):Sfx s (s.famS k E E1 t l a os):=
 ⟨⟨[],rfl⟩,⟨(k,some (.out s.nxt E))::os.map fun o=>(o,none),rfl⟩,⟨(s.nxt,some ⟨E1,t,l,none⟩)::a.map fun f=>(f,none),rfl⟩,Nat.le_succ _,rfl⟩
theorem Sfx.up (s:ESt) (d:Nat):Sfx s (s.up d):=⟨⟨[_],rfl⟩,⟨[],rfl⟩,⟨[],rfl⟩,Nat.le_succ _,rfl⟩
def zzR (s:ESt) (a:Ty) (E1:Nat):List (Nat×Operand)->Nat->Option (List (Option Nat×List a.den))
 | [],_=>some []
 | (i,x)::r,k=>bif Nat.beq i k then (match s.ev x with
  | some (.own o)=>match s.ent o with
   | some (.arr E t l)=>bif Nat.beq E E1 then (match zbu (.list t) (.list a) l with
    | some b=>match zzR s a E1 r (k+1) with
     | some q=>some ((some o,b)::q)
     | none=>none
    | none=>none) else none
   | _=>none
  | some .nil=>match zzR s a E1 r (k+1) with
   | some q=>some ((none,[])::q)
   | none=>none
  | _=>none) else none
def zwM (TT:List TE) (s:ESt) (t:Nat) (l c:Operand) (d:Nat) (K:ESt->Option R):Option R:=match zCS TT t with
 | some (e,E1,te)=>match s.ev l,s.ev c with
  | some (.d (.int .i64) m),some (.d (.int .i64) k)=>bif Nat.blt (s.nxt+1) LIM && Nat.blt d s.n && zju (s.up d) s.nxt [] [] then
    G (mkOK m k 24) (K ((s.up d).famS s.nxt e E1 te (List.replicate (Int.toNat m) []) [] [])) else none
  | _,_=>none
 | none=>none
def zwK (TT:List TE) (s:ESt) (t n:Nat) (a:List (Nat×Operand)) (d:Nat) (K:ESt->Option R):Option R:=bif Nat.beq s.n 0 && Nat.beq s.n 1 then K s else none
def zwJ (TT:List TE) (s:ESt) (f i:Nat) (y:Operand) (t d:Nat) (K:ESt->Option R):Option R:=match zdd TT t with
 | some e=>match tyT TT e with
  | some a=>match zlf s f with
   | some r=>bif Nat.blt 0 a.sz && Nat.blt 0 a.bts && Nat.blt s.nxt LIM && Nat.blt d s.n && Nat.beq r.E e then (match zbu (.list r.t) (.list a) (r.l.getD i []) with
    | some xs=>zuZ s y a fun ys=>G (i < r.l.length) (G (room xs ys a.bts) (K (((⟨s.n,s.slots,s.heap,s.nxt,(f,some ⟨r.E,r.t,r.l,some i⟩)::s.rws⟩:ESt).new (.arr e a (xs++ys))).set d (.own s.nxt))))
    | none=>none) else none
   | none=>none
  | none=>none
 | none=>none
def zwI (TT:List TE) (s:ESt) (x y:Operand) (t d:Nat) (K:ESt->Option R):Option R:=bif Nat.beq s.n 0 && Nat.beq s.n 1 then K s else none
def zBp (i:Nat) (h:Option Nat) (k:Option R):Option R:=match h with
 | none=>k
 | some h=>G (i=h) k
def zub (TT:List TE) (s:ESt) (t:Nat) (x y:Operand) (K:ESt->Option R):Option R:=match tyT TT t with
 | some u=>match s.ev x with
  | some (.eptr id te i k)=>match s.ent id with
   | some (.out f E)=>match look s.rws f with
    | some (some r)=>bif Ty.beq te u && Ty.beq u (.list r.t) && Nat.beq k 0 && Nat.blt f RB && Nat.blt s.nxt LIM && Nat.blt 0 r.t.sz then (match s.ev y with
     | some .nil=>bif zju s id [f] [] then zBp i r.hole (K (s.famS id E r.E r.t (r.l.set i []) [f] [])) else none
     | some (.own o)=>match s.ent o with
      | some (.arr E' t' l')=>match zbu (.list t') (.list r.t) l' with
       | some a=>bif Nat.beq E' r.E && zju s id [f] [o] then zBp i r.hole (K (s.famS id E r.E r.t (r.l.set i a) [f] [o])) else none
       | none=>none
      | _=>none
     | _=>none) else none
    | _=>none
   | _=>none
  | some (.reptr f te _ _ k)=>match (s.dat y u).ev y with
   | some v=>match v.exact u with
    | some c=>match zlf (s.dat y u) f with
     | some r=>bif Ty.beq te r.t then (match (s.dat y u).ev x with
      | some (.reptr f2 te2 i2 j2 k2)=>bif Nat.beq f2 f && Ty.beq te2 r.t && Nat.beq k2 k then (match zxl r.t ((r.l.getD i2 []).getD j2 r.t.dflt) k u c with
       | some z=>G (j2 < (r.l.getD i2 []).length) (K (⟨(s.dat y u).n,(s.dat y u).slots,(s.dat y u).heap,(s.dat y u).nxt,(f,some ⟨r.E,r.t,r.l.set i2 ((r.l.getD i2 []).set j2 z),none⟩)::(s.dat y u).rws⟩:ESt))
       | none=>none) else none
      | _=>none) else none
     | none=>none
    | none=>none
   | none=>none
  | _=>none
 | none=>none
def evD (TT:List TE) (s:ESt) (o:Oper) (K:ESt->Option R):Option R:=match o.op,o.dst with
 | .makeSlice t l c,some d=>zwM TT s t l c d K
 | .buildSlice t n parts,some d=>zwK TT s t n parts.toList d K
 | .store t x y,none=>zub TT s t x y K
 | .call c,some d=>match c.callee,c.args.toList,c.argTypes.toList with
  | .builtin .append,[x,y],[t,t']=>bif Nat.beq t t' then (match s.ev x with
   | some (.row f _ i)=>zwJ TT s f i y t d K
   | _=>zwI TT s x y t d K) else none
  | _,_,_=>none
 | _,_=>none
section
variable {P:Program} {TT:List TE} {F:Fr} {s:ESt} {o:Oper} {K:ESt->Option R} {q:R}
theorem zEd {P:Program} {TT:List TE} (a:TOK P TT) {e:Nat} {b:Ty} (h:tyT TT e=some (.list b)):∃ z,TI P e false 1 24 z/\z.cells=#[.slice none 0 0]:=by
 obtain ⟨z,c,d⟩:=zbZ a h;exact ⟨z,c,Array.ext' d⟩
theorem zER (s:ESt) (d k:Nat):(s.up d).st.get k=if d=k then some (.own s.nxt) else s.st.get k:=zaf _ _ _ _
theorem zEQ (s:ESt) (d i:Nat):(s.up d).st.ent i=s.st.ent i:=by
 rw [zaU,zaU];rfl
theorem zDh {k:Int} (h:k * (24:Nat)<=140737488355328):k<=9223372036854775807:=by omega
theorem zua (y:TOK P TT) {t d:Nat} {l c:Operand} (D:o.dst=some d) (E:o.op = .makeSlice t l c) (h:zwM TT s t l c d K=some q):EF P F s.st o (Post s K q):=by
 unfold zwM at h;split at h
 ·rename_i e E1 J u;obtain ⟨p,I,O,Q⟩:=zys u;obtain ⟨z,R,v⟩:=zEd y O;split at h
  ·rename_i m k L M;have B:=(zac h).1;replace h:=(zac h).2;simp only [Bool.and_eq_true] at B;obtain ⟨⟨n,S⟩,g3⟩:=B;have n:s.nxt+1 < LIM:=by simpa using n
   obtain ⟨T,h⟩:=zbk h;obtain ⟨U,V,C⟩:0<=(m:Int)/\(m:Int)<=(k:Int)/\(k:Int) * (24:Nat)<=140737488355328:=T;have N:(k:Int)<=9223372036854775807:=zDh C;have b:=(AL.make_out (P:=P) (F:=F) (σ:=s.st) s.nxt rfl (by simpa using (show s.nxt < LIM by omega)) D S E (zat y p) R v (zap L) (zap M) U V C N).ef;refine (EF.conv b (σ2:=((s.up d).famS s.nxt e E1 J (List.replicate (Int.toNat m) []) [] []).st) fun a w r => ?_).post fun x H=>⟨_,H,(Sfx.up _ _).trans (Sfx.famS _ _ _ _ _ _ _ _),h⟩
   refine zul g3 n (by unfold LIM at n;unfold RB;omega) Q rfl rfl (fun i => ?_) (cells:=List.replicate (Int.toNat m) .nil) ?_ (by simp) (fun i e' f _ _ A => ?_) (fun j g => .inr ?_) (fun i j o' f g p I => ?_) r
   ·rw [zER,St.get_set];rfl
   ·rw [St.ent_set,St.ent_new];rw [if_pos (show s.st.nxt=s.nxt from rfl)]
   ·rw [zEQ] at A;rw [St.ent_set,St.ent_new];rw [if_neg (show ¬ s.st.nxt=i from fun e=>f e.symm)];exact A
   ·have g:j < Int.toNat m:=by simpa using g
    simp [List.getD_eq_getElem?_getD,g]
   ·have f:i < Int.toNat m:=by simpa using f
    simp [List.getD_eq_getElem?_getD,f] at p
  ·cases h
 ·cases h
theorem zt8 (c:TOK P TT) {t n d:Nat} {a:Array (Nat×Operand)} (e:o.dst=some d) (f:o.op = .buildSlice t n a) (h:zwK TT s t n a.toList d K=some q):EF P F s.st o (Post s K q):=by unfold zwK at h;obtain ⟨b,j⟩:=zac h;simp only [Bool.and_eq_true] at b;have g:=Nat.eq_of_beq_eq_true b.1;have i:=Nat.eq_of_beq_eq_true b.2;omega
theorem zvZ {s:ESt} {f:Nat} {r r':RW} (a:s.low=true) (l:look s.rws f=some (some r)) (g:r'.l.length=r.l.length) {j:Nat} {e:Ent}
  (h:(⟨s.n,s.slots,s.heap,s.nxt,(f,some r')::s.rws⟩:ESt).st.ent j=some e):(∃ x,j=rid f x/\r'.ent x=some e)\/((RB<=j->j % RB≠f)/\s.st.ent j=some e):=by
 rw [zaU] at h;have m:(⟨s.n,s.slots,s.heap,s.nxt,(f,some r')::s.rws⟩:ESt).heap=s.heap:=rfl;have n:(⟨s.n,s.slots,s.heap,s.nxt,(f,some r')::s.rws⟩:ESt).rws=(f,some r')::s.rws:=rfl;rw [m] at h;cases i:look s.heap j with
 | some ee=>
  rw [i] at h;cases ee with
  | none=>cases h
  | some e0=>
   have b:j < RB:=by
    unfold ESt.low at a;have:=List.all_eq_true.1 a _ (zay i);simpa using this
   simp only [Option.map_some,Option.some.injEq] at h;refine .inr ⟨fun h=>by omega,?_⟩;rw [zaU,i];simp only [Option.map_some];rw [<- h];cases e0 with
   | out d k=>
    show some (Ent.out k 24 (famA d (rlen s.rws d)))=some (Ent.out k 24 (famA d (rlen ((f,some r')::s.rws) d)));have:rlen ((f,some r')::s.rws) d=rlen s.rws d:=by
     unfold rlen;rw [zaf];by_cases c:f=d
     ·subst c;rw [if_pos rfl,l];exact g
     ·rw [if_neg c]
    rw [this]
   | _=>rfl
 | none=>
  rw [i] at h;simp only at h;have b:RB<=j:=by
   unfold zaL at h;split at h
   ·assumption
   ·cases h
  unfold zaL at h;rw [if_pos b] at h;simp only [zaf] at h;by_cases c:f=j % RB
  ·rw [if_pos c] at h;exact .inl ⟨j / RB - 1,by rw [c];exact zk3 b,h⟩
  ·rw [if_neg c] at h;refine .inr ⟨fun _ e=>c e.symm,?_⟩;rw [zk4 a b];unfold zaL;rw [if_pos b];exact h
theorem zt7 (U:TOK P TT) {t d f i:Nat} {t0:Ty} {x y:Operand} (Y:o.dst=some d) (Z:o.op = .call { callee := .builtin .append,args:=#[x,y],argTypes:=#[t,t] }) (L:s.ev x=some (.row f t0 i)) (h:zwJ TT s f i y t d K=some q):EF P F s.st o (Post s K q):=by
 unfold zwJ at h;split at h
 ·rename_i e he;split at h
  ·rename_i te M;obtain ⟨z,hz,R⟩:=zbZ U M;split at h
   ·rename_i r hw;obtain ⟨E,g,l,D⟩:=r;obtain ⟨S,m,p,u⟩:=zeV hw;have u:D=none:=u;subst u;have V:=(zac h).1;replace h:=(zac h).2;simp only [Bool.and_eq_true] at V;obtain ⟨⟨⟨⟨g1,g2⟩,g3⟩,g4⟩,g5⟩:=V;have W:E=e:=Nat.eq_of_beq_eq_true g5;split at h
    ·rename_i xs N;obtain ⟨e',v⟩:=za6 N;cases e';have v:l.getD i []=xs:=v;obtain ⟨ys,H,h⟩:=zqM h;obtain ⟨hi,h⟩:=zbk h;obtain ⟨X,h⟩:=zbk h;have O:0 < g.bts:=by simpa using g2
     have hm:∀ n:Nat,n * g.bts<=140737488355328->n<=9223372036854775807:=by
      intro n hn;have:n * 1<=n * g.bts:=Nat.mul_le_mul_left n O;omega
     have c:=ziY m p S (i:=i) (by simp) hi;have c:s.st.ent (rid f i)=some (Ent.arrOf E xs):=by rw [<- v];exact c
     have A:=EF.append (P:=P) (F:=F) (σ:=s.st) (α:=g.den) g.dflt s.nxt rfl g3 Y g4 Z (zat U he) hz W rfl rfl (by simpa using g1) (by rw [R];exact zrs g) (zap L) c H X (hm _ X);refine (EF.conv A (σ2:=(((⟨s.n,s.slots,s.heap,s.nxt,(f,some ⟨E,g,l,some i⟩)::s.rws⟩:ESt).new (.arr e g (xs++ys))).set d (.own s.nxt)).st) fun a w r => ?_).post fun x L=>⟨_,L,⟨⟨[_],rfl⟩,⟨[_],rfl⟩,⟨[_],rfl⟩,Nat.le_succ _,rfl⟩,h⟩
     refine Eqv.rel (?_:Eqv _ _) r;refine ⟨rfl,rfl,fun k x hk=>hk,fun j e0 b => ?_⟩;rw [zh1,St.ent_set,zjJ,St.ent_new] at b;rw [St.ent_set,St.ent_new];by_cases J:s.nxt=j
     ·rw [if_pos (show (ESt.st ⟨s.n,s.slots,s.heap,s.nxt,(f,some ⟨E,g,l,some i⟩)::s.rws⟩).nxt=j from J)] at b;rw [if_pos (show (s.st.put (rid f i) none).nxt=j from J),<- b,W];rfl
     ·rw [if_neg (show ¬ (ESt.st ⟨s.n,s.slots,s.heap,s.nxt,(f,some ⟨E,g,l,some i⟩)::s.rws⟩).nxt=j from J)] at b;rw [if_neg (show ¬ (s.st.put (rid f i) none).nxt=j from J),St.ent_put];rcases zvZ m S (r':=⟨E,g,l,some i⟩) rfl b with ⟨x,rfl,C⟩ | ⟨h1,C⟩
      ·unfold RW.ent at C;by_cases B:i=x
       ·subst B;simp at C
       ·simp only [Option.some.injEq,B,if_false] at C;obtain ⟨xx,I,T⟩:=Option.map_eq_some_iff.1 C;have Q:=(List.getElem?_eq_some_iff.1 I).1;rw [if_neg (fun e=>B (zuQ p p e).2),ziY m p S (i:=x) (by simp) Q,<- T];have:l.getD x []=xx:=by rw [List.getD_eq_getElem?_getD,I];rfl
        show some (Ent.arrOf E (l.getD x []))=_;rw [this]
      ·rw [if_neg (fun e=>h1 (by rw [<- e];exact zbO f i) (by rw [<- e];exact zcR p))];exact C
    ·cases h
   ·cases h
  ·cases h
 ·cases h
theorem zt6 (b:TOK P TT) {t d:Nat} {x y:Operand} (c:o.dst=some d) (e:o.op = .call { callee := .builtin .append,args:=#[x,y],argTypes:=#[t,t] }) (h:zwI TT s x y t d K=some q):EF P F s.st o (Post s K q):=by unfold zwI at h;obtain ⟨a,i⟩:=zac h;simp only [Bool.and_eq_true] at a;have f:=Nat.eq_of_beq_eq_true a.1;have g:=Nat.eq_of_beq_eq_true a.2;omega
theorem ztt {i:Nat} {h:Option Nat} {k:Option R} {q:R} (e:zBp i h k=some q):(∀ j,h=some j->j=i)/\k=some q:=by
 unfold zBp at e;cases h with
 | none=>exact ⟨fun j a=>(by cases a),e⟩
 | some d=>
  obtain ⟨b,c⟩:=zbk e;exact ⟨fun j a=>by cases a;exact b.symm,c⟩
theorem zCv {t id i f E bytes E1:Nat} {A:Ty} {l:List (List A.den)} {u:Option Nat} {z:Value} {x y:Operand} {c:EV} {B:List A.den} {os:List Nat} (hd:o.dst=none) (ho:o.op = .store t x y) (U:TI P t false 1 bytes z) (V:s.st.ev x=some (.eptr id 1 i 0)) (W:s.ent id=some (.out f E))
  (hr:look s.rws f=some (some ⟨E1,A,l,u⟩)) (p:f < RB) (Q:s.nxt < LIM) (X:0 < A.sz) (C:∀ j,u=some j->j=i) (R:zju s id [f] os=true) (hy:s.ev y=some c) (S:c.av.one=true)
  (hc:(∃ o,c.av = .own o/\s.ent o=some (.arr E1 A B)/\o∈os)\/(c.av = .nil/\B=[])) (h:K (s.famS id E E1 A (l.set i B) [f] os)=some q):EF P F s.st o (Post s K q):=by
 have m:=zot R;have Y:=zsn W hr;have Z:=zCg m W;have D:=EF.st_out (P:=P) (F:=F) (σ:=s.st) hd ho U V Y (zap hy) S;refine (EF.conv D (σ2:=(s.famS id E E1 A (l.set i B) [f] os).st) fun a w r => ?_).post fun x V=>⟨_,V,Sfx.famS _ _ _ _ _ _ _ _,h⟩
 have hcl:∀ j,j < l.length->(i≠j->((famA f l.length).set i c.av).getD j default = .own (rid f j)/\(l.set i B).getD j []=l.getD j [])/\(i=j->((famA f l.length).set i c.av).getD j default=c.av/\(l.set i B).getD j []=B):=by
  intro j v;constructor
  ·intro g;simp only [List.getD_eq_getElem?_getD];rw [List.getElem?_set_ne g,List.getElem?_set_ne g,<- List.getD_eq_getElem?_getD,<- List.getD_eq_getElem?_getD];exact ⟨zeG v,rfl⟩
  ·intro g;subst g;simp [List.getD_eq_getElem?_getD,v,zgj]
 have n:∀ M e',M≠id->s.st.ent M=some e'->(s.st.put id (some (.out E 24 ((famA f l.length).set i c.av)))).ent M=some e':=fun M e' d k=>by
  rw [St.ent_put,if_neg (fun e=>d e.symm)];exact k
 refine zul (σ:=s.st.put id (some (Ent.out E 24 ((famA f l.length).set i c.av)))) R Q Z X rfl rfl (fun _=>rfl) (cells:=(famA f l.length).set i c.av) ?_ (by simp [zgj]) (fun M e' hi _ _ he=>n M e' hi he) (fun j v => ?_) (fun a b o' N O d k => ?_) r
 ·rw [St.ent_put,if_pos rfl]
 ·have v:j < l.length:=by simpa using v
  by_cases g:i=j
  ·obtain ⟨d,k⟩:=(hcl j v).2 g;rw [d,k];rcases hc with ⟨o',J,L,h5⟩ | ⟨J,L⟩
   ·refine .inl ⟨o',J,n _ _ (fun e => ?_) (zaN L),.inl h5⟩;subst e;rw [W] at L;cases L
   ·exact .inr ⟨J,L⟩
  ·obtain ⟨d,k⟩:=(hcl j v).1 g;rw [d,k];refine .inl ⟨_,rfl,n _ _ (fun e => ?_) (ziY m p hr (fun e=>g (C j e).symm) v),.inr ⟨zbO _ _,by rw [zcR p];simp⟩⟩;have:=zbO f j;omega
 ·have N:a < l.length:=by simpa using N
  have O:b < l.length:=by simpa using O
  have T:∀ j,j < l.length->c.av = .own o'->o'≠rid f j:=fun j _ e e2=>by
   rcases hc with ⟨o2,J,L,h5⟩ | ⟨J,_⟩
   ·rw [J] at e;cases e;have:=zCg m L;have:=zbO f j;omega
   ·rw [J] at e;cases e
  by_cases H:i=a<;>by_cases I:i=b
  ·omega
  ·rw [((hcl a N).2 H).1] at d;rw [((hcl b O).1 I).1] at k;injection k with k
   exact absurd k.symm (T b O d)
  ·rw [((hcl a N).1 H).1] at d;rw [((hcl b O).2 I).1] at k;injection d with d
   exact absurd d.symm (T a N k)
  ·rw [((hcl a N).1 H).1] at d;rw [((hcl b O).1 I).1] at k;rw [<- k] at d;injection d with d
   exact (zuQ p p d).2
theorem zs8 (hT:TOK P TT) {t:Nat} {x y:Operand} (V:o.dst=none) (W:o.op = .store t x y) (h:zub TT s t x y K=some q):∃ s0,Wk s s0/\Sfx s s0/\EF P F s0.st o (Post s K q):=by
 unfold zub at h;split at h
 ·rename_i u hu;obtain ⟨z,hz,_⟩:=zbZ hT hu;split at h
  ·rename_i id te i k L;split at h
   ·rename_i f E T;split at h
    ·rename_i r J;obtain ⟨E1,t1,l,B⟩:=r;have d:=(zac h).1;replace h:=(zac h).2;simp only [Bool.and_eq_true] at d;obtain ⟨⟨⟨⟨⟨N,O⟩,b3⟩,b4⟩,b5⟩,b6⟩:=d;have N:=Ty.eq_of_beq N;subst N;have O:=Ty.eq_of_beq O;subst O;have b3:=Nat.eq_of_beq_eq_true b3;subst b3;split at h
     ·rename_i Y;have hok:=(zac h).1;replace h:=(zac h).2;obtain ⟨hh,h⟩:=ztt h;exact ⟨s,Wk.refl _,Sfx.refl _,zCv V W hz (zap L) T J (by simpa using b4) (by simpa using b5) (by simpa using b6) hh hok Y rfl (.inr ⟨rfl,rfl⟩) h⟩
     ·rename_i o' Y;split at h
      ·rename_i E' t' l' hE;split at h
       ·rename_i x' Z;obtain ⟨e',rfl⟩:=za6 Z;cases e';have d:=(zac h).1;replace h:=(zac h).2;simp only [Bool.and_eq_true] at d;have:=Nat.eq_of_beq_eq_true d.1;subst this;obtain ⟨hh,h⟩:=ztt h;exact ⟨s,Wk.refl _,Sfx.refl _,zCv V W hz (zap L) T J (by simpa using b4) (by simpa using b5) (by simpa using b6) hh d.2 Y rfl (.inl ⟨o',rfl,hE,by simp⟩) h⟩
       ·cases h
      ·cases h
     ·cases h
    ·cases h
   ·cases h
  ·rename_i f te _ _ k L;have Q:=zji s y u;have C:=Sfx.dat s y u;generalize hs1:s.dat y u=s1 at h Q C;split at h
   ·rename_i v hv;split at h
    ·rename_i c hc;have:=zd9 hc;subst this;split at h
     ·rename_i r hw;obtain ⟨E1,t1,l,B⟩:=r;obtain ⟨J,g,n,D⟩:=zeV hw;have D:B=none:=D;subst D;have d:=(zac h).1;replace h:=(zac h).2;have:=Ty.eq_of_beq d;subst this;split at h
      ·rename_i f2 M p j2 k2 A;have d:=(zac h).1;replace h:=(zac h).2;simp only [Bool.and_eq_true] at d;obtain ⟨⟨N,O⟩,b4⟩:=d;have:=Nat.eq_of_beq_eq_true N;subst this;have:=Ty.eq_of_beq O;subst this;have:=Nat.eq_of_beq_eq_true b4;subst this;split at h
       ·rename_i zz hzz;obtain ⟨hg,h⟩:=zbk h;have R:p < l.length:=zup (j:=j2) hg;have S:s1.st.ent (rid f2 p)=some (Ent.arrOf E1 (l.getD p [])):=ziY g n J (by simp) R;have H:=EF.st_eptr_sub (P:=P) (F:=F) (σ:=s1.st) V W hz (zap A) S (zap hv) hg hzz;refine ⟨s1,Q,C,(EF.conv H (σ2:=(⟨s1.n,s1.slots,s1.heap,s1.nxt,(f2,some ⟨E1,M,l.set p ((l.getD p []).set j2 zz),none⟩)::s1.rws⟩:ESt).st) fun a w r => ?_).post fun x L=>⟨_,L,C.trans ⟨⟨[],rfl⟩,⟨[],rfl⟩,⟨[_],rfl⟩,Nat.le_refl _,rfl⟩,h⟩⟩;refine Eqv.rel (?_:Eqv _ _) r;refine ⟨rfl,rfl,fun k x T=>T,fun m e0 X => ?_⟩;rw [St.ent_put];rcases zvZ g J (r':=⟨E1,M,l.set p ((l.getD p []).set j2 zz),none⟩) (by simp) X with ⟨x,rfl,U⟩ | ⟨h1,U⟩
        ·simp only [RW.ent,reduceCtorEq,if_false] at U;obtain ⟨xx,b,A⟩:=Option.map_eq_some_iff.1 U;by_cases I:p=x
         ·subst I;rw [if_pos rfl,<- A];rw [List.getElem?_set] at b;simp only [if_true,R] at b;cases b;rfl
         ·rw [if_neg (fun e=>I (zuQ n n e).2)];rw [List.getElem?_set_ne I] at b;have hlt:=(List.getElem?_eq_some_iff.1 b).1;rw [ziY g n J (i:=x) (by simp) hlt,<- A];have:l.getD x []=xx:=by rw [List.getD_eq_getElem?_getD,b];rfl
          show some (Ent.arrOf E1 (l.getD x []))=_;rw [this]
        ·rw [if_neg (fun e=>h1 (by rw [<- e];exact zbO f2 p) (by rw [<- e];exact zcR n))];exact U
       ·cases h
      ·cases h
     ·cases h
    ·cases h
   ·cases h
  ·cases h
 ·cases h
theorem zzG (g:TOK P TT) (h:evD TT s o K=some q):∃ s0,Wk s s0/\Sfx s s0/\EF P F s0.st o (Post s K q):=by
 unfold evD at h;split at h
 ·rename_i t l c d e b;exact ⟨s,Wk.refl _,Sfx.refl _,zua g b e h⟩
 ·rename_i t n j d e b;exact ⟨s,Wk.refl _,Sfx.refl _,zt8 g b e h⟩
 ·rename_i t x y e b;exact zs8 g b e h
 ·rename_i c d e b;split at h
  ·rename_i x y t t' k m p;have u:=(zac h).1;replace h:=(zac h).2;have:=Nat.eq_of_beq_eq_true u;subst this;have a:o.op = .call { callee := .builtin .append,args:=#[x,y],argTypes:=#[t,t] }:=by
    rw [e];obtain ⟨z,v,w⟩:=c;simp only at k m p;subst k;rw [show v=#[x,y] from Array.ext' m,show w=#[t,t] from Array.ext' p]
   split at h
   ·rename_i f t0 i r;exact ⟨s,Wk.refl _,Sfx.refl _,zt7 g b a r h⟩
   ·exact ⟨s,Wk.refl _,Sfx.refl _,zt6 g b a h⟩
  ·cases h
 ·cases h
end
def ESt.cellUp (s:ESt) (id j T:Nat) (cs:List EV):ESt:=⟨s.n,s.slots,(id,some (.box T (cs.set j (.own s.nxt))))::s.heap,s.nxt+1,s.rws⟩
def ESt.nil1D (s:ESt) (id j E E1:Nat) (t:Ty):ESt:=match s.ent id with
 | some (.box T cs)=>match cs[j]? with
  | some .nil=>bif Nat.blt (s.nxt+1) LIM && Nat.blt 0 t.sz && zju (s.cellUp id j T cs) s.nxt [] [] then (s.cellUp id j T cs).famS s.nxt E E1 t [] [] [] else s
  | _=>s
 | _=>s
theorem zrp (s:ESt) (id j E E1:Nat) (t:Ty):Wk s (s.nil1D id j E E1 t)/\Sfx s (s.nil1D id j E E1 t):=by
 unfold ESt.nil1D;split
 ·rename_i T cs n;split
  ·rename_i f;have g:(EV.avL cs)[j]? =some .nil:=by rw [zfd,List.getElem?_map,f];rfl
   cases p:Nat.blt (s.nxt+1) LIM && Nat.blt 0 t.sz && zju (s.cellUp id j T cs) s.nxt [] [] with
   | false=>exact ⟨Wk.refl _,Sfx.refl _⟩
   | true=>
    simp only [Bool.and_eq_true] at p;obtain ⟨⟨c,h⟩,b3⟩:=p;have c:s.nxt+1 < LIM:=by simpa using c
    have h:0 < t.sz:=by simpa using h
    have l:Sfx s (s.cellUp id j T cs):=⟨⟨[],rfl⟩,⟨[_],rfl⟩,⟨[],rfl⟩,Nat.le_succ _,rfl⟩;refine ⟨⟨fun F a w ⟨H,r⟩ => ?_,fun k t x b=>b⟩,l.trans (Sfx.famS _ _ _ _ _ _ _ _)⟩;have m:id≠s.nxt:=fun e=>by
     obtain ⟨v,u,_⟩:=r.ent id _ (zaN n);have y:=r.fresh0 s.nxt (Nat.le_refl _) (show s.st.nxt < LIM by show s.nxt < LIM;omega);rw [e,y] at u;cases u
    have r1:=r.nilcellE (e0 := .out E 24 []) (by show s.nxt < LIM;omega) (fun w _ _ => .out E 24 [] _ [] (zdW.of_row (World.ownsRow_nil w 0 E 1)) (by simp [most]) (by simp)) (zaN n) g;rw [cond_true];refine zul (s:=s.cellUp id j T cs) (σ:=(s.st.new (.out E 24 [])).put id (some (.box T ((EV.avL cs).set j (.own s.st.nxt))))) (cells:=[]) b3 (by show s.nxt+1 < LIM;exact c) (by unfold LIM at c;unfold RB;omega) h rfl rfl (fun q=>rfl) ?_ rfl (fun i e' d _ _ b => ?_) (fun j f=>absurd f (by simp)) (fun i j o d=>absurd d (by simp)) ⟨_,r1⟩
    ·rw [St.ent_put,if_neg m,St.ent_new,if_pos (show s.st.nxt=s.nxt from rfl)]
    ·rw [zaU] at b;show _=some e';rw [St.ent_put];have b:(match look ((id,some (.box T (cs.set j (.own s.nxt))))::s.heap) i with
      | some e=>e.map (EEnt.ent s.rws)
      | none=>zaL s.rws i)=some e':=b
     rw [zaf] at b;by_cases e:id=i
     ·rw [if_pos e] at b ⊢;simp only [Option.map_some,Option.some.injEq] at b;rw [<- b];simp only [EEnt.ent,znE];rfl
     ·rw [if_neg e] at b ⊢;rw [St.ent_new,if_neg (show ¬ s.st.nxt=i from fun e=>d e.symm),zaU];exact b
  ·exact ⟨Wk.refl _,Sfx.refl _⟩
 ·exact ⟨Wk.refl _,Sfx.refl _⟩
def ESt.nilBD (TT:List TE) (id T:Nat):Nat->ESt->ESt
 | 0,s=>s
 | j+1,s=>match zEa TT T j with
  | some (E,.list t)=>match zCU TT E with
   | some (E1,_)=>(ESt.nilBD TT id T j s).nil1D id j E E1 t
   | none=>ESt.nilBD TT id T j s
  | some (E,t)=>(ESt.nilBD TT id T j s).nil1 id j E t
  | none=>ESt.nilBD TT id T j s
theorem zxX (TT:List TE) (id T:Nat):∀ (j:Nat) (s:ESt),Wk s (ESt.nilBD TT id T j s)/\Sfx s (ESt.nilBD TT id T j s)
 | 0,s=>⟨Wk.refl _,Sfx.refl _⟩
 | j+1,s=>by
  obtain ⟨a,b⟩:=zxX TT id T j s;simp only [ESt.nilBD];split
  ·split
   ·exact ⟨a.trans (zrp _ _ _ _ _ _).1,b.trans (zrp _ _ _ _ _ _).2⟩
   ·exact ⟨a,b⟩
  ·exact ⟨a.trans (zux _ _ _ _ _).1,b.trans (zux _ _ _ _ _).2⟩
  ·exact ⟨a,b⟩
def zur (TT:List TE) (nil:Bool):ESt->List Operand->ESt
 | s,[]=>s
 | s,x::r=>match s.ev x with
  | some (.view _ t _ _)=>zur TT nil (s.dat x (.list t)) r
  | some (.ptr id _)=>bif nil then (match s.ent id with
   | some (.box T cs)=>zur TT nil (ESt.nilBD TT id T cs.length s) r
   | _=>zur TT nil s r) else zur TT nil s r
  | _=>zur TT nil s r
theorem zmE (TT:List TE) (nil:Bool):∀ (l:List Operand) (s:ESt),Wk s (zur TT nil s l)/\Sfx s (zur TT nil s l)
 | [],s=>⟨Wk.refl s,Sfx.refl s⟩
 | x::r,s=>by
  simp only [zur];split
  ·rename_i t _ _ _;obtain ⟨a,b⟩:=zmE TT nil r (s.dat x (.list t));exact ⟨(zji s x _).trans a,(Sfx.dat s x _).trans b⟩
  ·rename_i id _ _;cases nil with
   | true=>
    rw [cond_true];split
    ·rename_i T cs _;obtain ⟨d,c⟩:=zxX TT id T cs.length s;obtain ⟨a,b⟩:=zmE TT true r (ESt.nilBD TT id T cs.length s);exact ⟨d.trans a,c.trans b⟩
    ·exact zmE TT true r s
   | false=>exact zmE TT false r s
  ·exact zmE TT nil r s
def evK (TT:List TE) (Γ:List CE) (nil:Bool) (s:ESt) (o:Oper) (K:ESt->Option R):Option R:=match o.op,o.dst with
 | .call c,some d=>match c.callee with
  | .value f=>zt4 TT Γ (zur TT nil s c.args.toList) f c.args d false K
  | _=>none
 | _,_=>none
theorem zvr {P:Program} {TT:List TE} {Γ:List CE} {F:Fr} {s:ESt} {o:Oper} {K:ESt->Option R} {q:R} (e:GOK P Γ) {nil:Bool} (h:evK TT Γ nil s o K=some q):∃ s0,Wk s s0/\Sfx s s0/\EF P F s0.st o (Post s K q):=by
 unfold evK at h;split at h
 ·rename_i c d i j;split at h
  ·rename_i f k;obtain ⟨l,b⟩:=zmE TT nil c.args.toList s;refine ⟨_,l,b,fun a w r=>Oper.wp_mono2 (fun n w' g => ?_) (fun _ _ _ h=>h) (zoq e j (ts:=c.argTypes) (by rw [i,<- k]) h a w r)⟩;obtain ⟨⟨m,_⟩,σ',⟨s',e1,e2,e3⟩,g3⟩:=g;exact ⟨m,σ',⟨s',e1,b.trans e2,e3⟩,g3⟩
  ·cases h
 ·cases h
def ESt.flatR (s:ESt) (x:Operand):ESt:=match s.ev x with
 | some (.own id)=>match s.ent id with
  | some (.out f E)=>match look s.rws f with
   | some (some r)=>bif r.hole.isNone && zju s id [f] [] && Nat.blt f RB then s.frzR id f E r.t r.l else s
   | _=>s
  | _=>s
 | _=>s
theorem zBf (s:ESt) (x:Operand):Wk s (s.flatR x)/\Sfx s (s.flatR x):=by
 unfold ESt.flatR;split
 ·rename_i id e;split
  ·rename_i f E g;split
   ·rename_i r h;cases c:r.hole.isNone && zju s id [f] [] && Nat.blt f RB with
    | false=>rw [cond_false];exact ⟨Wk.refl _,Sfx.refl _⟩
    | true=>
     rw [cond_true];simp only [Bool.and_eq_true] at c;obtain ⟨⟨i,j⟩,b3⟩:=c;obtain ⟨E1,t,l,b⟩:=r;have:b=none:=by cases b;rfl;cases i
     subst this;exact ⟨⟨fun F a w ⟨H,r⟩=>⟨H,zBj j (by simpa using b3) g h r⟩,fun k t x d=>d⟩,⟨⟨[],rfl⟩,⟨[(id,some (.arr E (.list t) l))],rfl⟩,⟨[(f,none)],rfl⟩,Nat.le_refl _,rfl⟩⟩
   ·exact ⟨Wk.refl _,Sfx.refl _⟩
  ·exact ⟨Wk.refl _,Sfx.refl _⟩
 ·exact ⟨Wk.refl _,Sfx.refl _⟩
def zyA (s:ESt):Op->ESt
 | .call c=>match c.args.toList with
  | x::_=>s.flatR x
  | _=>s
 | _=>s
theorem zBe (s:ESt) (o:Op):Wk s (zyA s o)/\Sfx s (zyA s o):=by
 unfold zyA;split
 ·split
  ·exact zBf s _
  ·exact ⟨Wk.refl _,Sfx.refl _⟩
 ·exact ⟨Wk.refl _,Sfx.refl _⟩
end
end Go.Ab
