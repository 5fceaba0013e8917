import Derived.Test.YtajabcfngklacaaEv40n19
import Derived.Tactics
import Derived.Tactics2
import Derived.Recover
set_option linter.unusedVariables false
set_option linter.unusedSimpArgs false
set_option linter.unusedSectionVars false
namespace Go.Ab
noncomputable section
set_option linter.unusedVariables false
section
variable {A B C:Type}
theorem zCy (o:Option (C⊕(Int×Int))) (k:C->Option B) (a:Int×Int->Option B):pbind o k a=o.bind fun
  | .inl y=>k y
  | .inr p=>a p:=by
 unfold pbind;cases o with
 | none=>rfl
 | some z=>cases z<;>rfl
theorem ChO.pbind2 {o:Nat->Option (C⊕(Int×Int))} {b:Option (C⊕(Int×Int))} {x:C->Nat->Option B} {y:C->Option B} {a:Int×Int->Nat->Option B} {d:Int×Int->Option B}
  (e:ChO o b) (h:∀ c,ChO (x c) (y c)) (f:∀ p,ChO (a p) (d p)):ChO (fun n=>Go.Ab.pbind (o n) (fun c=>x c n) (fun p=>a p n)) (Go.Ab.pbind b (fun c=>y c) (fun p=>d p)):=by
 simp only [zCy];refine ChO.bind2 (x:=fun z n=>match z with
  | .inl c=>x c n
  | .inr p=>a p n) e fun z => ?_
 cases z with
 | inl c=>exact h c
 | inr p=>exact f p
theorem ChO.pbind {o:Option (C⊕(Int×Int))} {x:C->Nat->Option B} {y:C->Option B} {a:Int×Int->Nat->Option B} {b:Int×Int->Option B}
  (h:∀ c,ChO (x c) (y c)) (d:∀ p,ChO (a p) (b p)):ChO (fun n=>Go.Ab.pbind o (fun c=>x c n) (fun p=>a p n)) (Go.Ab.pbind o (fun c=>y c) (fun p=>b p)):=
 ChO.pbind2 (ChO.const o) h d
theorem zbP (y:C) (k:C->Option B) (a:Int×Int->Option B):Go.Ab.pbind (some (.inl y)) k a=k y:=rfl
theorem zbh (p:Int×Int) (k:C->Option B) (a:Int×Int->Option B):Go.Ab.pbind (some (.inr p)) k a=a p:=rfl
end
structure CatchOK (P:Program) (T g Ta Tb:Nat) (nilv:Value):Prop where
 call:∀ (as:Array Value) (w:World),(callFunc g as).run P w = .ok (.enter g as) w
 idle:∀ (va vb:Value) (w:World),CallsD P g #[va,vb] .returning w (fun e u w'=>(∃ v,e = .returned v)/\u = .returning/\w'=w)
 caught:∀ (p:Int×Int) (w:World) (ba bb:Nat) (ca cb:Array Value),ba≠bb->w.heap[ba]? =some (.cells ca Ta (0,0))->ca.size=1->w.heap[bb]? =some (.cells cb Tb (0,0))->cb.size=2->
  CallsD P g #[.pointer (some ⟨ba,0,none⟩),.pointer (some ⟨bb,0,none⟩)] (.panicking (pch T p)) w (fun e u w'=>(∃ v,e = .returned v)/\settle u = .returning/\
   (w'.os=w.os/\w'.tape=w.tape/\w'.output=w.output/\w.heap.size<=w'.heap.size)/\(∀ b,b < w.heap.size->b≠ba->b≠bb->w'.heap[b]? =w.heap[b]?)/\
   w'.heap[ba]? =some (.cells #[nilv] Ta (0,0))/\w'.heap[bb]? =some (.cells #[.int .i64 p.1,.int .i64 p.2] Tb (0,0)))
def pinV (a b:Nat):EV->EV
 | .d t x => .d t x
 | .ptr i 0=>bif Nat.beq i a then .ptr LIM 0 else bif Nat.beq i b then .ptr (LIM+1) 0 else .any
 | _ => .any
def zyT:EV->Bool
 | .d _ _=>true
 | .nil=>true
 | .lit a=>nilT a
 | _=>false
def isZ:Bool->EV->Bool
 | false,.nil=>true
 | true,.lit a=>nilT a
 | true,.d (.tree _) x => !x.isMk
 | _,_=>false
def zV:Bool->Value
 | false => .slice none 0 0
 | true => .pointer none
def zE:Bool->EV
 | false => .nil
 | true => .lit (.pointer none)
theorem zFw (k:Bool) (w:World) (S:Nat->Prop) (H:Hd):VRel w S H (zE k).av (zV k):=by
 cases k with
 | false=>exact .nil
 | true=>exact .d _ _ (.lit _ rfl)
theorem zCo {k:Bool} {x:EV} (h:isZ k x=true) {w:World} {S:Nat->Prop} {H:Hd} {v:Value} (a:VRel w S H x.av v):v=zV k:=by
 unfold isZ at h;split at h
 ·cases a;rfl
 ·have e:=zyk h;subst e;have a:VRel w S H (.d (.lit (.pointer none))) v:=a;cases a with
  | d _ _ h=>cases h;rfl
 ·rename_i u x;cases x with
  | mk _ _=>cases h
  | nil=>
   have a:VRel w S H (.d (.lit (.pointer none))) v:=a;cases a with
   | d _ _ h=>cases h;rfl
 ·cases h
def pinS (a b:Nat) (s:ESt):Option ESt:=match s.ent a,s.ent b with
 | some (.box Ta ca),some (.box Tb cb)=>bif ca.all zyT && cb.all zyT && !Nat.beq a b && Nat.ble s.nxt LIM then
   some ⟨s.n,s.slots.map fun p=>(p.1,pinV a b p.2),[(LIM,some (.box Ta ca)),(LIM+1,some (.box Tb cb))],s.nxt,[]⟩ else none
 | _,_=>none
section
variable {P:Program} {F:Fr} {H:Hd} {a0:Act} {w:World}
def pinH (a b:Nat) (H:Hd):Hd:=fun id=>if id=LIM then H a else if id=LIM+1 then H b else H id
theorem zAx {S S':Nat->Prop} {H H':Hd} {w:World} (f:∀ b,S b->S' b):∀ {x:EV} {v:Value},zyT x=true->VRel w S H x.av v->VRel w S' H' x.av v
 | .d t x,v,_,h=>by
  cases h with
  | d _ _ g=>exact .d _ _ (g.mono fun b c=>⟨f b c,rfl⟩)
 | .nil,v,_,h=>by cases h;exact .nil
 | .lit a,v,hc,h=>by
  have e:=zyk hc;subst e;have h:VRel w S H (.d (.lit (.pointer none))) v:=h;cases h with
  | d _ _ h=>exact .d _ _ (h.mono fun b c=>⟨f b c,rfl⟩)
theorem zDX {a b:Nat} {s s':ESt} (h:pinS a b s=some s') (r:RelH F s.st H a0 w) (D:List Deferred):
  RelH { F with H0:=pinH a b H,D:=D } s'.st (pinH a b H) { a0 with defers:=D } w:=by
 unfold pinS at h;split at h
 ·rename_i Ta T Tb U h1 h2;have R:=(zad h).1;replace h:=(zad h).2;cases h;simp only [Bool.and_eq_true,Bool.not_eq_true'] at R;obtain ⟨⟨⟨hca,hcb⟩,hab⟩,hnx⟩:=R;have W:a≠b:=fun e=>by subst e;simp at hab
  have e1:=zbw h1;have e2:=zbw h2;obtain ⟨va,ha,ra⟩:=r.ent a _ e1;obtain ⟨vb,R,rb⟩:=r.ent b _ e2;have L:∀ id e,(⟨s.n,s.slots.map fun p=>(p.1,pinV a b p.2),[(LIM,some (.box Ta T)),(LIM+1,some (.box Tb U))],s.nxt,[]⟩:ESt).st.ent id=some e->
    (id=LIM/\e = .box Ta (EV.avL T))\/(id=LIM+1/\e = .box Tb (EV.avL U)):=by
   intro id e f;rw [zbC] at f;simp only [zan] at f;split at f
   ·rename_i q V;split at V
    ·rename_i e';cases V;cases f;exact .inl ⟨e'.symm,rfl⟩
    ·split at V
     ·rename_i e';cases V;cases f;exact .inr ⟨e'.symm,rfl⟩
     ·cases V
   ·unfold zbi at f;split at f
    ·cases f
    ·cases f
  have hA:pinH a b H LIM=some va:=by unfold pinH;rw [if_pos rfl];exact ha
  have hB:pinH a b H (LIM+1)=some vb:=by unfold pinH;rw [if_neg (by omega),if_pos rfl];exact R
  have A:∀ id e v,(⟨s.n,s.slots.map fun p=>(p.1,pinV a b p.2),[(LIM,some (.box Ta T)),(LIM+1,some (.box Tb U))],s.nxt,[]⟩:ESt).st.ent id=some e->pinH a b H id=some v->
    ∃ m e0,s.st.ent m=some e0/\H m=some v/\(m=a/\id=LIM\/m=b/\id=LIM+1):=by
   intro id e v f g;rcases L id e f with ⟨rfl,_⟩ | ⟨rfl,_⟩
   ·rw [hA] at g;cases g;exact ⟨a,_,e1,ha,.inl ⟨rfl,rfl⟩⟩
   ·rw [hB] at g;cases g;exact ⟨b,_,e2,R,.inr ⟨rfl,rfl⟩⟩
  have Y:∀ c,Sh F.X s.st.ent H w c->Sh F.X (⟨s.n,s.slots.map fun p=>(p.1,pinV a b p.2),[(LIM,some (.box Ta T)),(LIM+1,some (.box Tb U))],s.nxt,[]⟩:ESt).st.ent (pinH a b H) w c:=
   fun c n=>⟨n.1,n.2.1,fun id e v f g a1=>by
    obtain ⟨m,e0,N,I,_⟩:=A id e v f g;exact n.2.2 m e0 v N I a1⟩
  have M:∀ {Tx:TypeId} {O:List EV} {vx:Value},O.all zyT=true->EntRel w (Sh F.X s.st.ent H w) H (.box Tx (EV.avL O)) vx->
    EntRel w (Sh F.X (⟨s.n,s.slots.map fun p=>(p.1,pinV a b p.2),[(LIM,some (.box Ta T)),(LIM+1,some (.box Tb U))],s.nxt,[]⟩:ESt).st.ent (pinH a b H) w) (pinH a b H) (.box Tx (EV.avL O)) vx:=by
   intro Tx O vx hcx hr;have E:∀ (j:Nat) (x:AV),(EV.avL O)[j]? =some x->∃ y:EV,O[j]? =some y/\x=y.av:=by
    intro j x S;rw [zhf,List.getElem?_map] at S;obtain ⟨y,hy,e⟩:=Option.map_eq_some_iff.1 S;exact ⟨y,hy,e.symm⟩
   generalize Z:EV.avL O=l at hr E;cases hr with
   | box _ _ b' cur hb' hs X=>
    refine .box _ _ b' cur hb' hs fun j S => ?_
    have B:l[j]? =some (l.getD j default):=by rw [List.getD_eq_getElem?_getD,List.getElem?_eq_getElem S];rfl
    obtain ⟨y,hy,e⟩:=E j _ B;rw [e];refine zAx Y (List.all_eq_true.1 hcx y (List.mem_of_getElem? hy)) (H:=H) ?_;rw [<- e];exact X j S
   | mp _ kb vb' ks vs bm es Q hbm h3 h4 hk g n=>exact .mp _ kb vb' ks vs bm es Q hbm h3 h4 (fun i hi=>(hk i hi).mono fun c C=>⟨Y c C,rfl⟩) (fun i hi=>(g i hi).mono fun c C=>⟨Y c C,rfl⟩) n
  exact {
   size:=r.size,defs:=rfl,os:=r.os,tape:=r.tape,output:=r.output,grow:=r.grow,keep:=r.keep,xlt:=r.xlt
   fresh:=fun id N I=>by
    have:id≠LIM:=fun e=>by subst e;rw [zuP (by unfold LIM RB;omega)] at I;omega
    have:id≠LIM+1:=fun e=>by subst e;rw [zuP (by unfold LIM RB;omega)] at I;omega
    unfold pinH;rw [if_neg (by assumption),if_neg (by assumption)];exact r.fresh id N I
   pin:=fun _ _=>rfl
   ent:=fun id e f=>by
    rcases L id e f with ⟨rfl,rfl⟩ | ⟨rfl,rfl⟩
    ·exact ⟨va,hA,M hca ra⟩
    ·exact ⟨vb,hB,M hcb rb⟩
   own:=fun id e v c f g n=>by
    obtain ⟨m,e0,N,I,_⟩:=A id e v f g;exact r.own m e0 v c N I n
   inj:=fun id id' e e' v v' c f he' g hv' n C=>by
    obtain ⟨i0,e0,N,I,g3⟩:=A id e v f g;obtain ⟨i1,e1',g4,g5,g6⟩:=A id' e' v' he' hv';have:=r.inj i0 i1 e0 e1' v v' c N g4 I g5 n C;subst this;rcases g3 with ⟨k1,k2⟩ | ⟨k1,k2⟩<;>rcases g6 with ⟨k3,k4⟩ | ⟨k3,k4⟩
    ·rw [k2,k4]
    ·exact absurd (k1.symm.trans k3) W
    ·exact absurd (k3.symm.trans k1) W
    ·rw [k2,k4]
   slot:=fun k x B=>by
    rw [zoN] at B;have B:((look (s.slots.map fun p=>(p.1,pinV a b p.2)) k).map EV.av)=some x:=B;rw [zpe] at B;cases Z:look s.slots k with
    | none=>rw [Z] at B;cases B
    | some y=>
     rw [Z] at B;have B:some (pinV a b y).av=some x:=B;cases B;have g:=r.slot k y.av (by rw [zoN];show (look s.slots k).map EV.av=_;rw [Z];rfl);cases y with
     | d t z=>
      cases g with
      | d _ _ h1=>exact .d _ _ (h1.mono fun c n=>⟨Y c n,rfl⟩)
     | ptr i o=>
      cases o with
      | zero=>
       cases J:Nat.beq i a with
       | true=>
        have e0:pinV a b (.ptr i 0) = .ptr LIM 0:=by
         show (bif Nat.beq i a then _ else _)=_;rw [J];rfl
        have:=Nat.eq_of_beq_eq_true J;rw [e0];generalize a0.tmps.getD k undef=u at g;cases g with
        | ptr _ _ c n=>exact VRel.ptr LIM 0 c (by rw [hA,<- ha,<- this];exact n)
       | false=>
        cases P:Nat.beq i b with
        | true=>
         have e0:pinV a b (.ptr i 0) = .ptr (LIM+1) 0:=by
          show (bif Nat.beq i a then _ else bif Nat.beq i b then _ else _)=_;rw [J,P];rfl
         have:=Nat.eq_of_beq_eq_true P;rw [e0];generalize a0.tmps.getD k undef=u at g;cases g with
         | ptr _ _ c n=>exact VRel.ptr (LIM+1) 0 c (by rw [hB,<- R,<- this];exact n)
        | false=>
         have e0:pinV a b (.ptr i 0) = .any:=by
          show (bif Nat.beq i a then _ else bif Nat.beq i b then _ else _)=_;rw [J,P];rfl
         rw [e0];exact .any _
      | succ o=>exact .any _
     | _=>exact .any _ }
 ·cases h
def zx2 (g sa sb:Nat) (ops:Array Oper) (s:ESt):Option ESt:=match ops.toList with
 | [o1,o2]=>match o1.op,o1.dst,o1.guard,o2.op,o2.dst,o2.guard with
  | .makeFunc (.func g') first caps,some d,none,.defer c,none,none=>match first.toList,caps.toList,c.callee,c.args.toList with
   | [],[.tmp x,.tmp y],.value (.tmp d'),[]=>bif Nat.beq g' g && Nat.beq d' d && Nat.beq x sa && Nat.beq y sb && Nat.blt d s.n then (match s.get sa,s.get sb with
     | some (.ptr a 0),some (.ptr b 0)=>pinS a b (s.set d .any)
     | _,_=>none) else none
   | _,_,_,_=>none
  | _,_,_,_,_,_=>none
 | _=>none
theorem zxX {g sa sb id:Nat} {ops:Array Oper} {s Y:ESt} {a0:Act} (h:zx2 g sa sb ops s=some Y) (r:RelH F s.st H a0 w) {Q:Exit->Act->World->Prop}
  (hQ:∀ (F1:Fr) (H1:Hd) (a1:Act) (va vb:Value),F1.w=F.w->F1.O=F.O->F1.X=F.X->F1.D=[{ target := .fn (.func g) #[va,vb],args:=#[] }]->RelH F1 Y.st H1 a1 w->F1.H0 LIM=some va->F1.H0 (LIM+1)=some vb->a0.defers=[]->Q .normal a1 w)
  (hD:F.D=[]):(Code.region id ops false).wp P Q a0 w:=by
 unfold zx2 at h;split at h
 ·rename_i f l n;split at h
  ·rename_i e first j d c h1 Z h3 h4 h5 h6
   split at h
   ·rename_i x y i hf p q M;have hb:=(zad h).1;replace h:=(zad h).2;simp only [Bool.and_eq_true] at hb;obtain ⟨⟨⟨⟨N,O⟩,R⟩,S⟩,b5⟩:=hb;have N:=Nat.eq_of_beq_eq_true N;have O:=Nat.eq_of_beq_eq_true O;have R:=Nat.eq_of_beq_eq_true R;have S:=Nat.eq_of_beq_eq_true S;subst N;subst O;subst R;subst S;split at h
    ·rename_i t z hx hy;have A:i < s.n:=by simpa using b5
     have B:=r.slot x _ (zf0 hx);have C:=r.slot y _ (zf0 hy);obtain ⟨a,e1,e2⟩:∃ c,a0.tmps.getD x undef = .pointer (some ⟨c,0,none⟩)/\H t=some (.pointer (some ⟨c,0,none⟩)):=by
      generalize a0.tmps.getD x undef=u at B;cases B with
      | ptr _ _ c p=>exact ⟨c,rfl,p⟩
     obtain ⟨b,e3,e4⟩:∃ c,a0.tmps.getD y undef = .pointer (some ⟨c,0,none⟩)/\H z=some (.pointer (some ⟨c,0,none⟩)):=by
      generalize a0.tmps.getD y undef=u at C;cases C with
      | ptr _ _ c p=>exact ⟨c,rfl,p⟩
     have m:ops=#[f,l]:=by rw [<- Array.toArray_toList (xs:=ops),n]
     have T:first=#[]:=by rw [<- Array.toArray_toList (xs:=first),hf]
     have U:j=#[.tmp x,.tmp y]:=by rw [<- Array.toArray_toList (xs:=j),p]
     have E:c.args=#[]:=by rw [<- Array.toArray_toList (xs:=c.args),M]
     have V:=RelH.set r (d:=i) (x := .any) (v := .func (.func e) #[] #[.pointer (some ⟨a,0,none⟩),.pointer (some ⟨b,0,none⟩)]) (show i < s.st.n from A) (.any _);have I:(s.set i .any).st=s.st.set i .any:=rfl;have J:=zDX h (by rw [I];exact V) [{ target := .fn (.func e) #[.pointer (some ⟨a,0,none⟩),.pointer (some ⟨b,0,none⟩)],args:=#[] }];have k:a0.defers=[]:=r.defs.trans hD;have W:=hQ { F with H0:=pinH t z H,D:=[{ target := .fn (.func e) #[.pointer (some ⟨a,0,none⟩),.pointer (some ⟨b,0,none⟩)],args:=#[] }] } (pinH t z H) _ (.pointer (some ⟨a,0,none⟩)) (.pointer (some ⟨b,0,none⟩)) rfl rfl rfl rfl J (by show pinH t z H LIM=_;unfold pinH;rw [if_pos rfl];exact e2) (by show pinH t z H (LIM+1)=_;unfold pinH;rw [if_neg (by omega),if_pos rfl];exact e4) k;refine wp_region ?_;subst m;show wpOps P #[f,l] Q [0,1] a0 w;rw [wpOps_cons];refine zkJ (o:=f) rfl h3 ?_;unfold Oper.wp;have x1:(execOp a0.eval f).run P w = .ok (.value (.func (.func e) #[] #[.pointer (some ⟨a,0,none⟩),.pointer (some ⟨b,0,none⟩)])) w:=by
      have y1:a0.eval (.tmp x) = .pointer (some ⟨a,0,none⟩):=e1;have y2:a0.eval (.tmp y) = .pointer (some ⟨b,0,none⟩):=e3;subst T;subst U;simp [execOp,h1,Instr.makeFunc,y1,y2]
     rw [x1];show wpOps P #[f,l] Q [1] (a0.put f.dst _) w;rw [wpOps_cons];refine zkJ (o:=l) rfl h6 ?_;unfold Oper.wp;have x2:(execOp (a0.put f.dst (.func (.func e) #[] #[.pointer (some ⟨a,0,none⟩),.pointer (some ⟨b,0,none⟩)])).eval l).run P w = .ok (.defer { target := .fn (.func e) #[.pointer (some ⟨a,0,none⟩),.pointer (some ⟨b,0,none⟩)],args:=#[] }) w:=by
      have X:(a0.put f.dst (.func (.func e) #[] #[.pointer (some ⟨a,0,none⟩),.pointer (some ⟨b,0,none⟩)])).eval (.tmp i) = .func (.func e) #[] #[.pointer (some ⟨a,0,none⟩),.pointer (some ⟨b,0,none⟩)]:=by
       rw [Z];show (a0.put (some i) _).tmps.getD i undef=_;rw [zwe (by rw [r.size];exact A),if_pos rfl]
      simp [execOp,h4,resolve,q,E,X,Deferred.ofValue]
     rw [x2];have L:({ a0.put f.dst (.func (.func e) #[] #[.pointer (some ⟨a,0,none⟩),.pointer (some ⟨b,0,none⟩)]) with defers:={ target := .fn (.func e) #[.pointer (some ⟨a,0,none⟩),.pointer (some ⟨b,0,none⟩)],args:=#[] }::(a0.put f.dst (.func (.func e) #[] #[.pointer (some ⟨a,0,none⟩),.pointer (some ⟨b,0,none⟩)])).defers }:Act).put l.dst undef=
       {a0.put (some i) (.func (.func e) #[] #[.pointer (some ⟨a,0,none⟩),.pointer (some ⟨b,0,none⟩)]) with defers:=[{ target := .fn (.func e) #[.pointer (some ⟨a,0,none⟩),.pointer (some ⟨b,0,none⟩)],args:=#[] }] }:=by
      rw [Z,h5];simp [Act.put,k]
     show wpOps P #[f,l] Q [] _ w;rw [L];exact W
    ·cases h
   ·cases h
  ·cases h
 ·cases h
def capD (TT:List TE) (rs:List ResultVar) (out:Shape) (s:ESt):Option (Tup out.tys):=match capR TT rs out s with
 | some Y=>bif out.ents.isEmpty && (out.vals Y).all EV.isD then some Y else none
 | none=>none
def zB1 (h:Hp) (H:Hd) (X:Nat->Prop) (w:World) (out:Shape) (Y:Tup out.tys) (e:Ending) (w':World):Prop:=∃ v r h' H',e = .returned v/\(r=(retE (out.vals Y)).av/\h'=hpSt (out.heap Y) (out.rws Y))/\
   (w'.os=w.os/\w'.tape=w.tape/\w'.output=w.output/\w.heap.size<=w'.heap.size)/\(∀ b,b < w.heap.size -> ¬ zml h H b->w'.heap[b]? =w.heap[b]?)/\
   HOK X h' H' w'/\(∀ b,zml h' H' b->w.heap.size<=b\/zml h H b)/\(∀ id,pinB id=true->H' id=H id)/\VRel w' (Sh X (zgK h') H' w') H' r v
theorem zA7 {w:World} {S:Nat->Prop} {H H2:Hd}:∀ {x:EV} {v:Value},x.isD=true->VRel w S H x.av v->VRel w S H2 x.av v
 | .d t x,v,_,h=>by cases h with | d _ _ a=>exact .d _ _ a
theorem zzo {w:World} {S:Nat->Prop} {H H2:Hd} {l:List EV} {v:Value} (b:l.all EV.isD=true) (h:VRel w S H (retE l).av v):VRel w S H2 (retE l).av v:=by
 rw [zyD] at h ⊢
 match l,b,h with
 | [],_,h=>cases h with | tup l cs hs f=>exact .tup _ cs hs fun i c=>(Nat.not_lt_zero i c).elim
 | [x],b,h=>exact zA7 (by simpa using b) h
 | x::y::r,b,h=>
  have h:VRel w S H (.tup (EV.avL (x::y::r))) v:=h;show VRel w S H2 (.tup (EV.avL (x::y::r))) v;cases h with
  | tup l cs hs f=>
   refine .tup _ cs hs fun i c => ?_
   have d:=f i c;have a:i < (x::y::r).length:=by rw [zhe] at c;exact c
   have e:(EV.avL (x::y::r)).getD i default=((x::y::r)[i]).av:=by
    rw [zhf,List.getD_eq_getElem?_getD,List.getElem?_map,List.getElem?_eq_getElem a];rfl
   rw [e] at d ⊢;exact zA7 (List.all_eq_true.1 b _ (List.getElem_mem a)) d
theorem zA0 {TT:List TE} (S:TOK P TT) {fn:Func} {out:Shape} {s:ESt} {Y:Tup out.tys} {q:Fr} {H':Hd} {t:Act} {w':World} (p:capD TT fn.results.toList out s=some Y) (r:RelH q s.st H' t w')
  {h:Hp} {H:Hd} {X:Nat->Prop} {w:World} (T:q.X=X) (U:w'.os=w.os/\w'.tape=w.tape/\w'.output=w.output/\w.heap.size<=w'.heap.size) (V:∀ b,b < w.heap.size -> ¬ zml h H b->w'.heap[b]? =w.heap[b]?):
  ∃ v,(results fn t.tmps).run P w' = .ok v w'/\zB1 h H X w out Y (.returned v) w':=by
 unfold capD at p;split at p
 ·rename_i Y' Z;have m:=(zad p).1;replace p:=(zad p).2;cases p;simp only [Bool.and_eq_true] at m;obtain ⟨f,n⟩:=m;have f:out.ents=[]:=by simpa using f
  have a:∀ id,zgK (hpSt (out.heap Y) (out.rws Y)) id=none:=by
   intro id;unfold Shape.heap Shape.rws zh0 zdY hpSt;rw [f];show zbi [] id=none;unfold zbi;split<;>rfl
  obtain ⟨Q,hw,mp,xs,h',⟨C,D⟩,hret,hsub,hR,hh⟩:=zo2 (P:=P) S Z;obtain ⟨E,R⟩:=hw.rel q t w' ⟨H',r⟩;subst hh;have hs:SubF mp Q.st ⟨Q.st.n,LIM,[],[],hpSt (out.heap Y) (out.rws Y)⟩:=⟨rfl,C,fun k x' h=>(by cases h),fun i e' A=>hsub i e' A,fun i o A W=>D i o A W⟩;have B:=fun b m=>hs.sh R b m
  rw [zkO] at B;obtain ⟨z,hm,M,hv⟩:=zmv (fn:=fn) R C B fn.results.toList xs hret;have I:(fn.results.mapM (resF t.tmps)).run P w' = .ok z.toArray w':=by
   rw [Array.mapM_eq_mapM_toList];have:(List.toArray <$> fn.results.toList.mapM (resF t.tmps)).run P w'=((fn.results.toList.mapM (resF t.tmps)).run P w').andThen fun l F => .ok l.toArray F:=by
    rw [map_eq_pure_bind];simp only [Sem.run_bind,Sem.run_pure]
   rw [this,hm];rfl
  have J:∀ (N O:Hd) b,Sh q.X (zgK (hpSt (out.heap Y) (out.rws Y))) N w' b->Sh X (zgK (hpSt (out.heap Y) (out.rws Y))) O w' b:=fun N O b m=>⟨m.1,T ▸ m.2.1,fun id e v c=>by rw [a] at c;cases c⟩
  refine ⟨_,by rw [zvz];simp only [Sem.run_bind,I,Result.andThen_ok,Sem.run_pure];rfl,_,_,_,H,rfl,⟨rfl,rfl⟩,U,V,⟨fun id e c=>(by rw [a] at c;cases c),fun id e v b c=>(by rw [a] at c;cases c),fun i j e e' v v' b c=>(by rw [a] at c;cases c)⟩,
   fun b ⟨id,e,v,c,_⟩=>(by rw [a] at c;cases c),fun _ _=>rfl,?_⟩
  have d:∀ i,i < xs.length->VRel w' (Sh q.X (zgK (hpSt (out.heap Y) (out.rws Y))) (renH mp E) w') (renH mp E) (xs.getD i default) (z.getD i undef):=hv;have g:VRel w' (Sh q.X (zgK (hpSt (out.heap Y) (out.rws Y))) (renH mp E) w') (renH mp E) (zzp xs) (if h:z.toArray.size=1 then z.toArray[0] else .tuple z.toArray):=by
   match xs,z,M,d with
   | [],[],_,d=>exact .tup [] #[] rfl (by simp)
   | [x],[u],_,d=>exact (by simpa using d 0 (by simp):VRel w' _ (renH mp E) x u)
   | x::y::r',u::v::r'',M,d=>
    have L : ¬ ((u::v::r'').toArray.size=1):=by simp
    rw [dif_neg L];refine .tup _ _ (by simpa using M) fun i A => ?_
    have:=d i A;simpa [List.getD_eq_getElem?_getD] using this
  rw [hR] at g;exact zzo (H:=H) n (((zzo (H2:=H) n g).mono (fun b m=>⟨J _ H b m,rfl⟩) (fun _ _ h=>h)))
 ·cases p
def zwP (sa sb Ta Tb:Nat) (z:EV) (p:Int×Int) (s:ESt):ESt:=⟨s.n,[(sa,.ptr LIM 0),(sb,.ptr (LIM+1) 0)],[(LIM,some (.box Ta [z])),(LIM+1,some (.box Tb [.d (.int .i64) p.1,.d (.int .i64) p.2]))],s.nxt,[]⟩
def zxS (sa sb Ta Tb:Nat) (s:ESt):Bool:=match s.get sa,s.get sb,s.ent LIM,s.ent (LIM+1) with
 | some (.ptr i 0),some (.ptr j 0),some (.box T1 [_]),some (.box T2 [_,_])=>Nat.beq i LIM && Nat.beq j (LIM+1) && Nat.beq T1 Ta && Nat.beq T2 Tb
 | _,_,_,_=>false
def endD (TT:List TE) (rs:List ResultVar) (out:Shape) (T sa sb Ta Tb:Nat) (z:EV):Exit->ESt->Option (Tup out.tys)
 | .normal,s=>capD TT rs out s
 | .ret,s=>capD TT rs out s
 | .panic ch,s=>match dec T ch with
  | some p=>bif zxS sa sb Ta Tb s then capD TT rs out (zwP sa sb Ta Tb z p s) else none
  | none=>none
 | _,_=>none
def zAK (A:Ann):Code->Option (Array Oper)
 | .region id ops a=>bif a then none else (look A.ords (3000000+id)).map fun _=>ops
 | _=>none
def evCd (TT:List TE) (Γ:List CE) (Γp:List CEp) (T:Nat) (A:Ann) (rs:List ResultVar) (out:Shape) (g sa sb Ta Tb:Nat) (z:EV):Code->ESt->Option (Tup out.tys)
 | .seq x y,s=>match zAK A x with
  | some ops=>match zx2 g sa sb ops s with
   | some a=>evC TT Γ Γp T (both out.tys) A y a (endD TT rs out T sa sb Ta Tb z)
   | none=>none
  | none=>evC TT Γ Γp T (both out.tys) A x s fun e a=>match e with
   | .normal=>evCd TT Γ Γp T A rs out g sa sb Ta Tb z y a
   | .ret=>capD TT rs out a
   | _=>none
 | _,_=>none
theorem zwm:pinB LIM=true/\pinB (LIM+1)=true:=⟨by decide,by decide⟩
theorem zCV {w:World} {S:Nat->Prop} {H:Hd} {d b:Nat} {c:List EV} (h:EntRel w S H (.box d (EV.avL c)) (.pointer (some ⟨b,0,none⟩))):∃ a,w.heap[b]? =some (.cells a d (0,0))/\a.size=c.length:=by
 generalize f:EV.avL c=l at h;cases h with
 | box _ _ i a g hs e=>exact ⟨a,g,by rw [hs,<- f,zhe]⟩
theorem zve {TT:List TE} {Γ:List CE} {Γp:List CEp} {T:Nat} {A:Ann} {out:Shape} {g sa sb Ta Tb:Nat} {z:EV} {t:Value} {fn:Func} {Y:Tup out.tys}
  (hm:P.follows .mixedOrders=true) (hT:TOK P TT) (hG:GOK P Γ) (V:GPOK P T Γp) (M:CatchOK P T g Ta Tb t) (hz:∀ (w:World) (S:Nat->Prop) (H:Hd),VRel w S H z.av t)
  {h:Hp} {H:Hd} {X:Nat->Prop} {w0:World} (B:F.w=w0) (W:F.O=zml h H) (Z:F.X=X) (a0:F.D=[]):
  ∀ (c:Code) (s:ESt),evCd TT Γ Γp T A fn.results.toList out g sa sb Ta Tb z c s=some Y->∀ (a:Act) (w:World),Rel F s.st a w->c.wp P (bodyPostD P fn (zB1 h H X w0 out Y)) a w
 | .seq x y,s,d,a,w,hr=>by
  simp only [evCd] at d;have fin:∀ {F':Fr} {s':ESt} {H':Hd} {l:Act} {w':World},F'.w=F.w->F'.O=F.O->F'.X=F.X->RelH F' s'.st H' l w'->capD TT fn.results.toList out s'=some Y->
    ∃ v,(results fn l.tmps).run P w' = .ok v w'/\zB1 h H X w0 out Y (.returned v) w':=by
   intro F' s' H' l w' e1 C e3 r hcap;refine zA0 hT hcap r (e3.trans Z) ?_ ?_
   ·rw [<- B,<- e1];exact ⟨r.os,r.tape,r.output,r.grow⟩
   ·rw [<- B,<- e1,<- W,<- C];exact r.keep
  split at d
  ·rename_i ops hd;split at d
   ·rename_i s1 h1;obtain ⟨id,rfl⟩:∃ id,x = .region id ops false:=by
     unfold zAK at hd;split at hd
     ·rename_i id ops' draw;cases draw with
      | true=>cases hd
      | false=>
       obtain ⟨_,_,e⟩:=Option.map_eq_some_iff.1 hd;subst e;exact ⟨id,rfl⟩
     ·cases hd
    obtain ⟨H',hr⟩:=hr;refine wp_seq (zxX h1 hr (fun F1 H1 a1 va vb g1 g2 g3 g4 r1 g5 g6 _ => ?_) a0);show y.wp P _ a1 w;have N:∀ w',(invoke (.fn (.func g) #[va,vb]) #[]).run P w' = .ok (.enter g #[va,vb]) w':=fun w'=>by
     have:=M.call (#[]++#[va,vb]) w';simpa [invoke] using this
    refine wp_mono (zdV (F:=F1) hm hT hG V (zxQ out.tys) y s1 _ d a1 w ⟨H1,r1⟩) fun e l w' hp => ?_
    obtain ⟨σ',⟨s2,rfl,_,E⟩,H2,r2⟩:=hp;have Q:capD TT fn.results.toList out s2=some Y->Leaves P fn l.tmps (zB1 h H X w0 out Y) l.defers .returning w':=fun E=>by
     rw [r2.defs,g4];refine leaves_cons (f:=g) (args:=#[va,vb]) (by simp) (N w') ((M.idle va vb w').mono fun e u w3 hh => ?_);obtain ⟨⟨v,rfl⟩,rfl,rfl⟩:=hh;exact fin g1 g2 g3 r2 E
    cases e with
    | normal=>exact Q E
    | ret=>exact Q E
    | panic ch=>
     have h4:(match dec T ch with
      | some p=>bif zxS sa sb Ta Tb s2 then capD TT fn.results.toList out (zwP sa sb Ta Tb z p s2) else none
      | none=>none)=some Y:=E
     split at h4
     ·rename_i p hp;have hch:=zAJ hp;subst hch;have n:=(zad h4).1;replace h4:=(zad h4).2;unfold zxS at n;split at n
      ·rename_i i j T1 c1 T2 c2 c3 k1 k2 k3 k4;simp only [Bool.and_eq_true] at n;obtain ⟨⟨⟨b1,b2⟩,b3⟩,b4⟩:=n;have b1:=Nat.eq_of_beq_eq_true b1;have b2:=Nat.eq_of_beq_eq_true b2;have b3:=Nat.eq_of_beq_eq_true b3;have b4:=Nat.eq_of_beq_eq_true b4;subst b1;subst b2;subst b3;subst b4;have hva:=r2.slot sa _ (zf0 k1);have hvb:=r2.slot sb _ (zf0 k2);obtain ⟨ba,e1,C⟩:∃ c,l.tmps.getD sa undef = .pointer (some ⟨c,0,none⟩)/\H2 LIM=some (.pointer (some ⟨c,0,none⟩)):=by
        generalize l.tmps.getD sa undef=u at hva;cases hva with
        | ptr _ _ c M=>exact ⟨c,rfl,M⟩
       obtain ⟨bb,e3,L⟩:∃ c,l.tmps.getD sb undef = .pointer (some ⟨c,0,none⟩)/\H2 (LIM+1)=some (.pointer (some ⟨c,0,none⟩)):=by
        generalize l.tmps.getD sb undef=u at hvb;cases hvb with
        | ptr _ _ c M=>exact ⟨c,rfl,M⟩
       have ea:=zbw k3;have eb:=zbw k4;obtain ⟨va',q1,q2⟩:=r2.ent LIM _ ea;obtain ⟨vb',q3,q4⟩:=r2.ent (LIM+1) _ eb;rw [C] at q1;cases q1;rw [L] at q3;cases q3;obtain ⟨ca,z1,z2⟩:=zCV (c:=[c1]) q2;obtain ⟨cb,z3,z4⟩:=zCV (c:=[c2,c3]) q4;have hva1:va = .pointer (some ⟨ba,0,none⟩):=by
        have:=r2.pin LIM zwm.1;rw [C,g5] at this;cases this;rfl
       have hvb1:vb = .pointer (some ⟨bb,0,none⟩):=by
        have:=r2.pin (LIM+1) zwm.2;rw [L,g6] at this;cases this;rfl
       have hne:ba≠bb:=fun e=>by
        subst e;have:=r2.inj LIM (LIM+1) _ _ _ _ ba ea eb C L rfl rfl;omega
       show Leaves P fn l.tmps _ l.defers (.panicking (pch T p)) w';rw [r2.defs,g4];refine leaves_cons (f:=g) (args:=#[va,vb]) (by simp) (N w') ?_;subst hva1;subst hvb1;refine (M.caught p w' ba bb ca cb hne z1 z2 z3 z4).mono fun e u w3 hh => ?_
       obtain ⟨⟨v,rfl⟩,hset,⟨o1,o2,o3,o4⟩,hkp,y1,y2⟩:=hh;show Leaves P fn l.tmps _ [] (settle u) w3;rw [hset];have R:=r2.own LIM _ _ ba ea C rfl;have U:=r2.own (LIM+1) _ _ bb eb L rfl;have o:∀ id e,(zwP sa sb T1 T2 z p s2).st.ent id=some e->(id=LIM/\e = .box T1 (EV.avL [z]))\/(id=LIM+1/\e = .box T2 (EV.avL [.d (.int .i64) p.1,.d (.int .i64) p.2])):=by
        intro id e d;rw [zbC] at d;simp only [zwP,zan] at d;split at d
        ·rename_i q hq;split at hq
         ·rename_i e';cases hq;cases d;exact .inl ⟨e'.symm,rfl⟩
         ·split at hq
          ·rename_i e';cases hq;cases d;exact .inr ⟨e'.symm,rfl⟩
          ·cases hq
        ·unfold zbi at d;split at d
         ·cases d
         ·cases d
       have r3:RelH { w:=w3,O:=fun _=>True,X:=F1.X,H0:=H2,D:=F1.D } (zwP sa sb T1 T2 z p s2).st H2 l w3:={
        size:=r2.size,defs:=r2.defs,os:=rfl,tape:=rfl,output:=rfl,grow:=Nat.le_refl _,keep:=fun _ _ hn=>(hn trivial).elim
        xlt:=fun b n=>Nat.lt_of_lt_of_le (r2.xlt b n) (Nat.le_trans r2.grow o4)
        fresh:=r2.fresh
        pin:=fun _ _=>rfl
        ent:=fun id e d=>by
         rcases o id e d with ⟨rfl,rfl⟩ | ⟨rfl,rfl⟩
         ·exact ⟨_,C,.box _ _ ba #[t] y1 rfl fun j hj=>by
           have:j=0:=by have hj:j < 1:=hj;omega
           subst this;exact hz _ _ _⟩
         ·exact ⟨_,L,.box _ _ bb #[.int .i64 p.1,.int .i64 p.2] y2 rfl fun j hj=>by
           have hj:j < 2:=hj
           match j,hj with
           | 0,_=>exact .d _ _ (.lit _ rfl)
           | 1,_=>exact .d _ _ (.lit _ rfl)⟩
        own:=fun id e v b d I hbv=>by
         refine ⟨.inr trivial,?_⟩;rcases o id e d with ⟨rfl,_⟩ | ⟨rfl,_⟩
         ·rw [C] at I;cases I;cases hbv;exact R.2
         ·rw [L] at I;cases I;cases hbv;exact U.2
        inj:=fun id id' e e' v v' b d he' I J n hb'=>by
         rcases o id e d with ⟨rfl,_⟩ | ⟨rfl,_⟩<;>rcases o id' e' he' with ⟨rfl,_⟩ | ⟨rfl,_⟩
         ·rfl
         ·rw [C] at I;rw [L] at J;cases I;cases J;cases n;cases hb';exact absurd rfl hne
         ·rw [L] at I;rw [C] at J;cases I;cases J;cases n;cases hb';exact absurd rfl hne
         ·rfl
        slot:=fun k x hx=>by
         rw [zoN] at hx;have m:(look [(sa,EV.ptr LIM 0),(sb,EV.ptr (LIM+1) 0)] k).map EV.av=some x:=hx;clear hx;simp only [zan] at m;by_cases k1:sa=k
         ·subst k1;rw [if_pos rfl] at m;cases m;rw [e1];exact .ptr LIM 0 ba C
         ·rw [if_neg k1] at m;by_cases k2:sb=k
          ·subst k2;rw [if_pos rfl] at m;cases m;rw [e3];exact .ptr (LIM+1) 0 bb L
          ·rw [if_neg k2] at m;cases m }
       refine zA0 hT h4 r3 (g3.trans Z) ?_ ?_
       ·rw [<- B,<- g1];exact ⟨o1.trans r2.os,o2.trans r2.tape,o3.trans r2.output,Nat.le_trans r2.grow o4⟩
       ·intro b n ho;rw [<- W,<- g2] at ho;rw [<- B,<- g1] at n ⊢;rw [hkp b (Nat.lt_of_lt_of_le n r2.grow) (fun e=>by subst e;rcases R.1 with q | q;omega;exact ho q) (fun e=>by subst e;rcases U.1 with q | q;omega;exact ho q)];exact r2.keep b n ho
      ·cases n
     ·cases h4
    | _=>cases E
   ·cases d
  ·refine wp_seq (wp_mono (zdV hm hT hG V (zxQ out.tys) x s _ d a w hr) fun e l w' hp => ?_);obtain ⟨σ',⟨s2,rfl,_,E⟩,H2,r2⟩:=hp;cases e with
   | normal=>exact zve hm hT hG V M hz B W Z a0 y s2 E l w' ⟨H2,r2⟩
   | ret=>
    show Leaves P fn l.tmps _ l.defers .returning w';rw [r2.defs,a0];exact fin rfl rfl rfl r2 E
   | _=>cases E
theorem CE.ofCatch (hm:P.follows .mixedOrders=true) {TT:List TE} {Γ:List CE} {Γp:List CEp} {T:Nat} (hT:TOK P TT) (hG:GOK P Γ) (hGp:GPOK P T Γp) (A:Ann) {f:Nat} {fn:Func} {body:Code} {n:Nat} (hf:P.funcs[f]? =some fn) (hb:fn.body=some body) (hn:fn.ntmps=n) {rs:List ResultVar} (hrs:fn.results.toList=rs) {sig out:Shape} (hlen:Nat.ble sig.slots.length n=true)
  (hcall:∀ (as:Array Value) (w:World),(callFunc f as).run P w = .ok (.enter f as) w) {g sa sb Ta Tb:Nat} {z:EV} {nilv:Value} (hc:CatchOK P T g Ta Tb nilv) (hz:∀ (w:World) (S:Nat->Prop) (H:Hd),VRel w S H z.av nilv)
  {den:Tup sig.tys->Option (Tup out.tys)} (h:∀ X,evCd TT Γ Γp T A rs out g sa sb Ta Tb z body (zsF n sig X)=den X):CE.ok P ⟨f,sig,out,den⟩ where
 call:=hcall
 fc X Y hXY:=by
  intro w X' H vs hX hlow hH hvs hargs;have hvs:vs.size=(EV.avL (sig.vals X)).length:=hvs;have hle:(EV.avL (sig.vals X)).length<=n:=by rw [zhe];unfold Shape.vals;rw [List.length_map];simpa using hlen
  let F:Fr:={ w:=w,O:=zml (hpSt (sig.heap X) (sig.rws X)) H,X:=X',H0:=H }
  refine calls_of_wp_defers hf hb ?_;have hsz:(vs++Array.replicate (fn.ntmps - vs.size) undef).size=n:=by simp;omega
  have r0:RelH F (St.start n (EV.avL (sig.vals X)) (hpSt (sig.heap X) (sig.rws X))) H { tmps:=vs++Array.replicate (fn.ntmps - vs.size) undef,defers:=[] } w:={
   size:=hsz,defs:=rfl,os:=rfl,tape:=rfl,output:=rfl,grow:=Nat.le_refl _,keep:=fun _ _ _=>rfl,xlt:=hX
   fresh:=fun id _ h2=>hlow id h2
   pin:=fun _ _=>rfl
   ent:=by unfold St.start;rw [zkO];exact hH.ent
   own:=by unfold St.start;rw [zkO];exact fun id e v b h1 h2 h3=>⟨.inr ⟨id,e,v,h1,h2,h3⟩,hH.own id e v b h1 h2 h3⟩
   inj:=by unfold St.start;rw [zkO];exact hH.inj
   slot:=fun k x hx=>by
    obtain ⟨_,h2⟩:=zlD (EV.avL (sig.vals X)) 0 k x hx;have hk:k < (EV.avL (sig.vals X)).length:=(List.getElem?_eq_some_iff.1 (by simpa using h2)).1;have:=hargs k hk;have h3:(EV.avL (sig.vals X)).getD k default=x:=by
     rw [List.getD_eq_getElem?_getD];have:(EV.avL (sig.vals X))[k]? =some x:=by simpa using h2
     rw [this];rfl
    rw [h3] at this;have h4:(vs++Array.replicate (fn.ntmps - vs.size) undef).getD k undef=vs.getD k undef:=by
     have:k < vs.size:=by omega
     simp [Array.getElem?_append_left this]
    show VRel w _ H x ((vs++Array.replicate (fn.ntmps - vs.size) undef).getD k undef);unfold St.start;rw [h4,zkO];exact this }
  refine wp_mono (zve (F:=F) (fn:=fn) hm hT hG hGp hc hz rfl rfl rfl rfl body (zsF n sig X) (by rw [hrs,h X];exact hXY) _ w ((zpk n sig X).rel ⟨H,r0⟩)) fun _ _ _ hh=>hh
def payT:Ty := .pair (.pair (.int .i64) (.pair (.int .i64) .unit)) .unit
def zBT (n k Ta Tb:Nat) (p:Int×Int):ESt:=⟨n,[(0,.ptr LIM 0),(1,.ptr (LIM+1) 0),(k,.d payT ((p.1,p.2,()),()))],[(LIM,some (.box Ta [.any])),(LIM+1,some (.box Tb [.any,.any]))],0,[]⟩
def zFi (a:Bool) (Ta Tb:Nat):Exit->ESt->Option (Int×Int)
 | .normal,s=>match s.ent LIM,s.ent (LIM+1) with
  | some (.box T1 [z]),some (.box T2 [.d (.int .i64) x,.d (.int .i64) y])=>bif Nat.beq T1 Ta && Nat.beq T2 Tb && isZ a z then some (x,y) else none
  | _,_=>none
 | _,_=>none
theorem zD8 {TT:List TE} {A:Ann} {c:Code} {kz:Bool} {n k Ta Tb:Nat} {p:Int×Int} (hm:P.follows .mixedOrders=true) (hT:TOK P TT)
  (l:evC TT [] [] 0 zuO A c (zBT n k Ta Tb p) (zFi kz Ta Tb)=zuO (some (p.1,p.2)) (some (p.1,p.2))) {a:Act} {w:World} {B C:Nat} {ca cb:Array Value} (T:B≠C)
  (h1:w.heap[B]? =some (.cells ca Ta (0,0))) (h2:ca.size=1) (h3:w.heap[C]? =some (.cells cb Tb (0,0))) (h4:cb.size=2)
  (hs:a.tmps.size=n) (hd:a.defers=[]) (h0:a.tmps.getD 0 undef = .pointer (some ⟨B,0,none⟩)) (h5:a.tmps.getD 1 undef = .pointer (some ⟨C,0,none⟩))
  (h6:a.tmps.getD k undef = .agg #[.int .i64 p.1,.int .i64 p.2]):
  c.wp P (fun e a' w'=>e = .normal/\a'.defers=[]/\(w'.os=w.os/\w'.tape=w.tape/\w'.output=w.output/\w.heap.size<=w'.heap.size)/\(∀ b,b < w.heap.size->b≠B->b≠C->w'.heap[b]? =w.heap[b]?)/\
   w'.heap[B]? =some (.cells #[zV kz] Ta (0,0))/\w'.heap[C]? =some (.cells #[.int .i64 p.1,.int .i64 p.2] Tb (0,0))) a w:=by
 let H:Hd:=fun id=>if id=LIM then some (.pointer (some ⟨B,0,none⟩)) else if id=LIM+1 then some (.pointer (some ⟨C,0,none⟩)) else none
 have Q:H LIM=some (.pointer (some ⟨B,0,none⟩)):=if_pos rfl;have R:H (LIM+1)=some (.pointer (some ⟨C,0,none⟩)):=by show (if _ then _ else _)=_;rw [if_neg (by omega),if_pos rfl]
 let F:Fr:={ w:=w,O:=fun b=>b=B\/b=C,X:=fun _=>False,H0:=H }
 have o:∀ id e,(zBT n k Ta Tb p).st.ent id=some e->(id=LIM/\e = .box Ta (EV.avL [.any]))\/(id=LIM+1/\e = .box Tb (EV.avL [.any,.any])):=by
  intro id e l;rw [zbC] at l;simp only [zBT,zan] at l;split at l
  ·rename_i q V;split at V
   ·rename_i e';cases V;cases l;exact .inl ⟨e'.symm,rfl⟩
   ·split at V
    ·rename_i e';cases V;cases l;exact .inr ⟨e'.symm,rfl⟩
    ·cases V
  ·unfold zbi at l;split at l
   ·cases l
   ·cases l
 have r:RelH F (zBT n k Ta Tb p).st H a w:={
  size:=hs,defs:=hd,os:=rfl,tape:=rfl,output:=rfl,grow:=Nat.le_refl _,keep:=fun _ _ _=>rfl,xlt:=fun _ h=>h.elim
  fresh:=fun id _ J=>by
   have:id≠LIM:=fun e=>by subst e;rw [zuP (by unfold LIM RB;omega)] at J;omega
   have:id≠LIM+1:=fun e=>by subst e;rw [zuP (by unfold LIM RB;omega)] at J;omega
   show (if _ then _ else _)=_;rw [if_neg (by assumption),if_neg (by assumption)]
  pin:=fun _ _=>rfl
  ent:=fun id e l=>by
   rcases o id e l with ⟨rfl,rfl⟩ | ⟨rfl,rfl⟩
   ·exact ⟨_,Q,.box _ _ B ca h1 h2 fun j M=>by
     have:j=0:=by have M:j < 1:=M;omega
     subst this;exact .any _⟩
   ·exact ⟨_,R,.box _ _ C cb h3 h4 fun j M=>by
     have M:j < 2:=M
     match j,M with
     | 0,_=>exact .any _
     | 1,_=>exact .any _⟩
  own:=fun id e v b l D U=>by
   refine ⟨.inr ?_,fun h=>h⟩;rcases o id e l with ⟨rfl,_⟩ | ⟨rfl,_⟩
   ·rw [Q] at D;cases D;cases U;exact .inl rfl
   ·rw [R] at D;cases D;cases U;exact .inr rfl
  inj:=fun id id' e e' v v' b l he' D E L t=>by
   rcases o id e l with ⟨rfl,_⟩ | ⟨rfl,_⟩<;>rcases o id' e' he' with ⟨rfl,_⟩ | ⟨rfl,_⟩
   ·rfl
   ·rw [Q] at D;rw [R] at E;cases D;cases E;cases L;cases t;exact absurd rfl T
   ·rw [R] at D;rw [Q] at E;cases D;cases E;cases L;cases t;exact absurd rfl T
   ·rfl
  slot:=fun j x hx=>by
   rw [zoN] at hx;have f:(look [(0,EV.ptr LIM 0),(1,EV.ptr (LIM+1) 0),(k,EV.d payT ((p.1,p.2,()),()))] j).map EV.av=some x:=hx;clear hx;simp only [zan] at f;by_cases W:0=j
   ·subst W;rw [if_pos rfl] at f;cases f;rw [h0];exact .ptr LIM 0 B Q
   ·rw [if_neg W] at f;by_cases N:1=j
    ·subst N;rw [if_pos rfl] at f;cases f;rw [h5];exact .ptr (LIM+1) 0 C R
    ·rw [if_neg N] at f;by_cases k3:k=j
     ·subst k3;rw [if_pos rfl] at f;cases f;rw [h6];exact .d _ _ (.agg [.lit (.int .i64 p.1),.lit (.int .i64 p.2)] _ rfl fun i hi=>by
       have hi:i < 2:=hi
       match i,hi with
       | 0,_=>exact .lit _ rfl
       | 1,_=>exact .lit _ rfl)
     ·rw [if_neg k3] at f;cases f }
 refine wp_mono (zdV (F:=F) hm hT (fun _ h=>by cases h) (fun _ h=>by cases h) zvO c _ _ (l.trans (zzF _)) a w ⟨H,r⟩) fun e a' w' hp => ?_
 obtain ⟨σ',⟨s',rfl,_,hK⟩,H',r'⟩:=hp;cases e with
 | normal=>
  have S:(match s'.ent LIM,s'.ent (LIM+1) with
   | some (.box T1 [z]),some (.box T2 [.d (.int .i64) x,.d (.int .i64) y])=>bif Nat.beq T1 Ta && Nat.beq T2 Tb && isZ kz z then some (x,y) else none
   | _,_=>none)=some (p.1,p.2):=hK
  split at S
  ·rename_i T1 z T2 x y e1 e2;have L:=(zad S).1;replace S:=(zad S).2;simp only [Bool.and_eq_true] at L;have b1:=Nat.eq_of_beq_eq_true L.1.1;have b2:=Nat.eq_of_beq_eq_true L.1.2;subst b1;subst b2;cases S;have p1:H' LIM=H LIM:=r'.pin LIM zwm.1;have p2:H' (LIM+1)=H (LIM+1):=r'.pin (LIM+1) zwm.2;obtain ⟨va,q1,Y⟩:=r'.ent LIM _ (zbw e1);obtain ⟨vb,q3,q4⟩:=r'.ent (LIM+1) _ (zbw e2);rw [p1,Q] at q1;cases q1;rw [p2,R] at q3;cases q3;refine ⟨rfl,r'.defs,⟨r'.os,r'.tape,r'.output,r'.grow⟩,fun b I J g3=>r'.keep b I fun h=>h.elim J g3,?_,?_⟩
   ·have Y:EntRel w' (Sh F.X s'.st.ent H' w') H' (.box T1 [z.av]) (.pointer (some ⟨B,0,none⟩)):=Y;generalize hy:z.av=y at Y;cases Y with
    | box _ _ b' g t m s=>
     have:=s 0 (by simp);have m:g.size=1:=m;have hc:g=#[g.getD 0 undef]:=by
      apply Array.ext
      ·rw [m];rfl
      ·intro i I J;have:i=0:=by have J:i < 1:=J;omega
       subst this;simp [Array.getD,I]
     rw [t,hc];rw [zCo L.2 (v:=g.getD 0 undef) (by rw [hy];exact this)]
   ·have q4:EntRel w' (Sh F.X s'.st.ent H' w') H' (.box T2 [.d (.lit (.int .i64 p.1)),.d (.lit (.int .i64 p.2))]) (.pointer (some ⟨C,0,none⟩)):=q4;cases q4 with
    | box _ _ b' g t m s=>
     have Z:=s 0 (by simp);have I:=s 1 (by simp);have m:g.size=2:=m;have hc:g=#[g.getD 0 undef,g.getD 1 undef]:=by
      apply Array.ext
      ·rw [m];rfl
      ·intro i W N;have N:i < 2:=N
       match i,N with
       | 0,_=>simp [Array.getD,W]
       | 1,_=>simp [Array.getD,W]
     rw [t,hc];generalize g.getD 0 undef=u at Z;generalize g.getD 1 undef=u' at I;cases Z with
     | d _ _ Z=>
      cases I with
      | d _ _ I=>cases Z;cases I;rfl
  ·cases S
 | _=>cases hK
theorem zAd {b a:TypeId} {c:Array Field} (h:P.underlying a=some (.struct c)) (v:Value) (w:World):(Instr.typeAssert (.iface a v) b a true).run P w = .ok (.tuple #[v,.bool true]) w:=by
 unfold Instr.typeAssert;rw [Sem.run_bind,run_underlying h];simp
def zAz:Code->Code
 | .seq _ (.block _ (.seq _ (.cond _ _ (.seq _ (.cond _ t _)))))=>t
 | c=>c
end
end
end Go.Ab
