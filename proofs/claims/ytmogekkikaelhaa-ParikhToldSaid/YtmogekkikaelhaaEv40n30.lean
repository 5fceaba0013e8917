import Derived.Test.YtmogekkikaelhaaEv40n19
import Derived.Tactics
import Derived.Tactics2
import Derived.Recover
set_option linter.unusedVariables false
set_option linter.unusedSimpArgs false
set_option linter.unusedSectionVars false
namespace Go.Ab
noncomputable section
set_option linter.unusedVariables false
section
variable {A B C:Type}
theorem zsP (o:Option (C⊕(Int×Int))) (k:C->Option B) (kp:Int×Int->Option B):pbind o k kp=o.bind fun
  | .inl y=>k y
  | .inr p=>kp p:=by
 unfold pbind;cases o with
 | none=>rfl
 | some z=>cases z<;>rfl
theorem ChO.pbind2 {o:Nat->Option (C⊕(Int×Int))} {o':Option (C⊕(Int×Int))} {x:C->Nat->Option B} {y:C->Option B} {xp:Int×Int->Nat->Option B} {yp:Int×Int->Option B}
  (ho:ChO o o') (h:∀ c,ChO (x c) (y c)) (hp:∀ p,ChO (xp p) (yp p)):ChO (fun n=>Go.Ab.pbind (o n) (fun c=>x c n) (fun p=>xp p n)) (Go.Ab.pbind o' (fun c=>y c) (fun p=>yp p)):=by
 simp only [zsP];refine ChO.bind2 (x:=fun z n=>match z with
  | .inl c=>x c n
  | .inr p=>xp p n) ho fun z => ?_
 cases z with
 | inl c=>exact h c
 | inr p=>exact hp p
theorem ChO.pbind {o:Option (C⊕(Int×Int))} {x:C->Nat->Option B} {y:C->Option B} {xp:Int×Int->Nat->Option B} {yp:Int×Int->Option B}
  (h:∀ c,ChO (x c) (y c)) (hp:∀ p,ChO (xp p) (yp p)):ChO (fun n=>Go.Ab.pbind o (fun c=>x c n) (fun p=>xp p n)) (Go.Ab.pbind o (fun c=>y c) (fun p=>yp p)):=
 ChO.pbind2 (ChO.const o) h hp
theorem ChO.bothS {x u:Nat->Option B} {y v:Option B} (h1:ChO x y) (h2:ChO u v):ChO (fun n=>Go.Ab.bothS (x n) (u n)) (Go.Ab.bothS y v):=by
 have split:∀ {a b:Option B} {q:B},Go.Ab.bothS a b=some q->a=some q/\b=some q:=fun h=>⟨zin.l h,zin.r h⟩
 have join:∀ {a b:Option B} {q:B},a=some q->b=some q->Go.Ab.bothS a b=some q:=fun h k=>by rw [h,k,zlY]
 refine ⟨fun n b hb => ?_,fun b hb => ?_,fun n b hb => ?_⟩
 ·obtain ⟨h3,h4⟩:=split hb;exact join (h1.up n b h3) (h2.up n b h4)
 ·obtain ⟨h3,h4⟩:=split hb;obtain ⟨n,hn⟩:=h1.sup b h3;obtain ⟨m,hm⟩:=h2.sup b h4;exact ⟨max n m,join (h1.mono (Nat.le_max_left n m) b hn) (h2.mono (Nat.le_max_right n m) b hm)⟩
 ·obtain ⟨h3,h4⟩:=split hb;exact join (h1.le n b h3) (h2.le n b h4)
theorem zu9 (y:C) (k:C->Option B) (kp:Int×Int->Option B):Go.Ab.pbind (some (.inl y)) k kp=k y:=rfl
theorem zva (p:Int×Int) (k:C->Option B) (kp:Int×Int->Option B):Go.Ab.pbind (some (.inr p)) k kp=kp p:=rfl
end
structure CatchOK (P:Program) (T g Ta Tb:Nat) (nilv:Value):Prop where
 call:∀ (as:Array Value) (w:World),(callFunc g as).run P w = .ok (.enter g as) w
 idle:∀ (va vb:Value) (w:World),CallsD P g #[va,vb] .returning w (fun e u w'=>(∃ v,e = .returned v)/\u = .returning/\w'=w)
 caught:∀ (p:Int×Int) (w:World) (ba bb:Nat) (ca cb:Array Value),ba≠bb->w.heap[ba]? =some (.cells ca Ta (0,0))->ca.size=1->w.heap[bb]? =some (.cells cb Tb (0,0))->cb.size=2->
  CallsD P g #[.pointer (some ⟨ba,0,none⟩),.pointer (some ⟨bb,0,none⟩)] (.panicking (pch T p)) w (fun e u w'=>(∃ v,e = .returned v)/\settle u = .returning/\
   (w'.os=w.os/\w'.tape=w.tape/\w'.output=w.output/\w.heap.size<=w'.heap.size)/\(∀ b,b < w.heap.size->b≠ba->b≠bb->w'.heap[b]? =w.heap[b]?)/\
   w'.heap[ba]? =some (.cells #[nilv] Ta (0,0))/\w'.heap[bb]? =some (.cells #[.int .i64 p.1,.int .i64 p.2] Tb (0,0)))
def pinV (a b:Nat):EV->EV
 | .d t x => .d t x
 | .ptr i 0=>bif Nat.beq i a then .ptr LIM 0 else bif Nat.beq i b then .ptr (LIM+1) 0 else .any
 | _ => .any
def zpr:EV->Bool
 | .d _ _=>true
 | .nil=>true
 | .lit a=>nilT a
 | _=>false
def isZ:Bool->EV->Bool
 | false,.nil=>true
 | true,.lit a=>nilT a
 | true,.d (.tree _) x => !x.isMk
 | _,_=>false
def zV:Bool->Value
 | false => .slice none 0 0
 | true => .pointer none
def zE:Bool->EV
 | false => .nil
 | true => .lit (.pointer none)
theorem zE_rel (k:Bool) (w:World) (S:Nat->Prop) (H:Hd):VRel w S H (zE k).av (zV k):=by
 cases k with
 | false=>exact .nil
 | true=>exact .d _ _ (.lit _ rfl)
theorem zsI {k:Bool} {x:EV} (h:isZ k x=true) {w:World} {S:Nat->Prop} {H:Hd} {v:Value} (hv:VRel w S H x.av v):v=zV k:=by
 unfold isZ at h;split at h
 ·cases hv;rfl
 ·have e:=zo4 h;subst e;have hv:VRel w S H (.d (.lit (.pointer none))) v:=hv;cases hv with
  | d _ _ h=>cases h;rfl
 ·rename_i u x;cases x with
  | mk _ _=>cases h
  | nil=>
   have hv:VRel w S H (.d (.lit (.pointer none))) v:=hv;cases hv with
   | d _ _ h=>cases h;rfl
 ·cases h
def pinS (a b:Nat) (s:ESt):Option ESt:=match s.ent a,s.ent b with
 | some (.box Ta ca),some (.box Tb cb)=>bif ca.all zpr && cb.all zpr && !Nat.beq a b && Nat.ble s.nxt LIM then
   some ⟨s.n,s.slots.map fun p=>(p.1,pinV a b p.2),[(LIM,some (.box Ta ca)),(LIM+1,some (.box Tb cb))],s.nxt,[]⟩ else none
 | _,_=>none
section
variable {P:Program} {F:Fr} {H:Hd} {a0:Act} {w:World}
def pinH (a b:Nat) (H:Hd):Hd:=fun id=>if id=LIM then H a else if id=LIM+1 then H b else H id
theorem zqR {S S':Nat->Prop} {H H':Hd} {w:World} (hS:∀ b,S b->S' b):∀ {x:EV} {v:Value},zpr x=true->VRel w S H x.av v->VRel w S' H' x.av v
 | .d t x,v,_,h=>by
  cases h with
  | d _ _ h1=>exact .d _ _ (h1.mono fun b hb=>⟨hS b hb,rfl⟩)
 | .nil,v,_,h=>by cases h;exact .nil
 | .lit a,v,hc,h=>by
  have e:=zo4 hc;subst e;have h:VRel w S H (.d (.lit (.pointer none))) v:=h;cases h with
  | d _ _ h=>exact .d _ _ (h.mono fun b hb=>⟨hS b hb,rfl⟩)
theorem zt4 {a b:Nat} {s s':ESt} (h:pinS a b s=some s') (r:RelH F s.st H a0 w) (D:List Deferred):
  RelH { F with H0:=pinH a b H,D:=D } s'.st (pinH a b H) { a0 with defers:=D } w:=by
 unfold pinS at h;split at h
 ·rename_i Ta ca Tb cb h1 h2;have hb:=(zaa h).1;replace h:=(zaa h).2;cases h;simp only [Bool.and_eq_true,Bool.not_eq_true'] at hb;obtain ⟨⟨⟨hca,hcb⟩,hab⟩,hnx⟩:=hb;have hne:a≠b:=fun e=>by subst e;simp at hab
  have e1:=zat h1;have e2:=zat h2;obtain ⟨va,ha,ra⟩:=r.ent a _ e1;obtain ⟨vb,hb,rb⟩:=r.ent b _ e2;have hent:∀ id e,(⟨s.n,s.slots.map fun p=>(p.1,pinV a b p.2),[(LIM,some (.box Ta ca)),(LIM+1,some (.box Tb cb))],s.nxt,[]⟩:ESt).st.ent id=some e->
    (id=LIM/\e = .box Ta (EV.avL ca))\/(id=LIM+1/\e = .box Tb (EV.avL cb)):=by
   intro id e he;rw [zao] at he;simp only [zae] at he;split at he
   ·rename_i q hq;split at hq
    ·rename_i e';cases hq;cases he;exact .inl ⟨e'.symm,rfl⟩
    ·split at hq
     ·rename_i e';cases hq;cases he;exact .inr ⟨e'.symm,rfl⟩
     ·cases hq
   ·unfold zar at he;split at he
    ·cases he
    ·cases he
  have hA:pinH a b H LIM=some va:=by unfold pinH;rw [if_pos rfl];exact ha
  have hB:pinH a b H (LIM+1)=some vb:=by unfold pinH;rw [if_neg (by omega),if_pos rfl];exact hb
  have hold:∀ id e v,(⟨s.n,s.slots.map fun p=>(p.1,pinV a b p.2),[(LIM,some (.box Ta ca)),(LIM+1,some (.box Tb cb))],s.nxt,[]⟩:ESt).st.ent id=some e->pinH a b H id=some v->
    ∃ id0 e0,s.st.ent id0=some e0/\H id0=some v/\(id0=a/\id=LIM\/id0=b/\id=LIM+1):=by
   intro id e v he hv;rcases hent id e he with ⟨rfl,_⟩ | ⟨rfl,_⟩
   ·rw [hA] at hv;cases hv;exact ⟨a,_,e1,ha,.inl ⟨rfl,rfl⟩⟩
   ·rw [hB] at hv;cases hv;exact ⟨b,_,e2,hb,.inr ⟨rfl,rfl⟩⟩
  have hS:∀ c,Sh F.X s.st.ent H w c->Sh F.X (⟨s.n,s.slots.map fun p=>(p.1,pinV a b p.2),[(LIM,some (.box Ta ca)),(LIM+1,some (.box Tb cb))],s.nxt,[]⟩:ESt).st.ent (pinH a b H) w c:=
   fun c hc=>⟨hc.1,hc.2.1,fun id e v he hv hbv=>by
    obtain ⟨id0,e0,g1,g2,_⟩:=hold id e v he hv;exact hc.2.2 id0 e0 v g1 g2 hbv⟩
  have hbox:∀ {Tx:TypeId} {cx:List EV} {vx:Value},cx.all zpr=true->EntRel w (Sh F.X s.st.ent H w) H (.box Tx (EV.avL cx)) vx->
    EntRel w (Sh F.X (⟨s.n,s.slots.map fun p=>(p.1,pinV a b p.2),[(LIM,some (.box Ta ca)),(LIM+1,some (.box Tb cb))],s.nxt,[]⟩:ESt).st.ent (pinH a b H) w) (pinH a b H) (.box Tx (EV.avL cx)) vx:=by
   intro Tx cx vx hcx hr;have hcell:∀ (j:Nat) (x:AV),(EV.avL cx)[j]? =some x->∃ y:EV,cx[j]? =some y/\x=y.av:=by
    intro j x hj;rw [zch,List.getElem?_map] at hj;obtain ⟨y,hy,e⟩:=Option.map_eq_some_iff.1 hj;exact ⟨y,hy,e.symm⟩
   generalize hl:EV.avL cx=l at hr hcell;cases hr with
   | box _ _ b' cur hb' hs hrel=>
    refine .box _ _ b' cur hb' hs fun j hj => ?_
    have hx:l[j]? =some (l.getD j default):=by rw [List.getD_eq_getElem?_getD,List.getElem?_eq_getElem hj];rfl
    obtain ⟨y,hy,e⟩:=hcell j _ hx;rw [e];refine zqR hS (List.all_eq_true.1 hcx y (List.mem_of_getElem? hy)) (H:=H) ?_;rw [<- e];exact hrel j hj
   | mp _ kb vb' ks vs bm es clock hbm h3 h4 hk hv hc=>exact .mp _ kb vb' ks vs bm es clock hbm h3 h4 (fun i hi=>(hk i hi).mono fun c hc'=>⟨hS c hc',rfl⟩) (fun i hi=>(hv i hi).mono fun c hc'=>⟨hS c hc',rfl⟩) hc
  exact {
   size:=r.size,defs:=rfl,os:=r.os,tape:=r.tape,output:=r.output,grow:=r.grow,keep:=r.keep,xlt:=r.xlt
   fresh:=fun id g1 g2=>by
    have:id≠LIM:=fun e=>by subst e;rw [zlI (by unfold LIM RB;omega)] at g2;omega
    have:id≠LIM+1:=fun e=>by subst e;rw [zlI (by unfold LIM RB;omega)] at g2;omega
    unfold pinH;rw [if_neg (by assumption),if_neg (by assumption)];exact r.fresh id g1 g2
   pin:=fun _ _=>rfl
   ent:=fun id e he=>by
    rcases hent id e he with ⟨rfl,rfl⟩ | ⟨rfl,rfl⟩
    ·exact ⟨va,hA,hbox hca ra⟩
    ·exact ⟨vb,hB,hbox hcb rb⟩
   own:=fun id e v c he hv hc=>by
    obtain ⟨id0,e0,g1,g2,_⟩:=hold id e v he hv;exact r.own id0 e0 v c g1 g2 hc
   inj:=fun id id' e e' v v' c he he' hv hv' hc hc'=>by
    obtain ⟨i0,e0,g1,g2,g3⟩:=hold id e v he hv;obtain ⟨i1,e1',g4,g5,g6⟩:=hold id' e' v' he' hv';have:=r.inj i0 i1 e0 e1' v v' c g1 g4 g2 g5 hc hc';subst this;rcases g3 with ⟨k1,k2⟩ | ⟨k1,k2⟩<;>rcases g6 with ⟨k3,k4⟩ | ⟨k3,k4⟩
    ·rw [k2,k4]
    ·exact absurd (k1.symm.trans k3) hne
    ·exact absurd (k3.symm.trans k1) hne
    ·rw [k2,k4]
   slot:=fun k x hx=>by
    rw [zg6] at hx;have hx:((look (s.slots.map fun p=>(p.1,pinV a b p.2)) k).map EV.av)=some x:=hx;rw [zhn] at hx;cases hl:look s.slots k with
    | none=>rw [hl] at hx;cases hx
    | some y=>
     rw [hl] at hx;have hx:some (pinV a b y).av=some x:=hx;cases hx;have hv:=r.slot k y.av (by rw [zg6];show (look s.slots k).map EV.av=_;rw [hl];rfl);cases y with
     | d t z=>
      cases hv with
      | d _ _ h1=>exact .d _ _ (h1.mono fun c hc=>⟨hS c hc,rfl⟩)
     | ptr i o=>
      cases o with
      | zero=>
       cases hia:Nat.beq i a with
       | true=>
        have e0:pinV a b (.ptr i 0) = .ptr LIM 0:=by
         show (bif Nat.beq i a then _ else _)=_;rw [hia];rfl
        have:=Nat.eq_of_beq_eq_true hia;rw [e0];generalize a0.tmps.getD k undef=u at hv;cases hv with
        | ptr _ _ c hc=>exact VRel.ptr LIM 0 c (by rw [hA,<- ha,<- this];exact hc)
       | false=>
        cases hib:Nat.beq i b with
        | true=>
         have e0:pinV a b (.ptr i 0) = .ptr (LIM+1) 0:=by
          show (bif Nat.beq i a then _ else bif Nat.beq i b then _ else _)=_;rw [hia,hib];rfl
         have:=Nat.eq_of_beq_eq_true hib;rw [e0];generalize a0.tmps.getD k undef=u at hv;cases hv with
         | ptr _ _ c hc=>exact VRel.ptr (LIM+1) 0 c (by rw [hB,<- hb,<- this];exact hc)
        | false=>
         have e0:pinV a b (.ptr i 0) = .any:=by
          show (bif Nat.beq i a then _ else bif Nat.beq i b then _ else _)=_;rw [hia,hib];rfl
         rw [e0];exact .any _
      | succ o=>exact .any _
     | _=>exact .any _ }
 ·cases h
def zoO (g sa sb:Nat) (ops:Array Oper) (s:ESt):Option ESt:=match ops.toList with
 | [o1,o2]=>match o1.op,o1.dst,o1.guard,o2.op,o2.dst,o2.guard with
  | .makeFunc (.func g') first caps,some d,none,.defer c,none,none=>match first.toList,caps.toList,c.callee,c.args.toList with
   | [],[.tmp x,.tmp y],.value (.tmp d'),[]=>bif Nat.beq g' g && Nat.beq d' d && Nat.beq x sa && Nat.beq y sb && Nat.blt d s.n then (match s.get sa,s.get sb with
     | some (.ptr a 0),some (.ptr b 0)=>pinS a b (s.set d .any)
     | _,_=>none) else none
   | _,_,_,_=>none
  | _,_,_,_,_,_=>none
 | _=>none
theorem zoE {g sa sb id:Nat} {ops:Array Oper} {s s':ESt} {a0:Act} (h:zoO g sa sb ops s=some s') (r:RelH F s.st H a0 w) {Q:Exit->Act->World->Prop}
  (hQ:∀ (F1:Fr) (H1:Hd) (a1:Act) (va vb:Value),F1.w=F.w->F1.O=F.O->F1.X=F.X->F1.D=[{ target := .fn (.func g) #[va,vb],args:=#[] }]->RelH F1 s'.st H1 a1 w->F1.H0 LIM=some va->F1.H0 (LIM+1)=some vb->a0.defers=[]->Q .normal a1 w)
  (hD:F.D=[]):(Code.region id ops false).wp P Q a0 w:=by
 unfold zoO at h;split at h
 ·rename_i o1 o2 hops;split at h
  ·rename_i g' first caps d c h1 h2 h3 h4 h5 h6
   split at h
   ·rename_i x y d' hf hc hcal hca;have hb:=(zaa h).1;replace h:=(zaa h).2;simp only [Bool.and_eq_true] at hb;obtain ⟨⟨⟨⟨b1,b2⟩,b3⟩,b4⟩,b5⟩:=hb;have b1:=Nat.eq_of_beq_eq_true b1;have b2:=Nat.eq_of_beq_eq_true b2;have b3:=Nat.eq_of_beq_eq_true b3;have b4:=Nat.eq_of_beq_eq_true b4;subst b1;subst b2;subst b3;subst b4;split at h
    ·rename_i ia ib hx hy;have hlt:d' < s.n:=by simpa using b5
     have hva:=r.slot x _ (zbY hx);have hvb:=r.slot y _ (zbY hy);obtain ⟨ba,e1,e2⟩:∃ c,a0.tmps.getD x undef = .pointer (some ⟨c,0,none⟩)/\H ia=some (.pointer (some ⟨c,0,none⟩)):=by
      generalize a0.tmps.getD x undef=u at hva;cases hva with
      | ptr _ _ c hc=>exact ⟨c,rfl,hc⟩
     obtain ⟨bb,e3,e4⟩:∃ c,a0.tmps.getD y undef = .pointer (some ⟨c,0,none⟩)/\H ib=some (.pointer (some ⟨c,0,none⟩)):=by
      generalize a0.tmps.getD y undef=u at hvb;cases hvb with
      | ptr _ _ c hc=>exact ⟨c,rfl,hc⟩
     have hops':ops=#[o1,o2]:=by rw [<- Array.toArray_toList (xs:=ops),hops]
     have hf':first=#[]:=by rw [<- Array.toArray_toList (xs:=first),hf]
     have hc':caps=#[.tmp x,.tmp y]:=by rw [<- Array.toArray_toList (xs:=caps),hc]
     have hca':c.args=#[]:=by rw [<- Array.toArray_toList (xs:=c.args),hca]
     have hr1:=RelH.set r (d:=d') (x := .any) (v := .func (.func g') #[] #[.pointer (some ⟨ba,0,none⟩),.pointer (some ⟨bb,0,none⟩)]) (show d' < s.st.n from hlt) (.any _);have hset:(s.set d' .any).st=s.st.set d' .any:=rfl;have hpin:=zt4 h (by rw [hset];exact hr1) [{ target := .fn (.func g') #[.pointer (some ⟨ba,0,none⟩),.pointer (some ⟨bb,0,none⟩)],args:=#[] }];have hdef:a0.defers=[]:=r.defs.trans hD;have hgo:=hQ { F with H0:=pinH ia ib H,D:=[{ target := .fn (.func g') #[.pointer (some ⟨ba,0,none⟩),.pointer (some ⟨bb,0,none⟩)],args:=#[] }] } (pinH ia ib H) _ (.pointer (some ⟨ba,0,none⟩)) (.pointer (some ⟨bb,0,none⟩)) rfl rfl rfl rfl hpin (by show pinH ia ib H LIM=_;unfold pinH;rw [if_pos rfl];exact e2) (by show pinH ia ib H (LIM+1)=_;unfold pinH;rw [if_neg (by omega),if_pos rfl];exact e4) hdef;refine wp_region ?_;subst hops';show wpOps P #[o1,o2] Q [0,1] a0 w;rw [wpOps_cons];refine zd2 (o:=o1) rfl h3 ?_;unfold Oper.wp;have x1:(execOp a0.eval o1).run P w = .ok (.value (.func (.func g') #[] #[.pointer (some ⟨ba,0,none⟩),.pointer (some ⟨bb,0,none⟩)])) w:=by
      have y1:a0.eval (.tmp x) = .pointer (some ⟨ba,0,none⟩):=e1;have y2:a0.eval (.tmp y) = .pointer (some ⟨bb,0,none⟩):=e3;subst hf';subst hc';simp [execOp,h1,Instr.makeFunc,y1,y2]
     rw [x1];show wpOps P #[o1,o2] Q [1] (a0.put o1.dst _) w;rw [wpOps_cons];refine zd2 (o:=o2) rfl h6 ?_;unfold Oper.wp;have x2:(execOp (a0.put o1.dst (.func (.func g') #[] #[.pointer (some ⟨ba,0,none⟩),.pointer (some ⟨bb,0,none⟩)])).eval o2).run P w = .ok (.defer { target := .fn (.func g') #[.pointer (some ⟨ba,0,none⟩),.pointer (some ⟨bb,0,none⟩)],args:=#[] }) w:=by
      have hev:(a0.put o1.dst (.func (.func g') #[] #[.pointer (some ⟨ba,0,none⟩),.pointer (some ⟨bb,0,none⟩)])).eval (.tmp d') = .func (.func g') #[] #[.pointer (some ⟨ba,0,none⟩),.pointer (some ⟨bb,0,none⟩)]:=by
       rw [h2];show (a0.put (some d') _).tmps.getD d' undef=_;rw [zmY (by rw [r.size];exact hlt),if_pos rfl]
      simp [execOp,h4,resolve,hcal,hca',hev,Deferred.ofValue]
     rw [x2];have hfin:({ a0.put o1.dst (.func (.func g') #[] #[.pointer (some ⟨ba,0,none⟩),.pointer (some ⟨bb,0,none⟩)]) with defers:={ target := .fn (.func g') #[.pointer (some ⟨ba,0,none⟩),.pointer (some ⟨bb,0,none⟩)],args:=#[] }::(a0.put o1.dst (.func (.func g') #[] #[.pointer (some ⟨ba,0,none⟩),.pointer (some ⟨bb,0,none⟩)])).defers }:Act).put o2.dst undef=
       {a0.put (some d') (.func (.func g') #[] #[.pointer (some ⟨ba,0,none⟩),.pointer (some ⟨bb,0,none⟩)]) with defers:=[{ target := .fn (.func g') #[.pointer (some ⟨ba,0,none⟩),.pointer (some ⟨bb,0,none⟩)],args:=#[] }] }:=by
      rw [h2,h5];simp [Act.put,hdef]
     show wpOps P #[o1,o2] Q [] _ w;rw [hfin];exact hgo
    ·cases h
   ·cases h
  ·cases h
 ·cases h
def capD (TT:List TE) (rs:List ResultVar) (out:Shape) (s:ESt):Option (Tup out.tys):=match capR TT rs out s with
 | some Y=>bif out.ents.isEmpty && (out.vals Y).all EV.isD then some Y else none
 | none=>none
def zsm (h:Hp) (H:Hd) (X:Nat->Prop) (w:World) (out:Shape) (Y:Tup out.tys) (e:Ending) (w':World):Prop:=∃ v r h' H',e = .returned v/\(r=(retE (out.vals Y)).av/\h'=hpSt (out.heap Y) (out.rws Y))/\
   (w'.os=w.os/\w'.tape=w.tape/\w'.output=w.output/\w.heap.size<=w'.heap.size)/\(∀ b,b < w.heap.size -> ¬ zcL h H b->w'.heap[b]? =w.heap[b]?)/\
   HOK X h' H' w'/\(∀ b,zcL h' H' b->w.heap.size<=b\/zcL h H b)/\(∀ id,pinB id=true->H' id=H id)/\VRel w' (Sh X (zbm h') H' w') H' r v
theorem zrD {w:World} {S:Nat->Prop} {H H2:Hd}:∀ {x:EV} {v:Value},x.isD=true->VRel w S H x.av v->VRel w S H2 x.av v
 | .d t x,v,_,h=>by cases h with | d _ _ h1=>exact .d _ _ h1
theorem zpV {w:World} {S:Nat->Prop} {H H2:Hd} {l:List EV} {v:Value} (hl:l.all EV.isD=true) (h:VRel w S H (retE l).av v):VRel w S H2 (retE l).av v:=by
 rw [zpb] at h ⊢
 match l,hl,h with
 | [],_,h=>cases h with | tup l cs hs h1=>exact .tup _ cs hs fun i hi=>(Nat.not_lt_zero i hi).elim
 | [x],hl,h=>exact zrD (by simpa using hl) h
 | x::y::r,hl,h=>
  have h:VRel w S H (.tup (EV.avL (x::y::r))) v:=h;show VRel w S H2 (.tup (EV.avL (x::y::r))) v;cases h with
  | tup l cs hs h1=>
   refine .tup _ cs hs fun i hi => ?_
   have h2:=h1 i hi;have hlen:i < (x::y::r).length:=by rw [zb2] at hi;exact hi
   have e:(EV.avL (x::y::r)).getD i default=((x::y::r)[i]).av:=by
    rw [zch,List.getD_eq_getElem?_getD,List.getElem?_map,List.getElem?_eq_getElem hlen];rfl
   rw [e] at h2 ⊢;exact zrD (List.all_eq_true.1 hl _ (List.getElem_mem hlen)) h2
theorem zrq {TT:List TE} (hT:TOK P TT) {fn:Func} {out:Shape} {s:ESt} {Y:Tup out.tys} {F':Fr} {H':Hd} {a':Act} {w':World} (hc:capD TT fn.results.toList out s=some Y) (r:RelH F' s.st H' a' w')
  {h:Hp} {H:Hd} {X:Nat->Prop} {w:World} (hX:F'.X=X) (ho:w'.os=w.os/\w'.tape=w.tape/\w'.output=w.output/\w.heap.size<=w'.heap.size) (hk:∀ b,b < w.heap.size -> ¬ zcL h H b->w'.heap[b]? =w.heap[b]?):
  ∃ v,(results fn a'.tmps).run P w' = .ok v w'/\zsm h H X w out Y (.returned v) w':=by
 unfold capD at hc;split at hc
 ·rename_i Y' hY;have hb:=(zaa hc).1;replace hc:=(zaa hc).2;cases hc;simp only [Bool.and_eq_true] at hb;obtain ⟨hemp,hall⟩:=hb;have hemp:out.ents=[]:=by simpa using hemp
  have hent:∀ id,zbm (hpSt (out.heap Y) (out.rws Y)) id=none:=by
   intro id;unfold Shape.heap Shape.rws zcG zbr hpSt;rw [hemp];show zar [] id=none;unfold zar;split<;>rfl
  obtain ⟨s1,hw,mp,xs,h',⟨hok,hoff⟩,hret,hsub,hR,hh⟩:=zha (P:=P) hT hY;obtain ⟨H1,r1⟩:=hw.rel F' a' w' ⟨H',r⟩;subst hh;have hs:SubF mp s1.st ⟨s1.st.n,LIM,[],[],hpSt (out.heap Y) (out.rws Y)⟩:=⟨rfl,hok,fun k x' h=>(by cases h),fun i e' hi=>hsub i e' hi,fun i o hi hp=>hoff i o hi hp⟩;have hsh:=fun b hb=>hs.sh r1 b hb
  rw [zd4] at hsh;obtain ⟨vl,hm,hl,hv⟩:=zfl (fn:=fn) r1 hok hsh fn.results.toList xs hret;have hm':(fn.results.mapM (resF a'.tmps)).run P w' = .ok vl.toArray w':=by
   rw [Array.mapM_eq_mapM_toList];have:(List.toArray <$> fn.results.toList.mapM (resF a'.tmps)).run P w'=((fn.results.toList.mapM (resF a'.tmps)).run P w').andThen fun l w'' => .ok l.toArray w'':=by
    rw [map_eq_pure_bind];simp only [Sem.run_bind,Sem.run_pure]
   rw [this,hm];rfl
  have hSh:∀ (Hx Hy:Hd) b,Sh F'.X (zbm (hpSt (out.heap Y) (out.rws Y))) Hx w' b->Sh X (zbm (hpSt (out.heap Y) (out.rws Y))) Hy w' b:=fun Hx Hy b hb=>⟨hb.1,hX ▸ hb.2.1,fun id e v he=>by rw [hent] at he;cases he⟩
  refine ⟨_,by rw [zmh];simp only [Sem.run_bind,hm',Result.andThen_ok,Sem.run_pure];rfl,_,_,_,H,rfl,⟨rfl,rfl⟩,ho,hk,⟨fun id e he=>(by rw [hent] at he;cases he),fun id e v b he=>(by rw [hent] at he;cases he),fun i j e e' v v' b he=>(by rw [hent] at he;cases he)⟩,
   fun b ⟨id,e,v,he,_⟩=>(by rw [hent] at he;cases he),fun _ _=>rfl,?_⟩
  have hr3:∀ i,i < xs.length->VRel w' (Sh F'.X (zbm (hpSt (out.heap Y) (out.rws Y))) (renH mp H1) w') (renH mp H1) (xs.getD i default) (vl.getD i undef):=hv;have hall':VRel w' (Sh F'.X (zbm (hpSt (out.heap Y) (out.rws Y))) (renH mp H1) w') (renH mp H1) (zpW xs) (if h:vl.toArray.size=1 then vl.toArray[0] else .tuple vl.toArray):=by
   match xs,vl,hl,hr3 with
   | [],[],_,hr3=>exact .tup [] #[] rfl (by simp)
   | [x],[u],_,hr3=>exact (by simpa using hr3 0 (by simp):VRel w' _ (renH mp H1) x u)
   | x::y::r',u::v::r'',hl,hr3=>
    have hne : ¬ ((u::v::r'').toArray.size=1):=by simp
    rw [dif_neg hne];refine .tup _ _ (by simpa using hl) fun i hi => ?_
    have:=hr3 i hi;simpa [List.getD_eq_getElem?_getD] using this
  rw [hR] at hall';exact zpV (H:=H) hall (((zpV (H2:=H) hall hall').mono (fun b hb=>⟨hSh _ H b hb,rfl⟩) (fun _ _ h=>h)))
 ·cases hc
def znu (sa sb Ta Tb:Nat) (z:EV) (p:Int×Int) (s:ESt):ESt:=⟨s.n,[(sa,.ptr LIM 0),(sb,.ptr (LIM+1) 0)],[(LIM,some (.box Ta [z])),(LIM+1,some (.box Tb [.d (.int .i64) p.1,.d (.int .i64) p.2]))],s.nxt,[]⟩
def zoy (sa sb Ta Tb:Nat) (s:ESt):Bool:=match s.get sa,s.get sb,s.ent LIM,s.ent (LIM+1) with
 | some (.ptr i 0),some (.ptr j 0),some (.box T1 [_]),some (.box T2 [_,_])=>Nat.beq i LIM && Nat.beq j (LIM+1) && Nat.beq T1 Ta && Nat.beq T2 Tb
 | _,_,_,_=>false
def endD (TT:List TE) (rs:List ResultVar) (out:Shape) (T sa sb Ta Tb:Nat) (z:EV):Exit->ESt->Option (Tup out.tys)
 | .normal,s=>capD TT rs out s
 | .ret,s=>capD TT rs out s
 | .panic ch,s=>match dec T ch with
  | some p=>bif zoy sa sb Ta Tb s then capD TT rs out (znu sa sb Ta Tb z p s) else none
  | none=>none
 | _,_=>none
def zq4 (A:Ann):Code->Option (Array Oper)
 | .region id ops draw=>bif draw then none else (look A.ords (3000000+id)).map fun _=>ops
 | _=>none
def evCd (TT:List TE) (Γ:List CE) (Γp:List CEp) (T:Nat) (A:Ann) (rs:List ResultVar) (out:Shape) (g sa sb Ta Tb:Nat) (z:EV):Code->ESt->Option (Tup out.tys)
 | .seq x y,s=>match zq4 A x with
  | some ops=>match zoO g sa sb ops s with
   | some s'=>evC TT Γ Γp T (both out.tys) A y s' (endD TT rs out T sa sb Ta Tb z)
   | none=>none
  | none=>evC TT Γ Γp T (both out.tys) A x s fun e s'=>match e with
   | .normal=>evCd TT Γ Γp T A rs out g sa sb Ta Tb z y s'
   | .ret=>capD TT rs out s'
   | _=>none
 | _,_=>none
theorem zm5:pinB LIM=true/\pinB (LIM+1)=true:=⟨by decide,by decide⟩
theorem zta {w:World} {S:Nat->Prop} {H:Hd} {Tx b:Nat} {c:List EV} (h:EntRel w S H (.box Tx (EV.avL c)) (.pointer (some ⟨b,0,none⟩))):∃ cur,w.heap[b]? =some (.cells cur Tx (0,0))/\cur.size=c.length:=by
 generalize hl:EV.avL c=l at h;cases h with
 | box _ _ b' cur hb hs hrel=>exact ⟨cur,hb,by rw [hs,<- hl,zb2]⟩
theorem zl1 {TT:List TE} {Γ:List CE} {Γp:List CEp} {T:Nat} {A:Ann} {out:Shape} {g sa sb Ta Tb:Nat} {z:EV} {nilv:Value} {fn:Func} {Y:Tup out.tys}
  (hm:P.follows .mixedOrders=true) (hT:TOK P TT) (hG:GOK P Γ) (hGp:GPOK P T Γp) (hc:CatchOK P T g Ta Tb nilv) (hz:∀ (w:World) (S:Nat->Prop) (H:Hd),VRel w S H z.av nilv)
  {h:Hp} {H:Hd} {X:Nat->Prop} {w0:World} (hFw:F.w=w0) (hFO:F.O=zcL h H) (hFX:F.X=X) (hFD:F.D=[]):
  ∀ (c:Code) (s:ESt),evCd TT Γ Γp T A fn.results.toList out g sa sb Ta Tb z c s=some Y->∀ (a:Act) (w:World),Rel F s.st a w->c.wp P (bodyPostD P fn (zsm h H X w0 out Y)) a w
 | .seq x y,s,he,a,w,hr=>by
  simp only [evCd] at he;have fin:∀ {F':Fr} {s':ESt} {H':Hd} {a':Act} {w':World},F'.w=F.w->F'.O=F.O->F'.X=F.X->RelH F' s'.st H' a' w'->capD TT fn.results.toList out s'=some Y->
    ∃ v,(results fn a'.tmps).run P w' = .ok v w'/\zsm h H X w0 out Y (.returned v) w':=by
   intro F' s' H' a' w' e1 e2 e3 r hcap;refine zrq hT hcap r (e3.trans hFX) ?_ ?_
   ·rw [<- hFw,<- e1];exact ⟨r.os,r.tape,r.output,r.grow⟩
   ·rw [<- hFw,<- e1,<- hFO,<- e2];exact r.keep
  split at he
  ·rename_i ops hd;split at he
   ·rename_i s1 h1;obtain ⟨id,rfl⟩:∃ id,x = .region id ops false:=by
     unfold zq4 at hd;split at hd
     ·rename_i id ops' draw;cases draw with
      | true=>cases hd
      | false=>
       obtain ⟨_,_,e⟩:=Option.map_eq_some_iff.1 hd;subst e;exact ⟨id,rfl⟩
     ·cases hd
    obtain ⟨H',hr⟩:=hr;refine wp_seq (zoE h1 hr (fun F1 H1 a1 va vb g1 g2 g3 g4 r1 g5 g6 _ => ?_) hFD);show y.wp P _ a1 w;have hinv:∀ w',(invoke (.fn (.func g) #[va,vb]) #[]).run P w' = .ok (.enter g #[va,vb]) w':=fun w'=>by
     have:=hc.call (#[]++#[va,vb]) w';simpa [invoke] using this
    refine wp_mono (zbq (F:=F1) hm hT hG hGp (zkL out.tys) y s1 _ he a1 w ⟨H1,r1⟩) fun e a' w' hp => ?_
    obtain ⟨σ',⟨s2,rfl,_,h3⟩,H2,r2⟩:=hp;have idle:capD TT fn.results.toList out s2=some Y->Leaves P fn a'.tmps (zsm h H X w0 out Y) a'.defers .returning w':=fun h3=>by
     rw [r2.defs,g4];refine leaves_cons (f:=g) (args:=#[va,vb]) (by simp) (hinv w') ((hc.idle va vb w').mono fun e u w3 hh => ?_);obtain ⟨⟨v,rfl⟩,rfl,rfl⟩:=hh;exact fin g1 g2 g3 r2 h3
    cases e with
    | normal=>exact idle h3
    | ret=>exact idle h3
    | panic ch=>
     have h4:(match dec T ch with
      | some p=>bif zoy sa sb Ta Tb s2 then capD TT fn.results.toList out (znu sa sb Ta Tb z p s2) else none
      | none=>none)=some Y:=h3
     split at h4
     ·rename_i p hp;have hch:=zq1 hp;subst hch;have hb:=(zaa h4).1;replace h4:=(zaa h4).2;unfold zoy at hb;split at hb
      ·rename_i i j T1 c1 T2 c2 c3 k1 k2 k3 k4;simp only [Bool.and_eq_true] at hb;obtain ⟨⟨⟨b1,b2⟩,b3⟩,b4⟩:=hb;have b1:=Nat.eq_of_beq_eq_true b1;have b2:=Nat.eq_of_beq_eq_true b2;have b3:=Nat.eq_of_beq_eq_true b3;have b4:=Nat.eq_of_beq_eq_true b4;subst b1;subst b2;subst b3;subst b4;have hva:=r2.slot sa _ (zbY k1);have hvb:=r2.slot sb _ (zbY k2);obtain ⟨ba,e1,e2⟩:∃ c,a'.tmps.getD sa undef = .pointer (some ⟨c,0,none⟩)/\H2 LIM=some (.pointer (some ⟨c,0,none⟩)):=by
        generalize a'.tmps.getD sa undef=u at hva;cases hva with
        | ptr _ _ c hc=>exact ⟨c,rfl,hc⟩
       obtain ⟨bb,e3,e4⟩:∃ c,a'.tmps.getD sb undef = .pointer (some ⟨c,0,none⟩)/\H2 (LIM+1)=some (.pointer (some ⟨c,0,none⟩)):=by
        generalize a'.tmps.getD sb undef=u at hvb;cases hvb with
        | ptr _ _ c hc=>exact ⟨c,rfl,hc⟩
       have ea:=zat k3;have eb:=zat k4;obtain ⟨va',q1,q2⟩:=r2.ent LIM _ ea;obtain ⟨vb',q3,q4⟩:=r2.ent (LIM+1) _ eb;rw [e2] at q1;cases q1;rw [e4] at q3;cases q3;obtain ⟨ca,z1,z2⟩:=zta (c:=[c1]) q2;obtain ⟨cb,z3,z4⟩:=zta (c:=[c2,c3]) q4;have hva1:va = .pointer (some ⟨ba,0,none⟩):=by
        have:=r2.pin LIM zm5.1;rw [e2,g5] at this;cases this;rfl
       have hvb1:vb = .pointer (some ⟨bb,0,none⟩):=by
        have:=r2.pin (LIM+1) zm5.2;rw [e4,g6] at this;cases this;rfl
       have hne:ba≠bb:=fun e=>by
        subst e;have:=r2.inj LIM (LIM+1) _ _ _ _ ba ea eb e2 e4 rfl rfl;omega
       show Leaves P fn a'.tmps _ a'.defers (.panicking (pch T p)) w';rw [r2.defs,g4];refine leaves_cons (f:=g) (args:=#[va,vb]) (by simp) (hinv w') ?_;subst hva1;subst hvb1;refine (hc.caught p w' ba bb ca cb hne z1 z2 z3 z4).mono fun e u w3 hh => ?_
       obtain ⟨⟨v,rfl⟩,hset,⟨o1,o2,o3,o4⟩,hkp,y1,y2⟩:=hh;show Leaves P fn a'.tmps _ [] (settle u) w3;rw [hset];have own1:=r2.own LIM _ _ ba ea e2 rfl;have own2:=r2.own (LIM+1) _ _ bb eb e4 rfl;have hent:∀ id e,(znu sa sb T1 T2 z p s2).st.ent id=some e->(id=LIM/\e = .box T1 (EV.avL [z]))\/(id=LIM+1/\e = .box T2 (EV.avL [.d (.int .i64) p.1,.d (.int .i64) p.2])):=by
        intro id e he;rw [zao] at he;simp only [znu,zae] at he;split at he
        ·rename_i q hq;split at hq
         ·rename_i e';cases hq;cases he;exact .inl ⟨e'.symm,rfl⟩
         ·split at hq
          ·rename_i e';cases hq;cases he;exact .inr ⟨e'.symm,rfl⟩
          ·cases hq
        ·unfold zar at he;split at he
         ·cases he
         ·cases he
       have r3:RelH { w:=w3,O:=fun _=>True,X:=F1.X,H0:=H2,D:=F1.D } (znu sa sb T1 T2 z p s2).st H2 a' w3:={
        size:=r2.size,defs:=r2.defs,os:=rfl,tape:=rfl,output:=rfl,grow:=Nat.le_refl _,keep:=fun _ _ hn=>(hn trivial).elim
        xlt:=fun b hb=>Nat.lt_of_lt_of_le (r2.xlt b hb) (Nat.le_trans r2.grow o4)
        fresh:=r2.fresh
        pin:=fun _ _=>rfl
        ent:=fun id e he=>by
         rcases hent id e he with ⟨rfl,rfl⟩ | ⟨rfl,rfl⟩
         ·exact ⟨_,e2,.box _ _ ba #[nilv] y1 rfl fun j hj=>by
           have:j=0:=by have hj:j < 1:=hj;omega
           subst this;exact hz _ _ _⟩
         ·exact ⟨_,e4,.box _ _ bb #[.int .i64 p.1,.int .i64 p.2] y2 rfl fun j hj=>by
           have hj:j < 2:=hj
           match j,hj with
           | 0,_=>exact .d _ _ (.lit _ rfl)
           | 1,_=>exact .d _ _ (.lit _ rfl)⟩
        own:=fun id e v b he hv hbv=>by
         refine ⟨.inr trivial,?_⟩;rcases hent id e he with ⟨rfl,_⟩ | ⟨rfl,_⟩
         ·rw [e2] at hv;cases hv;cases hbv;exact own1.2
         ·rw [e4] at hv;cases hv;cases hbv;exact own2.2
        inj:=fun id id' e e' v v' b he he' hv hv' hb hb'=>by
         rcases hent id e he with ⟨rfl,_⟩ | ⟨rfl,_⟩<;>rcases hent id' e' he' with ⟨rfl,_⟩ | ⟨rfl,_⟩
         ·rfl
         ·rw [e2] at hv;rw [e4] at hv';cases hv;cases hv';cases hb;cases hb';exact absurd rfl hne
         ·rw [e4] at hv;rw [e2] at hv';cases hv;cases hv';cases hb;cases hb';exact absurd rfl hne
         ·rfl
        slot:=fun k x hx=>by
         rw [zg6] at hx;have hx2:(look [(sa,EV.ptr LIM 0),(sb,EV.ptr (LIM+1) 0)] k).map EV.av=some x:=hx;clear hx;simp only [zae] at hx2;by_cases k1:sa=k
         ·subst k1;rw [if_pos rfl] at hx2;cases hx2;rw [e1];exact .ptr LIM 0 ba e2
         ·rw [if_neg k1] at hx2;by_cases k2:sb=k
          ·subst k2;rw [if_pos rfl] at hx2;cases hx2;rw [e3];exact .ptr (LIM+1) 0 bb e4
          ·rw [if_neg k2] at hx2;cases hx2 }
       refine zrq hT h4 r3 (g3.trans hFX) ?_ ?_
       ·rw [<- hFw,<- g1];exact ⟨o1.trans r2.os,o2.trans r2.tape,o3.trans r2.output,Nat.le_trans r2.grow o4⟩
       ·intro b hb ho;rw [<- hFO,<- g2] at ho;rw [<- hFw,<- g1] at hb ⊢;rw [hkp b (Nat.lt_of_lt_of_le hb r2.grow) (fun e=>by subst e;rcases own1.1 with q | q;omega;exact ho q) (fun e=>by subst e;rcases own2.1 with q | q;omega;exact ho q)];exact r2.keep b hb ho
      ·cases hb
     ·cases h4
    | _=>cases h3
   ·cases he
  ·refine wp_seq (wp_mono (zbq hm hT hG hGp (zkL out.tys) x s _ he a w hr) fun e a' w' hp => ?_);obtain ⟨σ',⟨s2,rfl,_,h3⟩,H2,r2⟩:=hp;cases e with
   | normal=>exact zl1 hm hT hG hGp hc hz hFw hFO hFX hFD y s2 h3 a' w' ⟨H2,r2⟩
   | ret=>
    show Leaves P fn a'.tmps _ a'.defers .returning w';rw [r2.defs,hFD];exact fin rfl rfl rfl r2 h3
   | _=>cases h3
theorem CE.ofCatch (hm:P.follows .mixedOrders=true) {TT:List TE} {Γ:List CE} {Γp:List CEp} {T:Nat} (hT:TOK P TT) (hG:GOK P Γ) (hGp:GPOK P T Γp) (A:Ann) {f:Nat} {fn:Func} {body:Code} {n:Nat} (hf:P.funcs[f]? =some fn) (hb:fn.body=some body) (hn:fn.ntmps=n) {rs:List ResultVar} (hrs:fn.results.toList=rs) {sig out:Shape} (hlen:Nat.ble sig.slots.length n=true)
  (hcall:∀ (as:Array Value) (w:World),(callFunc f as).run P w = .ok (.enter f as) w) {g sa sb Ta Tb:Nat} {z:EV} {nilv:Value} (hc:CatchOK P T g Ta Tb nilv) (hz:∀ (w:World) (S:Nat->Prop) (H:Hd),VRel w S H z.av nilv)
  {den:Tup sig.tys->Option (Tup out.tys)} (h:∀ X,evCd TT Γ Γp T A rs out g sa sb Ta Tb z body (zjZ n sig X)=den X):CE.ok P ⟨f,sig,out,den⟩ where
 call:=hcall
 fc X Y hXY:=by
  intro w X' H vs hX hlow hH hvs hargs;have hvs:vs.size=(EV.avL (sig.vals X)).length:=hvs;have hle:(EV.avL (sig.vals X)).length<=n:=by rw [zb2];unfold Shape.vals;rw [List.length_map];simpa using hlen
  let F:Fr:={ w:=w,O:=zcL (hpSt (sig.heap X) (sig.rws X)) H,X:=X',H0:=H }
  refine calls_of_wp_defers hf hb ?_;have hsz:(vs++Array.replicate (fn.ntmps - vs.size) undef).size=n:=by simp;omega
  have r0:RelH F (St.start n (EV.avL (sig.vals X)) (hpSt (sig.heap X) (sig.rws X))) H { tmps:=vs++Array.replicate (fn.ntmps - vs.size) undef,defers:=[] } w:={
   size:=hsz,defs:=rfl,os:=rfl,tape:=rfl,output:=rfl,grow:=Nat.le_refl _,keep:=fun _ _ _=>rfl,xlt:=hX
   fresh:=fun id _ h2=>hlow id h2
   pin:=fun _ _=>rfl
   ent:=by unfold St.start;rw [zd4];exact hH.ent
   own:=by unfold St.start;rw [zd4];exact fun id e v b h1 h2 h3=>⟨.inr ⟨id,e,v,h1,h2,h3⟩,hH.own id e v b h1 h2 h3⟩
   inj:=by unfold St.start;rw [zd4];exact hH.inj
   slot:=fun k x hx=>by
    obtain ⟨_,h2⟩:=zes (EV.avL (sig.vals X)) 0 k x hx;have hk:k < (EV.avL (sig.vals X)).length:=(List.getElem?_eq_some_iff.1 (by simpa using h2)).1;have:=hargs k hk;have h3:(EV.avL (sig.vals X)).getD k default=x:=by
     rw [List.getD_eq_getElem?_getD];have:(EV.avL (sig.vals X))[k]? =some x:=by simpa using h2
     rw [this];rfl
    rw [h3] at this;have h4:(vs++Array.replicate (fn.ntmps - vs.size) undef).getD k undef=vs.getD k undef:=by
     have:k < vs.size:=by omega
     simp [Array.getElem?_append_left this]
    show VRel w _ H x ((vs++Array.replicate (fn.ntmps - vs.size) undef).getD k undef);unfold St.start;rw [h4,zd4];exact this }
  refine wp_mono (zl1 (F:=F) (fn:=fn) hm hT hG hGp hc hz rfl rfl rfl rfl body (zjZ n sig X) (by rw [hrs,h X];exact hXY) _ w ((zhx n sig X).rel ⟨H,r0⟩)) fun _ _ _ hh=>hh
def payT:Ty := .pair (.pair (.int .i64) (.pair (.int .i64) .unit)) .unit
def zs0 (n k Ta Tb:Nat) (p:Int×Int):ESt:=⟨n,[(0,.ptr LIM 0),(1,.ptr (LIM+1) 0),(k,.d payT ((p.1,p.2,()),()))],[(LIM,some (.box Ta [.any])),(LIM+1,some (.box Tb [.any,.any]))],0,[]⟩
def tailK (kz:Bool) (Ta Tb:Nat):Exit->ESt->Option (Int×Int)
 | .normal,s=>match s.ent LIM,s.ent (LIM+1) with
  | some (.box T1 [z]),some (.box T2 [.d (.int .i64) x,.d (.int .i64) y])=>bif Nat.beq T1 Ta && Nat.beq T2 Tb && isZ kz z then some (x,y) else none
  | _,_=>none
 | _,_=>none
theorem tail_wp {TT:List TE} {A:Ann} {c:Code} {kz:Bool} {n k Ta Tb:Nat} {p:Int×Int} (hm:P.follows .mixedOrders=true) (hT:TOK P TT)
  (he:evC TT [] [] 0 bothS A c (zs0 n k Ta Tb p) (tailK kz Ta Tb)=bothS (some (p.1,p.2)) (some (p.1,p.2))) {a:Act} {w:World} {ba bb:Nat} {ca cb:Array Value} (hne:ba≠bb)
  (h1:w.heap[ba]? =some (.cells ca Ta (0,0))) (h2:ca.size=1) (h3:w.heap[bb]? =some (.cells cb Tb (0,0))) (h4:cb.size=2)
  (hs:a.tmps.size=n) (hd:a.defers=[]) (h0:a.tmps.getD 0 undef = .pointer (some ⟨ba,0,none⟩)) (h5:a.tmps.getD 1 undef = .pointer (some ⟨bb,0,none⟩))
  (h6:a.tmps.getD k undef = .agg #[.int .i64 p.1,.int .i64 p.2]):
  c.wp P (fun e a' w'=>e = .normal/\a'.defers=[]/\(w'.os=w.os/\w'.tape=w.tape/\w'.output=w.output/\w.heap.size<=w'.heap.size)/\(∀ b,b < w.heap.size->b≠ba->b≠bb->w'.heap[b]? =w.heap[b]?)/\
   w'.heap[ba]? =some (.cells #[zV kz] Ta (0,0))/\w'.heap[bb]? =some (.cells #[.int .i64 p.1,.int .i64 p.2] Tb (0,0))) a w:=by
 let H:Hd:=fun id=>if id=LIM then some (.pointer (some ⟨ba,0,none⟩)) else if id=LIM+1 then some (.pointer (some ⟨bb,0,none⟩)) else none
 have hA:H LIM=some (.pointer (some ⟨ba,0,none⟩)):=if_pos rfl;have hB:H (LIM+1)=some (.pointer (some ⟨bb,0,none⟩)):=by show (if _ then _ else _)=_;rw [if_neg (by omega),if_pos rfl]
 let F:Fr:={ w:=w,O:=fun b=>b=ba\/b=bb,X:=fun _=>False,H0:=H }
 have hent:∀ id e,(zs0 n k Ta Tb p).st.ent id=some e->(id=LIM/\e = .box Ta (EV.avL [.any]))\/(id=LIM+1/\e = .box Tb (EV.avL [.any,.any])):=by
  intro id e he;rw [zao] at he;simp only [zs0,zae] at he;split at he
  ·rename_i q hq;split at hq
   ·rename_i e';cases hq;cases he;exact .inl ⟨e'.symm,rfl⟩
   ·split at hq
    ·rename_i e';cases hq;cases he;exact .inr ⟨e'.symm,rfl⟩
    ·cases hq
  ·unfold zar at he;split at he
   ·cases he
   ·cases he
 have r:RelH F (zs0 n k Ta Tb p).st H a w:={
  size:=hs,defs:=hd,os:=rfl,tape:=rfl,output:=rfl,grow:=Nat.le_refl _,keep:=fun _ _ _=>rfl,xlt:=fun _ h=>h.elim
  fresh:=fun id _ g2=>by
   have:id≠LIM:=fun e=>by subst e;rw [zlI (by unfold LIM RB;omega)] at g2;omega
   have:id≠LIM+1:=fun e=>by subst e;rw [zlI (by unfold LIM RB;omega)] at g2;omega
   show (if _ then _ else _)=_;rw [if_neg (by assumption),if_neg (by assumption)]
  pin:=fun _ _=>rfl
  ent:=fun id e he=>by
   rcases hent id e he with ⟨rfl,rfl⟩ | ⟨rfl,rfl⟩
   ·exact ⟨_,hA,.box _ _ ba ca h1 h2 fun j hj=>by
     have:j=0:=by have hj:j < 1:=hj;omega
     subst this;exact .any _⟩
   ·exact ⟨_,hB,.box _ _ bb cb h3 h4 fun j hj=>by
     have hj:j < 2:=hj
     match j,hj with
     | 0,_=>exact .any _
     | 1,_=>exact .any _⟩
  own:=fun id e v b he hv hbv=>by
   refine ⟨.inr ?_,fun h=>h⟩;rcases hent id e he with ⟨rfl,_⟩ | ⟨rfl,_⟩
   ·rw [hA] at hv;cases hv;cases hbv;exact .inl rfl
   ·rw [hB] at hv;cases hv;cases hbv;exact .inr rfl
  inj:=fun id id' e e' v v' b he he' hv hv' hb hb'=>by
   rcases hent id e he with ⟨rfl,_⟩ | ⟨rfl,_⟩<;>rcases hent id' e' he' with ⟨rfl,_⟩ | ⟨rfl,_⟩
   ·rfl
   ·rw [hA] at hv;rw [hB] at hv';cases hv;cases hv';cases hb;cases hb';exact absurd rfl hne
   ·rw [hB] at hv;rw [hA] at hv';cases hv;cases hv';cases hb;cases hb';exact absurd rfl hne
   ·rfl
  slot:=fun j x hx=>by
   rw [zg6] at hx;have hx2:(look [(0,EV.ptr LIM 0),(1,EV.ptr (LIM+1) 0),(k,EV.d payT ((p.1,p.2,()),()))] j).map EV.av=some x:=hx;clear hx;simp only [zae] at hx2;by_cases k1:0=j
   ·subst k1;rw [if_pos rfl] at hx2;cases hx2;rw [h0];exact .ptr LIM 0 ba hA
   ·rw [if_neg k1] at hx2;by_cases k2:1=j
    ·subst k2;rw [if_pos rfl] at hx2;cases hx2;rw [h5];exact .ptr (LIM+1) 0 bb hB
    ·rw [if_neg k2] at hx2;by_cases k3:k=j
     ·subst k3;rw [if_pos rfl] at hx2;cases hx2;rw [h6];exact .d _ _ (.agg [.lit (.int .i64 p.1),.lit (.int .i64 p.2)] _ rfl fun i hi=>by
       have hi:i < 2:=hi
       match i,hi with
       | 0,_=>exact .lit _ rfl
       | 1,_=>exact .lit _ rfl)
     ·rw [if_neg k3] at hx2;cases hx2 }
 refine wp_mono (zbq (F:=F) hm hT (fun _ h=>by cases h) (fun _ h=>by cases h) zin c _ _ (he.trans (zlY _)) a w ⟨H,r⟩) fun e a' w' hp => ?_
 obtain ⟨σ',⟨s',rfl,_,hK⟩,H',r'⟩:=hp;cases e with
 | normal=>
  have hL:(match s'.ent LIM,s'.ent (LIM+1) with
   | some (.box T1 [z]),some (.box T2 [.d (.int .i64) x,.d (.int .i64) y])=>bif Nat.beq T1 Ta && Nat.beq T2 Tb && isZ kz z then some (x,y) else none
   | _,_=>none)=some (p.1,p.2):=hK
  split at hL
  ·rename_i T1 z T2 x y e1 e2;have hb:=(zaa hL).1;replace hL:=(zaa hL).2;simp only [Bool.and_eq_true] at hb;have b1:=Nat.eq_of_beq_eq_true hb.1.1;have b2:=Nat.eq_of_beq_eq_true hb.1.2;subst b1;subst b2;cases hL;have p1:H' LIM=H LIM:=r'.pin LIM zm5.1;have p2:H' (LIM+1)=H (LIM+1):=r'.pin (LIM+1) zm5.2;obtain ⟨va,q1,q2⟩:=r'.ent LIM _ (zat e1);obtain ⟨vb,q3,q4⟩:=r'.ent (LIM+1) _ (zat e2);rw [p1,hA] at q1;cases q1;rw [p2,hB] at q3;cases q3;refine ⟨rfl,r'.defs,⟨r'.os,r'.tape,r'.output,r'.grow⟩,fun b g1 g2 g3=>r'.keep b g1 fun h=>h.elim g2 g3,?_,?_⟩
   ·have q2:EntRel w' (Sh F.X s'.st.ent H' w') H' (.box T1 [z.av]) (.pointer (some ⟨ba,0,none⟩)):=q2;generalize hy:z.av=y at q2;cases q2 with
    | box _ _ b' cur hb' hs' hrel=>
     have:=hrel 0 (by simp);have hs':cur.size=1:=hs';have hc:cur=#[cur.getD 0 undef]:=by
      apply Array.ext
      ·rw [hs'];rfl
      ·intro i g1 g2;have:i=0:=by have g2:i < 1:=g2;omega
       subst this;simp [Array.getD,g1]
     rw [hb',hc];rw [zsI hb.2 (v:=cur.getD 0 undef) (by rw [hy];exact this)]
   ·have q4:EntRel w' (Sh F.X s'.st.ent H' w') H' (.box T2 [.d (.lit (.int .i64 p.1)),.d (.lit (.int .i64 p.2))]) (.pointer (some ⟨bb,0,none⟩)):=q4;cases q4 with
    | box _ _ b' cur hb' hs' hrel=>
     have g0:=hrel 0 (by simp);have g1:=hrel 1 (by simp);have hs':cur.size=2:=hs';have hc:cur=#[cur.getD 0 undef,cur.getD 1 undef]:=by
      apply Array.ext
      ·rw [hs'];rfl
      ·intro i k1 k2;have k2:i < 2:=k2
       match i,k2 with
       | 0,_=>simp [Array.getD,k1]
       | 1,_=>simp [Array.getD,k1]
     rw [hb',hc];generalize cur.getD 0 undef=u at g0;generalize cur.getD 1 undef=u' at g1;cases g0 with
     | d _ _ g0=>
      cases g1 with
      | d _ _ g1=>cases g0;cases g1;rfl
  ·cases hL
 | _=>cases hK
theorem zuK {xT Tx:TypeId} {fs:Array Field} (h:P.underlying Tx=some (.struct fs)) (v:Value) (w:World):(Instr.typeAssert (.iface Tx v) xT Tx true).run P w = .ok (.tuple #[v,.bool true]) w:=by
 unfold Instr.typeAssert;rw [Sem.run_bind,run_underlying h];simp
def zuR:Code->Code
 | .seq _ (.block _ (.seq _ (.cond _ _ (.seq _ (.cond _ t _)))))=>t
 | c=>c
end
end
end Go.Ab
