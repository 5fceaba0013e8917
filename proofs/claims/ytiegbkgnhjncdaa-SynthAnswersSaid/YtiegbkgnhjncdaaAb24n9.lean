import Derived.Test.YtiegbkgnhjncdaaAb24n8
set_option linter.unusedVariables false
set_option linter.unusedSimpArgs false
set_option linter.unusedSectionVars false
namespace Go.Ab
open Enc (enc)
open Go.RowKit (Below)
abbrev Hp:=Nat->Option Ent
abbrev zfI (h:Hp) (id:Nat):Option Ent:=h id
def zDz (mp:List (Nat×Option Nat)) (σ:St) (h:Hp):Prop:=∀ i e',h i=some e'->zpz mp σ i e'
def Hp.nil:Hp:=fun _=>none
def zpl (h:Hp) (H:Hd) (b:Nat):Prop:=∃ id e v,zfI h id=some e/\H id=some v/\blk v=some b
structure HOK (X:Nat->Prop) (h:Hp) (H:Hd) (w:World):Prop where
 ent:∀ id e,zfI h id=some e->∃ v,H id=some v/\EntRel w (Sh X (zfI h) H w) H e v
 own:∀ id e v b,zfI h id=some e->H id=some v->blk v=some b -> ¬ X b
 inj:∀ id id' e e' v v' b,zfI h id=some e->zfI h id'=some e'->H id=some v->H id'=some v'->blk v=some b->blk v'=some b->id=id'
def Fc (P:Program) (f:FuncId) (args:List AV) (h:Hp) (R:AV->Hp->Prop):Prop:=
 ∀ (w:World) (X:Nat->Prop) (H:Hd) (vs:Array Value),(∀ b,X b->b < w.heap.size)->(∀ id,bs id < LIM->H id=none)->HOK X h H w->vs.size=args.length->
  (∀ i,i < args.length->VRel w (Sh X (zfI h) H w) H (args.getD i default) (vs.getD i undef))->
  Calls P f vs w (fun e w'=>∃ v r c a,e = .returned v/\R r c/\
   (w'.os=w.os/\w'.tape=w.tape/\w'.output=w.output/\w.heap.size<=w'.heap.size)/\(∀ b,b < w.heap.size -> ¬ zpl h H b->w'.heap[b]? =w.heap[b]?)/\
   HOK X c a w'/\(∀ b,zpl c a b->w.heap.size<=b\/zpl h H b)/\(∀ id,pinB id=true->a id=H id)/\VRel w' (Sh X (zfI c) a w') a r v)
theorem Fc.mono {P:Program} {f:FuncId} {args:List AV} {h:Hp} {R e:AV->Hp->Prop} (g:Fc P f args h R) (i:∀ r d,R r d->e r d):Fc P f args h e:=
 fun w X H vs j k l m n=>(g w X H vs j k l m n).mono fun _ _ ⟨v,r,d,H',a,b,c⟩=>⟨v,r,d,H',a,i _ _ b,c⟩
def ziC (P:Program) (mp:List (Nat×Option Nat)) (σ:St):List ResultVar->List AV->Prop
 | [],xs=>xs=[]
 | .tmp t::r,x'::xs=>(∃ x,σ.get t=some x/\Cv mp x x')/\ziC P mp σ r xs
 | .cell t ty::r,x'::xs=>((∃ id T x dsc,σ.get t=some (.ptr id 0)/\σ.ent id=some (.box T [x])/\P.underlying ty=some dsc/\dAgg dsc=false/\Cv mp x x')\/
   (∃ id T l size bytes z,σ.get t=some (.ptr id 0)/\σ.ent id=some (.box T (avs (.agg l)))/\TI P ty true size bytes z/\l.length=size/\x' = .d (.agg l))\/
   (∃ id T l size bytes z,σ.get t=some (.ptr id 0)/\σ.ent id=some (.box T l)/\TI P ty true size bytes z/\l.length=size/\Cv mp (.agg l) x'))/\ziC P mp σ r xs
 | _::_,[]=>False
def zAy:List AV->AV
 | [x]=>x
 | xs => .tup xs
def zy7 (P:Program) (fn:Func) (R:AV->Hp->Prop) (σ:St):Prop:=
 ∃ mp xs a,(mpW mp LIM=true/\∀ i o,lk mp i=some (some o)->pinB o=true->zfI a o=none)/\ziC P mp σ fn.results.toList xs/\zDz mp σ a/\R (zAy xs) a
def Ret (P:Program) (fn:Func) (R:AV->Hp->Prop):Exit->St->Prop
 | .normal,σ=>zy7 P fn R σ
 | .ret,σ=>zy7 P fn R σ
 | _,_=>False
def zmz:Nat->List AV->List (Nat×AV)
 | _,[]=>[]
 | k,x::r=>(k,x)::zmz (k+1) r
theorem zqh:∀ (l:List AV) (k j:Nat) (x:AV),look (zmz k l) j=some x->k<=j/\l[j - k]? =some x
 | [],k,j,x,h=>by cases h
 | y::r,k,j,x,h=>by
  simp only [zmz,zaf] at h;by_cases a:k=j
  ·rw [if_pos a] at h;cases h;subst a;simp
  ·rw [if_neg a] at h;obtain ⟨c,b⟩:=zqh r (k+1) j x h;refine ⟨by omega,?_⟩;have:j - k=(j - (k+1))+1:=by omega
   rw [this];simpa using b
def St.start (n:Nat) (args:List AV) (h:Hp):St:=⟨n,0,zmz 0 args,[],h⟩
theorem zto {n nxt:Nat} {sl:List (Nat×AV)} (h:Hp):(⟨n,nxt,sl,[],h⟩:St).ent=zfI h:=rfl
structure Eqv (σ σ':St):Prop where
 n:σ'.n=σ.n
 nxt:σ'.nxt=σ.nxt
 get:∀ k x,σ'.get k=some x->σ.get k=some x
 ent:∀ i e,σ'.ent i=some e->σ.ent i=some e
theorem Eqv.relH {σ σ':St} (h:Eqv σ σ') {F:Fr} {H:Hd} {a:Act} {w:World} (r:RelH F σ H a w):RelH F σ' H a w:=by
 have g:∀ b,Sh F.X σ.ent H w b->Sh F.X σ'.ent H w b/\w.heap[b]? =w.heap[b]? :=fun b d=>⟨⟨d.1,d.2.1,fun id e v c f=>d.2.2 id e v (h.ent id e c) f⟩,rfl⟩
 exact {
  size:=r.size.trans h.n.symm,defs:=r.defs,os:=r.os,tape:=r.tape,output:=r.output,grow:=r.grow,keep:=r.keep,xlt:=r.xlt
  fresh:=by rw [h.nxt];exact r.fresh
  pin:=r.pin
  ent:=fun i e c=>let ⟨v,f,hr⟩:=r.ent i e (h.ent i e c);⟨v,f,hr.mono g (fun _ _ h=>h) (fun _ _=>rfl)⟩
  own:=fun i e v b c=>r.own i e v b (h.ent i e c)
  inj:=fun i j e e' v l b m n=>r.inj i j e e' v l b (h.ent i e m) (h.ent j e' n)
  slot:=fun k x o=>(r.slot k x (h.get k x o)).mono g (fun _ _ h=>h) }
theorem Eqv.rel {σ σ':St} (h:Eqv σ σ') {F:Fr} {a:Act} {w:World} (r:Rel F σ a w):Rel F σ' a w:=let ⟨H,r⟩:=r;⟨H,h.relH r⟩
section
variable {P:Program} {F:Fr} {σ:St} {H:Hd} {a:Act} {w:World} {mp:List (Nat×Option Nat)}
def resF (tmps:Array Value):ResultVar->Sem Value
 | .tmp t=>pure (tmps.getD t undef)
 | .cell c t=>do loadVar t (<- asAddr (tmps.getD c undef))
theorem zyN (fn:Func) (tmps:Array Value):results fn tmps=(do let vs <- fn.results.mapM (resF tmps);pure (if h:vs.size=1 then vs[0] else .tuple vs)):=rfl
theorem zlO {fn:Func} (r:RelH F σ H a w) (m:mpW mp LIM=true) {S':Nat->Prop} (o:∀ b,Sh F.X σ.ent H w b->S' b):∀ (l:List ResultVar) (xs:List AV),ziC P mp σ l xs->
  ∃ vs:List Value,(l.mapM (resF a.tmps)).run P w = .ok vs w/\vs.length=xs.length/\∀ i,i < xs.length->VRel w S' (renH mp H) (xs.getD i default) (vs.getD i undef)
 | [],xs,h=>by
  have:xs=[]:=h;subst this;exact ⟨[],rfl,rfl,by simp⟩
 | .tmp t::r',x'::xs,h=>by
  obtain ⟨⟨x,A,s⟩,v⟩:=h;obtain ⟨vs,n,B,C⟩:=zlO (fn:=fn) r m o r' xs v;refine ⟨a.tmps.getD t undef::vs,?_,by simp [B],fun i k => ?_⟩
  ·rw [List.mapM_cons];simp only [resF,Sem.run_bind,Sem.run_pure,Result.andThen_ok,n]
  ·cases i with
   | zero=>exact s.rel zgv o (r.slot t x A)
   | succ i=>simpa using C i (by simpa using k)
 | .cell t ty::r',x'::xs,h=>by
  obtain ⟨⟨id,T,x,dsc,A,N,O,I,s⟩ | ⟨id,T,dl,size,bytes,z,A,N,O,I,rfl⟩ | ⟨id,T,al,size,bytes,z,A,N,O,I,s⟩,v⟩:=h
  ·obtain ⟨vs,n,B,C⟩:=zlO (fn:=fn) r m o r' xs v;have p:=r.slot t _ A;obtain ⟨u,Q,R⟩:=r.ent id _ N;generalize M:a.tmps.getD t undef=q at p;cases p with
   | ptr _ _ b f=>
    rw [Q] at f;cases f;cases R with
    | box _ _ _ c f hs e=>
     have V:w.cell? ⟨b,0,none⟩=some (c.getD 0 undef):=by
      rw [cell_of_row w b 0 c T (0,0) f];have:0 < c.size:=by rw [hs];simp
      simp [this]
     refine ⟨c.getD 0 undef::vs,?_,by simp [B],fun i k => ?_⟩
     ·rw [List.mapM_cons];have J:(asAddr (.pointer (some ⟨b,0,none⟩))).run P w = .ok ⟨b,0,none⟩ w:=rfl;simp only [resF,Sem.run_bind,Sem.run_pure,Result.andThen_ok,M,J,zjU O I V,n]
     ·cases i with
      | zero=>
       have:=e 0 (by simp);exact s.rel zgv o (by simpa using this)
      | succ i=>simpa using C i (by simpa using k)
  ·obtain ⟨vs,n,B,C⟩:=zlO (fn:=fn) r m o r' xs v;have p:=r.slot t _ A;obtain ⟨u,Q,R⟩:=r.ent id _ N;generalize M:a.tmps.getD t undef=q at p;cases p with
   | ptr _ _ b f=>
    rw [Q] at f;cases f;obtain ⟨c,f,hs,e⟩:=R.box_inv
    ·have L:(avs (.agg dl)).length=size:=by simpa [avs,D.cells] using I
     have s:∀ j,j < size->w.cell? ⟨b,0+j,none⟩=some (c.getD j undef):=fun j U=>by
      rw [Nat.zero_add,cell_of_row w b j c T (0,0) f];have:j < c.size:=by omega
      simp [this]
     have g:=zjV O rfl s;refine ⟨.agg ((Array.range size).map fun j=>c.getD j undef)::vs,?_,by simp [B],fun i k => ?_⟩
     ·rw [List.mapM_cons];have J:(asAddr (.pointer (some ⟨b,0,none⟩))).run P w = .ok ⟨b,0,none⟩ w:=rfl;simp only [resF,Sem.run_bind,Sem.run_pure,Result.andThen_ok,M,J,g,n]
     ·cases i with
      | zero=>
       refine .d _ _ (.agg dl _ (by simp [I]) fun i k => ?_);have E:=e i (by rw [L];omega);have v:(avs (.agg dl)).getD i default = .d (dl.getD i default):=by simp [avs,D.cells,List.getD_eq_getElem?_getD,k]
       rw [v] at E;cases E with
       | d _ _ E=>
        have n:=E.mono (S':=S') (w':=w) (fun b f=>⟨o b f,rfl⟩);have y:i < size:=by omega
        simpa [y] using n
      | succ i=>simpa using C i (by simpa using k)
  ·obtain ⟨vs,n,B,C⟩:=zlO (fn:=fn) r m o r' xs v;have p:=r.slot t _ A;obtain ⟨u,Q,R⟩:=r.ent id _ N;generalize M:a.tmps.getD t undef=q at p;cases p with
   | ptr _ _ b f=>
    rw [Q] at f;cases f;obtain ⟨c,f,hs,e⟩:=R.box_inv
    ·have S:∀ j,j < size->w.cell? ⟨b,0+j,none⟩=some (c.getD j undef):=fun j U=>by
      rw [Nat.zero_add,cell_of_row w b j c T (0,0) f];have:j < c.size:=by omega
      simp [this]
     have g:=zjV O rfl S;refine ⟨.agg ((Array.range size).map fun j=>c.getD j undef)::vs,?_,by simp [B],fun i k => ?_⟩
     ·rw [List.mapM_cons];have J:(asAddr (.pointer (some ⟨b,0,none⟩))).run P w = .ok ⟨b,0,none⟩ w:=rfl;simp only [resF,Sem.run_bind,Sem.run_pure,Result.andThen_ok,M,J,g,n]
     ·cases i with
      | zero=>
       refine s.rel zgv o (VRel.agg al _ (by simp [I]) fun i k => ?_);have E:=e i k;have y:i < size:=by omega
       simpa [y] using E
      | succ i=>simpa using C i (by simpa using k)
 | .tmp t::r',[],h=>h.elim
 | .cell t ty::r',[],h=>h.elim
theorem Fc.of_body {f:FuncId} {args:List AV} {h:Hp} {R:AV->Hp->Prop} {fn:Func} {c:Code} {n:Nat} (Y:P.funcs[f]? =some fn) (J:fn.body=some c) (hn:fn.ntmps=n) (V:args.length<=n)
  (q:∀ F:Fr,AW P F c (St.start n args h) (Ret P fn R)):Fc P f args h R:=by
 intro w X H vs hX B M hvs s
 let F:Fr:={ w:=w,O:=zpl h H,X:=X,H0:=H }
 refine calls_of_wp Y J ?_;have N:(vs++Array.replicate (fn.ntmps - vs.size) undef).size=n:=by simp;omega
 have r0:RelH F (St.start n args h) H { tmps:=vs++Array.replicate (fn.ntmps - vs.size) undef,defers:=[] } w:={
  size:=N,defs:=rfl,os:=rfl,tape:=rfl,output:=rfl,grow:=Nat.le_refl _,keep:=fun _ _ _=>rfl,xlt:=hX
  fresh:=fun id _ d=>B id d
  pin:=fun _ _=>rfl
  ent:=by unfold St.start;rw [zto];exact M.ent
  own:=by unfold St.start;rw [zto];exact fun id e v b z d p=>⟨.inr ⟨id,e,v,z,d,p⟩,M.own id e v b z d p⟩
  inj:=by unfold St.start;rw [zto];exact M.inj
  slot:=fun k x Z=>by
   obtain ⟨_,d⟩:=zqh args 0 k x Z;have hk:k < args.length:=(List.getElem?_eq_some_iff.1 (by simpa using d)).1;have:=s k hk;have p:args.getD k default=x:=by
    rw [List.getD_eq_getElem?_getD];have:args[k]? =some x:=by simpa using d
    rw [this];rfl
   rw [p] at this;have h4:(vs++Array.replicate (fn.ntmps - vs.size) undef).getD k undef=vs.getD k undef:=by
    have:k < vs.size:=by omega
    simp [Array.getElem?_append_left this]
   show VRel w _ H x ((vs++Array.replicate (fn.ntmps - vs.size) undef).getD k undef);unfold St.start;rw [h4,zto];exact this }
 have key:∀ (j:Act) (w':World) (σ':St),zy7 P fn R σ'->Rel F σ' j w'->j.defers=[]/\∃ v,(results fn j.tmps).run P w' = .ok v w'/\∃ W r m g,Ending.returned v = .returned W/\R r m/\
   (w'.os=w.os/\w'.tape=w.tape/\w'.output=w.output/\w.heap.size<=w'.heap.size)/\(∀ b,b < w.heap.size -> ¬ zpl h H b->w'.heap[b]? =w.heap[b]?)/\
   HOK X m g w'/\(∀ b,zpl m g b->w.heap.size<=b\/zpl h H b)/\(∀ id,pinB id=true->g id=H id)/\VRel w' (Sh X (zfI m) g w') g r W:=by
  intro j w' σ' ⟨mp,xs,m,⟨hok,hoff⟩,hret,hsub,hR⟩ ⟨g,r⟩;have hs:SubF mp σ' ⟨σ'.n,LIM,[],[],m⟩:=⟨rfl,hok,fun k x' h=>(by cases h),fun i e' A=>hsub i e' A,fun i o A hp=>hoff i o A hp⟩;have I:=hs.relH r;have C:=fun b J=>hs.sh r b J
  rw [zto] at C;have D:=I.ent;have t:=I.own;have E:=I.inj;rw [zto] at D t E;obtain ⟨T,hm,U,hv⟩:=zlO (fn:=fn) r hok C fn.results.toList xs hret;have Q:(fn.results.mapM (resF j.tmps)).run P w' = .ok T.toArray w':=by
   rw [Array.mapM_eq_mapM_toList];have:(List.toArray <$> fn.results.toList.mapM (resF j.tmps)).run P w'=((fn.results.toList.mapM (resF j.tmps)).run P w').andThen fun l L => .ok l.toArray L:=by
    rw [map_eq_pure_bind];simp only [Sem.run_bind,Sem.run_pure]
   rw [this,hm];rfl
  refine ⟨r.defs,_,by rw [zyN];simp only [Sem.run_bind,Q,Result.andThen_ok,Sem.run_pure];rfl,_,zAy xs,m,renH mp g,rfl,hR,⟨r.os,r.tape,r.output,r.grow⟩,r.keep,⟨D,fun id e v b z d p=>(t id e v b z d p).2,E⟩,
   fun b ⟨id,e,v,z,d,p⟩=>(t id e v b z d p).1,I.pin,?_⟩
  have a:∀ i,i < xs.length->VRel w' (Sh X (zfI m) (renH mp g) w') (renH mp g) (xs.getD i default) (T.getD i undef):=hv
  match xs,T,U,a with
  | [],[],_,a=>exact .tup [] #[] rfl (by simp)
  | [x],[u],_,a=>exact (by simpa using a 0 (by simp):VRel w' (Sh X (zfI m) (renH mp g) w') (renH mp g) x u)
  | x::y::r',u::v::r'',U,a=>
   have S : ¬ ((u::v::r'').toArray.size=1):=by simp
   rw [dif_neg S];refine .tup _ _ (by simpa using U) fun i A => ?_
   have:=a i A;simpa [List.getD_eq_getElem?_getD] using this
 refine wp_mono (q F _ w ⟨H,r0⟩) ?_;rintro e j w' ⟨σ',hq,hr⟩;cases e with
 | normal=>exact key j w' σ' hq hr
 | ret=>exact key j w' σ' hq hr
 | _=>exact hq.elim
def cmOK (cm:List (Nat×Nat)):Bool:=(cm.all fun p=>Nat.ble LIM p.1 && Nat.blt p.1 RB && Nat.blt p.2 RB) && zbN (cm.map (·.1)) && zbN (cm.map (·.2))
def toMp (cm:List (Nat×Nat)):List (Nat×Option Nat):=cm.map fun p=>(p.1,some p.2)
def lkc (cm:List (Nat×Nat)) (i:Nat):Option Nat:=match lk (toMp cm) i with
 | some (some o)=>some o
 | _=>none
def zoC (cm:List (Nat×Nat)) (σ:St) (h:Hp):Prop:=∀ i e',h i=some e'->∃ o e,lkc cm i=some o/\σ.ent o=some e/\renE false (toMp cm) e'=some e
def zxt (cm:List (Nat×Nat)) (nxt a:Nat) (mp:List (Nat×Option Nat)):Bool:=
 (zbN (mp.filterMap (·.2)) && (mp.filterMap (·.2)).all fun o=>Nat.blt o RB) && Nat.ble nxt a && Nat.ble a LIM && mp.all fun p=>match p.2 with
  | none=>false
  | some j=>(Nat.ble nxt p.1 && Nat.blt p.1 a) || (Nat.ble LIM j && (match look cm j with | some o=>Nat.beq o p.1 && (Nat.blt p.1 nxt || Nat.ble LIM p.1) | none=>false))
def zrd (mp:List (Nat×Option Nat)) (c:Hp) (b:Hp):Prop:=∀ i a,b i=some a->∃ j e,lk mp i=some (some j)/\c j=some e/\renE false mp a=some e
def St.back (σ:St) (cm:List (Nat×Nat)) (a:Nat) (b:Hp):St:=
 {σ with nxt:=a,heap:=[],rows:=fun k=>match b k with
  | some e=>some e
  | none=>if (cm.any fun p=>Nat.beq p.2 (bs k))=true then none else σ.ent k }
theorem zah {β:Type}:∀ (l r:List (Nat×β)) (k:Nat),look (l++r) k=(look l k).or (look r k)
 | [],r,k=>rfl
 | (k',v)::l,r,k=>by
  rw [List.cons_append,zaf,zaf,zah l r k];by_cases h:k'=k
  ·rw [if_pos h,if_pos h];rfl
  ·rw [if_neg h,if_neg h]
theorem zet:∀ {cm:List (Nat×Nat)} {i:Nat},look (toMp cm) i=(look cm i).map some
 | [],i=>rfl
 | (k,o)::r,i=>by
  show look ((k,some o)::toMp r) i=_;rw [zaf,zaf,zet];by_cases h:k=i
  ·rw [if_pos h,if_pos h];rfl
  ·rw [if_neg h,if_neg h]
theorem zv9 {cm:List (Nat×Nat)}:(toMp cm).filterMap (·.2)=cm.map (·.2):=by
 unfold toMp;rw [List.filterMap_map];induction cm with
 | nil=>rfl
 | cons p r a=>simp at a ⊢;exact a
structure CmOK (cm:List (Nat×Nat)):Prop where
 key:∀ i o,look cm i=some o->LIM<=i/\i < RB/\o < RB
 nodup:zbN ((toMp cm).filterMap (·.2))=true
 vals:(((toMp cm).filterMap (·.2)).all fun o=>Nat.blt o RB)=true
theorem zhu {cm:List (Nat×Nat)} (h:cmOK cm=true):CmOK cm:=by
 simp only [cmOK,Bool.and_eq_true] at h;obtain ⟨⟨a,_⟩,h3⟩:=h;refine ⟨fun i o b => ?_,by rw [zv9];exact h3,?_⟩
 ·have:=List.all_eq_true.1 a (i,o) (zay b);simp only [Bool.and_eq_true] at this;exact ⟨by simpa using this.1.1,by simpa using this.1.2,by simpa using this.2⟩
 ·rw [zv9];refine List.all_eq_true.2 fun o c => ?_
  obtain ⟨p,d,rfl⟩:=List.mem_map.1 c;have:=List.all_eq_true.1 a p d;simp only [Bool.and_eq_true] at this;exact this.2
theorem zAd {cm:List (Nat×Nat)} {i o:Nat} (h:lkc cm i=some o):lk (toMp cm) i=some (some o):=by
 unfold lkc at h;split at h
 ·rename_i q a;cases h;exact a
 ·cases h
theorem zxS {cm:List (Nat×Nat)} {i o:Nat} (h:lk (toMp cm) i=some (some o)):lkc cm i=some o:=by unfold lkc;rw [h]
theorem zCp {cm:List (Nat×Nat)} {i o:Nat} (h:look cm i=some o):lkc cm i=some o:=zxS (zoF (by rw [zet,h];rfl))
theorem zDg {cm:List (Nat×Nat)} (h:CmOK cm) {i j o:Nat} (a:lkc cm i=some o) (b:lkc cm j=some o):i=j:=zAb h.nodup h.vals (zAd a) (zAd b)
theorem zsg {cm:List (Nat×Nat)} (f:CmOK cm) {i o:Nat} (h:lkc cm i=some o):LIM<=bs i/\∃ o',look cm (bs i)=some o'/\o' < RB/\((i < RB/\o=o')\/(RB<=i/\o=rid o' (i / RB - 1))):=by
 rcases zhe (zAd h) with h1 | ⟨h1,_,o',h2,h3⟩
 ·rw [zet] at h1;cases a:look cm i with
  | none=>rw [a] at h1;cases h1
  | some q=>
   rw [a] at h1;cases h1;obtain ⟨b,c,d⟩:=f.key i o a;rw [zzg c];exact ⟨b,o,a,d,.inl ⟨c,rfl⟩⟩
 ·rw [zet] at h2;cases a:look cm (i % RB) with
  | none=>rw [a] at h2;cases h2
  | some q=>
   rw [a] at h2;cases h2;cases h3;obtain ⟨b,c,d⟩:=f.key _ o' a;have e:bs i=i % RB:=by unfold bs;rw [if_pos h1]
   rw [e];exact ⟨b,o',a,d,.inr ⟨h1,rfl⟩⟩
theorem zlL {cm:List (Nat×Nat)} {σ:St} {l:Hp} {i:Nat} {e':Ent} (h:zoC cm σ l) (a:zfI l i=some e'):∃ o e,lkc cm i=some o/\σ.ent o=some e/\renE false (toMp cm) e'=some e:=h i e' a
theorem zu5 {mp:List (Nat×Option Nat)} {b:Hp} {l:Hp} {i:Nat} {a:Ent} (h:zrd mp b l) (c:zfI l i=some a):∃ j e,lk mp i=some (some j)/\zfI b j=some e/\renE false mp a=some e:=h i a c
def cmH (cm:List (Nat×Nat)) (H:Hd):Hd:=fun i=>match lkc cm i with
 | some o=>H o
 | none=>none
theorem zA3 {cm:List (Nat×Nat)} {a:Hp} {b id:Nat} {e:Ent} (j:CmOK cm) (h:(σ.back cm b a).ent id=some e):zfI a id=some e\/(a id=none/\(∀ i,lkc cm i≠some id)/\σ.ent id=some e):=by
 have h:(match a id with
  | some e=>some e
  | none=>if (cm.any fun p=>Nat.beq p.2 (bs id))=true then none else σ.ent id)=some e:=h
 split at h
 ·rename_i e' c;left;show a id=some e;rw [c,h]
 ·rename_i c;right;split at h
  ·cases h
  ·rename_i d;refine ⟨c,fun i k => ?_,h⟩;obtain ⟨_,o',f,g,⟨l,rfl⟩ | ⟨l,rfl⟩⟩:=zsg j k
   ·refine d (List.any_eq_true.2 ⟨(bs i,id),zay f,?_⟩);rw [zzg g];exact Nat.beq_refl _
   ·refine d (List.any_eq_true.2 ⟨(bs i,o'),zay f,?_⟩);rw [zrC g];exact Nat.beq_refl _
end
end Go.Ab
