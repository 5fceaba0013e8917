import Derived.Test.YtajabcfngklacaaAb24n8
set_option linter.unusedVariables false
set_option linter.unusedSimpArgs false
set_option linter.unusedSectionVars false
namespace Go.Ab
open Enc (enc)
open Go.RowKit (Below)
abbrev Hp:=Nat->Option Ent
abbrev zgK (h:Hp) (id:Nat):Option Ent:=h id
def zD7 (mp:List (Nat×Option Nat)) (σ:St) (h:Hp):Prop:=∀ i e',h i=some e'->zrt mp σ i e'
def Hp.nil:Hp:=fun _=>none
def zml (h:Hp) (H:Hd) (b:Nat):Prop:=∃ id e v,zgK h id=some e/\H id=some v/\blk v=some b
structure HOK (X:Nat->Prop) (h:Hp) (H:Hd) (w:World):Prop where
 ent:∀ id e,zgK h id=some e->∃ v,H id=some v/\EntRel w (Sh X (zgK h) H w) H e v
 own:∀ id e v b,zgK h id=some e->H id=some v->blk v=some b -> ¬ X b
 inj:∀ id id' e e' v v' b,zgK h id=some e->zgK h id'=some e'->H id=some v->H id'=some v'->blk v=some b->blk v'=some b->id=id'
def Fc (P:Program) (f:FuncId) (args:List AV) (h:Hp) (R:AV->Hp->Prop):Prop:=
 ∀ (w:World) (X:Nat->Prop) (H:Hd) (vs:Array Value),(∀ b,X b->b < w.heap.size)->(∀ id,bs id < LIM->H id=none)->HOK X h H w->vs.size=args.length->
  (∀ i,i < args.length->VRel w (Sh X (zgK h) H w) H (args.getD i default) (vs.getD i undef))->
  Calls P f vs w (fun e w'=>∃ v r h' H',e = .returned v/\R r h'/\
   (w'.os=w.os/\w'.tape=w.tape/\w'.output=w.output/\w.heap.size<=w'.heap.size)/\(∀ b,b < w.heap.size -> ¬ zml h H b->w'.heap[b]? =w.heap[b]?)/\
   HOK X h' H' w'/\(∀ b,zml h' H' b->w.heap.size<=b\/zml h H b)/\(∀ id,pinB id=true->H' id=H id)/\VRel w' (Sh X (zgK h') H' w') H' r v)
theorem Fc.mono {P:Program} {f:FuncId} {args:List AV} {h:Hp} {R d:AV->Hp->Prop} (e:Fc P f args h R) (g:∀ r h',R r h'->d r h'):Fc P f args h d:=
 fun w X H vs i j k l m=>(e w X H vs i j k l m).mono fun _ _ ⟨v,r,h',H',a,b,c⟩=>⟨v,r,h',H',a,g _ _ b,c⟩
def zlS (P:Program) (mp:List (Nat×Option Nat)) (σ:St):List ResultVar->List AV->Prop
 | [],xs=>xs=[]
 | .tmp t::r,x'::xs=>(∃ x,σ.get t=some x/\Cv mp x x')/\zlS P mp σ r xs
 | .cell t ty::r,x'::xs=>((∃ id T x dsc,σ.get t=some (.ptr id 0)/\σ.ent id=some (.box T [x])/\P.underlying ty=some dsc/\dAgg dsc=false/\Cv mp x x')\/
   (∃ id T l size bytes z,σ.get t=some (.ptr id 0)/\σ.ent id=some (.box T (avs (.agg l)))/\TI P ty true size bytes z/\l.length=size/\x' = .d (.agg l))\/
   (∃ id T l size bytes z,σ.get t=some (.ptr id 0)/\σ.ent id=some (.box T l)/\TI P ty true size bytes z/\l.length=size/\Cv mp (.agg l) x'))/\zlS P mp σ r xs
 | _::_,[]=>False
def zzp:List AV->AV
 | [x]=>x
 | xs => .tup xs
def zzB (P:Program) (fn:Func) (R:AV->Hp->Prop) (σ:St):Prop:=
 ∃ mp xs h',(mpW mp LIM=true/\∀ i o,lk mp i=some (some o)->pinB o=true->zgK h' o=none)/\zlS P mp σ fn.results.toList xs/\zD7 mp σ h'/\R (zzp xs) h'
def Ret (P:Program) (fn:Func) (R:AV->Hp->Prop):Exit->St->Prop
 | .normal,σ=>zzB P fn R σ
 | .ret,σ=>zzB P fn R σ
 | _,_=>False
def zo0:Nat->List AV->List (Nat×AV)
 | _,[]=>[]
 | k,x::r=>(k,x)::zo0 (k+1) r
theorem zlD:∀ (l:List AV) (k j:Nat) (x:AV),look (zo0 k l) j=some x->k<=j/\l[j - k]? =some x
 | [],k,j,x,h=>by cases h
 | y::r,k,j,x,h=>by
  simp only [zo0,zan] at h;by_cases a:k=j
  ·rw [if_pos a] at h;cases h;subst a;simp
  ·rw [if_neg a] at h;obtain ⟨c,b⟩:=zlD r (k+1) j x h;refine ⟨by omega,?_⟩;have:j - k=(j - (k+1))+1:=by omega
   rw [this];simpa using b
def St.start (n:Nat) (args:List AV) (h:Hp):St:=⟨n,0,zo0 0 args,[],h⟩
theorem zkO {n nxt:Nat} {sl:List (Nat×AV)} (h:Hp):(⟨n,nxt,sl,[],h⟩:St).ent=zgK h:=rfl
structure Eqv (σ σ':St):Prop where
 n:σ'.n=σ.n
 nxt:σ'.nxt=σ.nxt
 get:∀ k x,σ'.get k=some x->σ.get k=some x
 ent:∀ i e,σ'.ent i=some e->σ.ent i=some e
theorem Eqv.relH {σ σ':St} (h:Eqv σ σ') {F:Fr} {H:Hd} {a:Act} {w:World} (r:RelH F σ H a w):RelH F σ' H a w:=by
 have g:∀ b,Sh F.X σ.ent H w b->Sh F.X σ'.ent H w b/\w.heap[b]? =w.heap[b]? :=fun b d=>⟨⟨d.1,d.2.1,fun id e v c f=>d.2.2 id e v (h.ent id e c) f⟩,rfl⟩
 exact {
  size:=r.size.trans h.n.symm,defs:=r.defs,os:=r.os,tape:=r.tape,output:=r.output,grow:=r.grow,keep:=r.keep,xlt:=r.xlt
  fresh:=by rw [h.nxt];exact r.fresh
  pin:=r.pin
  ent:=fun i e c=>let ⟨v,f,hr⟩:=r.ent i e (h.ent i e c);⟨v,f,hr.mono g (fun _ _ h=>h) (fun _ _=>rfl)⟩
  own:=fun i e v b c=>r.own i e v b (h.ent i e c)
  inj:=fun i j e e' v l b m n=>r.inj i j e e' v l b (h.ent i e m) (h.ent j e' n)
  slot:=fun k x o=>(r.slot k x (h.get k x o)).mono g (fun _ _ h=>h) }
theorem Eqv.rel {σ σ':St} (h:Eqv σ σ') {F:Fr} {a:Act} {w:World} (r:Rel F σ a w):Rel F σ' a w:=let ⟨H,r⟩:=r;⟨H,h.relH r⟩
section
variable {P:Program} {F:Fr} {σ:St} {H:Hd} {a:Act} {w:World} {mp:List (Nat×Option Nat)}
def resF (tmps:Array Value):ResultVar->Sem Value
 | .tmp t=>pure (tmps.getD t undef)
 | .cell c t=>do loadVar t (<- asAddr (tmps.getD c undef))
theorem zvz (fn:Func) (tmps:Array Value):results fn tmps=(do let vs <- fn.results.mapM (resF tmps);pure (if h:vs.size=1 then vs[0] else .tuple vs)):=rfl
theorem zmv {fn:Func} (r:RelH F σ H a w) (m:mpW mp LIM=true) {S':Nat->Prop} (o:∀ b,Sh F.X σ.ent H w b->S' b):∀ (l:List ResultVar) (xs:List AV),zlS P mp σ l xs->
  ∃ vs:List Value,(l.mapM (resF a.tmps)).run P w = .ok vs w/\vs.length=xs.length/\∀ i,i < xs.length->VRel w S' (renH mp H) (xs.getD i default) (vs.getD i undef)
 | [],xs,h=>by
  have:xs=[]:=h;subst this;exact ⟨[],rfl,rfl,by simp⟩
 | .tmp t::r',x'::xs,h=>by
  obtain ⟨⟨x,A,s⟩,v⟩:=h;obtain ⟨vs,n,B,C⟩:=zmv (fn:=fn) r m o r' xs v;refine ⟨a.tmps.getD t undef::vs,?_,by simp [B],fun i k => ?_⟩
  ·rw [List.mapM_cons];simp only [resF,Sem.run_bind,Sem.run_pure,Result.andThen_ok,n]
  ·cases i with
   | zero=>exact s.rel zju o (r.slot t x A)
   | succ i=>simpa using C i (by simpa using k)
 | .cell t ty::r',x'::xs,h=>by
  obtain ⟨⟨id,T,x,dsc,A,N,O,I,s⟩ | ⟨id,T,dl,size,bytes,z,A,N,O,I,rfl⟩ | ⟨id,T,al,size,bytes,z,A,N,O,I,s⟩,v⟩:=h
  ·obtain ⟨vs,n,B,C⟩:=zmv (fn:=fn) r m o r' xs v;have p:=r.slot t _ A;obtain ⟨u,Q,R⟩:=r.ent id _ N;generalize M:a.tmps.getD t undef=q at p;cases p with
   | ptr _ _ b f=>
    rw [Q] at f;cases f;cases R with
    | box _ _ _ c f hs e=>
     have V:w.cell? ⟨b,0,none⟩=some (c.getD 0 undef):=by
      rw [cell_of_row w b 0 c T (0,0) f];have:0 < c.size:=by rw [hs];simp
      simp [this]
     refine ⟨c.getD 0 undef::vs,?_,by simp [B],fun i k => ?_⟩
     ·rw [List.mapM_cons];have J:(asAddr (.pointer (some ⟨b,0,none⟩))).run P w = .ok ⟨b,0,none⟩ w:=rfl;simp only [resF,Sem.run_bind,Sem.run_pure,Result.andThen_ok,M,J,zoJ O I V,n]
     ·cases i with
      | zero=>
       have:=e 0 (by simp);exact s.rel zju o (by simpa using this)
      | succ i=>simpa using C i (by simpa using k)
  ·obtain ⟨vs,n,B,C⟩:=zmv (fn:=fn) r m o r' xs v;have p:=r.slot t _ A;obtain ⟨u,Q,R⟩:=r.ent id _ N;generalize M:a.tmps.getD t undef=q at p;cases p with
   | ptr _ _ b f=>
    rw [Q] at f;cases f;obtain ⟨c,f,hs,e⟩:=R.box_inv
    ·have L:(avs (.agg dl)).length=size:=by simpa [avs,D.cells] using I
     have s:∀ j,j < size->w.cell? ⟨b,0+j,none⟩=some (c.getD j undef):=fun j U=>by
      rw [Nat.zero_add,cell_of_row w b j c T (0,0) f];have:j < c.size:=by omega
      simp [this]
     have g:=zmS O rfl s;refine ⟨.agg ((Array.range size).map fun j=>c.getD j undef)::vs,?_,by simp [B],fun i k => ?_⟩
     ·rw [List.mapM_cons];have J:(asAddr (.pointer (some ⟨b,0,none⟩))).run P w = .ok ⟨b,0,none⟩ w:=rfl;simp only [resF,Sem.run_bind,Sem.run_pure,Result.andThen_ok,M,J,g,n]
     ·cases i with
      | zero=>
       refine .d _ _ (.agg dl _ (by simp [I]) fun i k => ?_);have E:=e i (by rw [L];omega);have v:(avs (.agg dl)).getD i default = .d (dl.getD i default):=by simp [avs,D.cells,List.getD_eq_getElem?_getD,k]
       rw [v] at E;cases E with
       | d _ _ E=>
        have n:=E.mono (S':=S') (w':=w) (fun b f=>⟨o b f,rfl⟩);have y:i < size:=by omega
        simpa [y] using n
      | succ i=>simpa using C i (by simpa using k)
  ·obtain ⟨vs,n,B,C⟩:=zmv (fn:=fn) r m o r' xs v;have p:=r.slot t _ A;obtain ⟨u,Q,R⟩:=r.ent id _ N;generalize M:a.tmps.getD t undef=q at p;cases p with
   | ptr _ _ b f=>
    rw [Q] at f;cases f;obtain ⟨c,f,hs,e⟩:=R.box_inv
    ·have S:∀ j,j < size->w.cell? ⟨b,0+j,none⟩=some (c.getD j undef):=fun j U=>by
      rw [Nat.zero_add,cell_of_row w b j c T (0,0) f];have:j < c.size:=by omega
      simp [this]
     have g:=zmS O rfl S;refine ⟨.agg ((Array.range size).map fun j=>c.getD j undef)::vs,?_,by simp [B],fun i k => ?_⟩
     ·rw [List.mapM_cons];have J:(asAddr (.pointer (some ⟨b,0,none⟩))).run P w = .ok ⟨b,0,none⟩ w:=rfl;simp only [resF,Sem.run_bind,Sem.run_pure,Result.andThen_ok,M,J,g,n]
     ·cases i with
      | zero=>
       refine s.rel zju o (VRel.agg al _ (by simp [I]) fun i k => ?_);have E:=e i k;have y:i < size:=by omega
       simpa [y] using E
      | succ i=>simpa using C i (by simpa using k)
 | .tmp t::r',[],h=>h.elim
 | .cell t ty::r',[],h=>h.elim
theorem Fc.of_body {f:FuncId} {args:List AV} {h:Hp} {R:AV->Hp->Prop} {fn:Func} {c:Code} {n:Nat} (W:P.funcs[f]? =some fn) (I:fn.body=some c) (hn:fn.ntmps=n) (U:args.length<=n)
  (m:∀ F:Fr,AW P F c (St.start n args h) (Ret P fn R)):Fc P f args h R:=by
 intro w X H vs hX z L hvs p
 let F:Fr:={ w:=w,O:=zml h H,X:=X,H0:=H }
 refine calls_of_wp W I ?_;have M:(vs++Array.replicate (fn.ntmps - vs.size) undef).size=n:=by simp;omega
 have r0:RelH F (St.start n args h) H { tmps:=vs++Array.replicate (fn.ntmps - vs.size) undef,defers:=[] } w:={
  size:=M,defs:=rfl,os:=rfl,tape:=rfl,output:=rfl,grow:=Nat.le_refl _,keep:=fun _ _ _=>rfl,xlt:=hX
  fresh:=fun id _ d=>z id d
  pin:=fun _ _=>rfl
  ent:=by unfold St.start;rw [zkO];exact L.ent
  own:=by unfold St.start;rw [zkO];exact fun id e v b s d j=>⟨.inr ⟨id,e,v,s,d,j⟩,L.own id e v b s d j⟩
  inj:=by unfold St.start;rw [zkO];exact L.inj
  slot:=fun k x Y=>by
   obtain ⟨_,d⟩:=zlD args 0 k x Y;have hk:k < args.length:=(List.getElem?_eq_some_iff.1 (by simpa using d)).1;have:=p k hk;have j:args.getD k default=x:=by
    rw [List.getD_eq_getElem?_getD];have:args[k]? =some x:=by simpa using d
    rw [this];rfl
   rw [j] at this;have h4:(vs++Array.replicate (fn.ntmps - vs.size) undef).getD k undef=vs.getD k undef:=by
    have:k < vs.size:=by omega
    simp [Array.getElem?_append_left this]
   show VRel w _ H x ((vs++Array.replicate (fn.ntmps - vs.size) undef).getD k undef);unfold St.start;rw [h4,zkO];exact this }
 have A:∀ (g:Act) (w':World) (σ':St),zzB P fn R σ'->Rel F σ' g w'->g.defers=[]/\∃ v,(results fn g.tmps).run P w' = .ok v w'/\∃ V r h' H',Ending.returned v = .returned V/\R r h'/\
   (w'.os=w.os/\w'.tape=w.tape/\w'.output=w.output/\w.heap.size<=w'.heap.size)/\(∀ b,b < w.heap.size -> ¬ zml h H b->w'.heap[b]? =w.heap[b]?)/\
   HOK X h' H' w'/\(∀ b,zml h' H' b->w.heap.size<=b\/zml h H b)/\(∀ id,pinB id=true->H' id=H id)/\VRel w' (Sh X (zgK h') H' w') H' r V:=by
  intro g w' σ' ⟨mp,xs,h',⟨hok,hoff⟩,hret,hsub,hR⟩ ⟨H',r⟩;have hs:SubF mp σ' ⟨σ'.n,LIM,[],[],h'⟩:=⟨rfl,hok,fun k x' h=>(by cases h),fun i e' t=>hsub i e' t,fun i o t Z=>hoff i o t Z⟩;have E:=hs.relH r;have B:=fun b I=>hs.sh r b I
  rw [zkO] at B;have C:=E.ent;have q:=E.own;have D:=E.inj;rw [zkO] at C q D;obtain ⟨S,hm,T,hv⟩:=zmv (fn:=fn) r hok B fn.results.toList xs hret;have N:(fn.results.mapM (resF g.tmps)).run P w' = .ok S.toArray w':=by
   rw [Array.mapM_eq_mapM_toList];have:(List.toArray <$> fn.results.toList.mapM (resF g.tmps)).run P w'=((fn.results.toList.mapM (resF g.tmps)).run P w').andThen fun l J => .ok l.toArray J:=by
    rw [map_eq_pure_bind];simp only [Sem.run_bind,Sem.run_pure]
   rw [this,hm];rfl
  refine ⟨r.defs,_,by rw [zvz];simp only [Sem.run_bind,N,Result.andThen_ok,Sem.run_pure];rfl,_,zzp xs,h',renH mp H',rfl,hR,⟨r.os,r.tape,r.output,r.grow⟩,r.keep,⟨C,fun id e v b s d j=>(q id e v b s d j).2,D⟩,
   fun b ⟨id,e,v,s,d,j⟩=>(q id e v b s d j).1,E.pin,?_⟩
  have a:∀ i,i < xs.length->VRel w' (Sh X (zgK h') (renH mp H') w') (renH mp H') (xs.getD i default) (S.getD i undef):=hv
  match xs,S,T,a with
  | [],[],_,a=>exact .tup [] #[] rfl (by simp)
  | [x],[u],_,a=>exact (by simpa using a 0 (by simp):VRel w' (Sh X (zgK h') (renH mp H') w') (renH mp H') x u)
  | x::y::r',u::v::r'',T,a=>
   have Q : ¬ ((u::v::r'').toArray.size=1):=by simp
   rw [dif_neg Q];refine .tup _ _ (by simpa using T) fun i t => ?_
   have:=a i t;simpa [List.getD_eq_getElem?_getD] using this
 refine wp_mono (m F _ w ⟨H,r0⟩) ?_;rintro e g w' ⟨σ',hq,hr⟩;cases e with
 | normal=>exact A g w' σ' hq hr
 | ret=>exact A g w' σ' hq hr
 | _=>exact hq.elim
def cmOK (cm:List (Nat×Nat)):Bool:=(cm.all fun p=>Nat.ble LIM p.1 && Nat.blt p.1 RB && Nat.blt p.2 RB) && zcV (cm.map (·.1)) && zcV (cm.map (·.2))
def toMp (cm:List (Nat×Nat)):List (Nat×Option Nat):=cm.map fun p=>(p.1,some p.2)
def lkc (cm:List (Nat×Nat)) (i:Nat):Option Nat:=match lk (toMp cm) i with
 | some (some o)=>some o
 | _=>none
def zpa (cm:List (Nat×Nat)) (σ:St) (h:Hp):Prop:=∀ i e',h i=some e'->∃ o e,lkc cm i=some o/\σ.ent o=some e/\renE false (toMp cm) e'=some e
def zu9 (cm:List (Nat×Nat)) (nxt nxt':Nat) (mp:List (Nat×Option Nat)):Bool:=
 (zcV (mp.filterMap (·.2)) && (mp.filterMap (·.2)).all fun o=>Nat.blt o RB) && Nat.ble nxt nxt' && Nat.ble nxt' LIM && mp.all fun p=>match p.2 with
  | none=>false
  | some j=>(Nat.ble nxt p.1 && Nat.blt p.1 nxt') || (Nat.ble LIM j && (match look cm j with | some o=>Nat.beq o p.1 && (Nat.blt p.1 nxt || Nat.ble LIM p.1) | none=>false))
def zs9 (mp:List (Nat×Option Nat)) (h':Hp) (h'':Hp):Prop:=∀ i a,h'' i=some a->∃ j e,lk mp i=some (some j)/\h' j=some e/\renE false mp a=some e
def St.back (σ:St) (cm:List (Nat×Nat)) (nxt':Nat) (h'':Hp):St:=
 {σ with nxt:=nxt',heap:=[],rows:=fun k=>match h'' k with
  | some e=>some e
  | none=>if (cm.any fun p=>Nat.beq p.2 (bs k))=true then none else σ.ent k }
theorem zao {β:Type}:∀ (l r:List (Nat×β)) (k:Nat),look (l++r) k=(look l k).or (look r k)
 | [],r,k=>rfl
 | (k',v)::l,r,k=>by
  rw [List.cons_append,zan,zan,zao l r k];by_cases h:k'=k
  ·rw [if_pos h,if_pos h];rfl
  ·rw [if_neg h,if_neg h]
theorem zhr:∀ {cm:List (Nat×Nat)} {i:Nat},look (toMp cm) i=(look cm i).map some
 | [],i=>rfl
 | (k,o)::r,i=>by
  show look ((k,some o)::toMp r) i=_;rw [zan,zan,zhr];by_cases h:k=i
  ·rw [if_pos h,if_pos h];rfl
  ·rw [if_neg h,if_neg h]
theorem zxB {cm:List (Nat×Nat)}:(toMp cm).filterMap (·.2)=cm.map (·.2):=by
 unfold toMp;rw [List.filterMap_map];induction cm with
 | nil=>rfl
 | cons p r a=>simp at a ⊢;exact a
structure CmOK (cm:List (Nat×Nat)):Prop where
 key:∀ i o,look cm i=some o->LIM<=i/\i < RB/\o < RB
 nodup:zcV ((toMp cm).filterMap (·.2))=true
 vals:(((toMp cm).filterMap (·.2)).all fun o=>Nat.blt o RB)=true
theorem zfY {cm:List (Nat×Nat)} (h:cmOK cm=true):CmOK cm:=by
 simp only [cmOK,Bool.and_eq_true] at h;obtain ⟨⟨a,_⟩,h3⟩:=h;refine ⟨fun i o b => ?_,by rw [zxB];exact h3,?_⟩
 ·have:=List.all_eq_true.1 a (i,o) (zaN b);simp only [Bool.and_eq_true] at this;exact ⟨by simpa using this.1.1,by simpa using this.1.2,by simpa using this.2⟩
 ·rw [zxB];refine List.all_eq_true.2 fun o c => ?_
  obtain ⟨p,d,rfl⟩:=List.mem_map.1 c;have:=List.all_eq_true.1 a p d;simp only [Bool.and_eq_true] at this;exact this.2
theorem zBj {cm:List (Nat×Nat)} {i o:Nat} (h:lkc cm i=some o):lk (toMp cm) i=some (some o):=by
 unfold lkc at h;split at h
 ·rename_i q a;cases h;exact a
 ·cases h
theorem zza {cm:List (Nat×Nat)} {i o:Nat} (h:lk (toMp cm) i=some (some o)):lkc cm i=some o:=by unfold lkc;rw [h]
theorem zC2 {cm:List (Nat×Nat)} {i o:Nat} (h:look cm i=some o):lkc cm i=some o:=zza (zqL (by rw [zhr,h];rfl))
theorem zDN {cm:List (Nat×Nat)} (h:CmOK cm) {i j o:Nat} (a:lkc cm i=some o) (b:lkc cm j=some o):i=j:=zBh h.nodup h.vals (zBj a) (zBj b)
theorem zor {cm:List (Nat×Nat)} (g:CmOK cm) {i o:Nat} (h:lkc cm i=some o):LIM<=bs i/\∃ b,look cm (bs i)=some b/\b < RB/\((i < RB/\o=b)\/(RB<=i/\o=rid b (i / RB - 1))):=by
 rcases zkp (zBj h) with h1 | ⟨h1,_,b,h2,h3⟩
 ·rw [zhr] at h1;cases a:look cm i with
  | none=>rw [a] at h1;cases h1
  | some q=>
   rw [a] at h1;cases h1;obtain ⟨c,d,f⟩:=g.key i o a;rw [zuP d];exact ⟨c,o,a,f,.inl ⟨d,rfl⟩⟩
 ·rw [zhr] at h2;cases a:look cm (i % RB) with
  | none=>rw [a] at h2;cases h2
  | some q=>
   rw [a] at h2;cases h2;cases h3;obtain ⟨c,d,f⟩:=g.key _ b a;have e:bs i=i % RB:=by unfold bs;rw [if_pos h1]
   rw [e];exact ⟨c,b,a,f,.inr ⟨h1,rfl⟩⟩
theorem zom {cm:List (Nat×Nat)} {σ:St} {l:Hp} {i:Nat} {e':Ent} (h:zpa cm σ l) (a:zgK l i=some e'):∃ o e,lkc cm i=some o/\σ.ent o=some e/\renE false (toMp cm) e'=some e:=h i e' a
theorem zwM {mp:List (Nat×Option Nat)} {h':Hp} {l:Hp} {i:Nat} {a:Ent} (h:zs9 mp h' l) (b:zgK l i=some a):∃ j e,lk mp i=some (some j)/\zgK h' j=some e/\renE false mp a=some e:=h i a b
def cmH (cm:List (Nat×Nat)) (H:Hd):Hd:=fun i=>match lkc cm i with
 | some o=>H o
 | none=>none
theorem zB5 {cm:List (Nat×Nat)} {h'':Hp} {nxt' id:Nat} {e:Ent} (f:CmOK cm) (h:(σ.back cm nxt' h'').ent id=some e):zgK h'' id=some e\/(h'' id=none/\(∀ i,lkc cm i≠some id)/\σ.ent id=some e):=by
 have h:(match h'' id with
  | some e=>some e
  | none=>if (cm.any fun p=>Nat.beq p.2 (bs id))=true then none else σ.ent id)=some e:=h
 split at h
 ·rename_i e' a;left;show h'' id=some e;rw [a,h]
 ·rename_i a;right;split at h
  ·cases h
  ·rename_i b;refine ⟨a,fun i g => ?_,h⟩;obtain ⟨_,j,c,d,⟨k,rfl⟩ | ⟨k,rfl⟩⟩:=zor f g
   ·refine b (List.any_eq_true.2 ⟨(bs i,id),zaN c,?_⟩);rw [zuP d];exact Nat.beq_refl _
   ·refine b (List.any_eq_true.2 ⟨(bs i,j),zaN c,?_⟩);rw [ztw d];exact Nat.beq_refl _
end
end Go.Ab
