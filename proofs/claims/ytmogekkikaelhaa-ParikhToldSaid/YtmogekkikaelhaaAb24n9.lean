import Derived.Test.YtmogekkikaelhaaAb24n8
set_option linter.unusedVariables false
set_option linter.unusedSimpArgs false
set_option linter.unusedSectionVars false
namespace Go.Ab
open Enc (enc)
open Go.RowKit (Below)
abbrev Hp:=Nat->Option Ent
abbrev zbm (h:Hp) (id:Nat):Option Ent:=h id
def zug (mp:List (Nat×Option Nat)) (σ:St) (h:Hp):Prop:=∀ i e',h i=some e'->zjk mp σ i e'
def Hp.nil:Hp:=fun _=>none
def zcL (h:Hp) (H:Hd) (b:Nat):Prop:=∃ id e v,zbm h id=some e/\H id=some v/\blk v=some b
structure HOK (X:Nat->Prop) (h:Hp) (H:Hd) (w:World):Prop where
 ent:∀ id e,zbm h id=some e->∃ v,H id=some v/\EntRel w (Sh X (zbm h) H w) H e v
 own:∀ id e v b,zbm h id=some e->H id=some v->blk v=some b -> ¬ X b
 inj:∀ id id' e e' v v' b,zbm h id=some e->zbm h id'=some e'->H id=some v->H id'=some v'->blk v=some b->blk v'=some b->id=id'
def Fc (P:Program) (f:FuncId) (args:List AV) (h:Hp) (R:AV->Hp->Prop):Prop:=
 ∀ (w:World) (X:Nat->Prop) (H:Hd) (vs:Array Value),(∀ b,X b->b < w.heap.size)->(∀ id,bs id < LIM->H id=none)->HOK X h H w->vs.size=args.length->
  (∀ i,i < args.length->VRel w (Sh X (zbm h) H w) H (args.getD i default) (vs.getD i undef))->
  Calls P f vs w (fun e w'=>∃ v r h' H',e = .returned v/\R r h'/\
   (w'.os=w.os/\w'.tape=w.tape/\w'.output=w.output/\w.heap.size<=w'.heap.size)/\(∀ b,b < w.heap.size -> ¬ zcL h H b->w'.heap[b]? =w.heap[b]?)/\
   HOK X h' H' w'/\(∀ b,zcL h' H' b->w.heap.size<=b\/zcL h H b)/\(∀ id,pinB id=true->H' id=H id)/\VRel w' (Sh X (zbm h') H' w') H' r v)
theorem Fc.mono {P:Program} {f:FuncId} {args:List AV} {h:Hp} {R R':AV->Hp->Prop} (hf:Fc P f args h R) (hr:∀ r h',R r h'->R' r h'):Fc P f args h R':=
 fun w X H vs h1 h2 h3 h4 h5=>(hf w X H vs h1 h2 h3 h4 h5).mono fun _ _ ⟨v,r,h',H',a,b,c⟩=>⟨v,r,h',H',a,hr _ _ b,c⟩
def zeO (P:Program) (mp:List (Nat×Option Nat)) (σ:St):List ResultVar->List AV->Prop
 | [],xs=>xs=[]
 | .tmp t::r,x'::xs=>(∃ x,σ.get t=some x/\Cv mp x x')/\zeO P mp σ r xs
 | .cell t ty::r,x'::xs=>((∃ id T x dsc,σ.get t=some (.ptr id 0)/\σ.ent id=some (.box T [x])/\P.underlying ty=some dsc/\dAgg dsc=false/\Cv mp x x')\/
   (∃ id T l size bytes z,σ.get t=some (.ptr id 0)/\σ.ent id=some (.box T (avs (.agg l)))/\TI P ty true size bytes z/\l.length=size/\x' = .d (.agg l))\/
   (∃ id T l size bytes z,σ.get t=some (.ptr id 0)/\σ.ent id=some (.box T l)/\TI P ty true size bytes z/\l.length=size/\Cv mp (.agg l) x'))/\zeO P mp σ r xs
 | _::_,[]=>False
def zpW:List AV->AV
 | [x]=>x
 | xs => .tup xs
def zp6 (P:Program) (fn:Func) (R:AV->Hp->Prop) (σ:St):Prop:=
 ∃ mp xs h',(mpW mp LIM=true/\∀ i o,lk mp i=some (some o)->pinB o=true->zbm h' o=none)/\zeO P mp σ fn.results.toList xs/\zug mp σ h'/\R (zpW xs) h'
def Ret (P:Program) (fn:Func) (R:AV->Hp->Prop):Exit->St->Prop
 | .normal,σ=>zp6 P fn R σ
 | .ret,σ=>zp6 P fn R σ
 | _,_=>False
def zg9:Nat->List AV->List (Nat×AV)
 | _,[]=>[]
 | k,x::r=>(k,x)::zg9 (k+1) r
theorem zes:∀ (l:List AV) (k j:Nat) (x:AV),look (zg9 k l) j=some x->k<=j/\l[j - k]? =some x
 | [],k,j,x,h=>by cases h
 | y::r,k,j,x,h=>by
  simp only [zg9,zae] at h;by_cases hk:k=j
  ·rw [if_pos hk] at h;cases h;subst hk;simp
  ·rw [if_neg hk] at h;obtain ⟨h1,h2⟩:=zes r (k+1) j x h;refine ⟨by omega,?_⟩;have:j - k=(j - (k+1))+1:=by omega
   rw [this];simpa using h2
def St.start (n:Nat) (args:List AV) (h:Hp):St:=⟨n,0,zg9 0 args,[],h⟩
theorem zd4 {n nxt:Nat} {sl:List (Nat×AV)} (h:Hp):(⟨n,nxt,sl,[],h⟩:St).ent=zbm h:=rfl
structure Eqv (σ σ':St):Prop where
 n:σ'.n=σ.n
 nxt:σ'.nxt=σ.nxt
 get:∀ k x,σ'.get k=some x->σ.get k=some x
 ent:∀ i e,σ'.ent i=some e->σ.ent i=some e
theorem Eqv.refl (σ:St):Eqv σ σ:=⟨rfl,rfl,fun _ _ h=>h,fun _ _ h=>h⟩
theorem Eqv.relH {σ σ':St} (h:Eqv σ σ') {F:Fr} {H:Hd} {a:Act} {w:World} (r:RelH F σ H a w):RelH F σ' H a w:=by
 have hS:∀ b,Sh F.X σ.ent H w b->Sh F.X σ'.ent H w b/\w.heap[b]? =w.heap[b]? :=fun b hb=>⟨⟨hb.1,hb.2.1,fun id e v he hv=>hb.2.2 id e v (h.ent id e he) hv⟩,rfl⟩
 exact {
  size:=r.size.trans h.n.symm,defs:=r.defs,os:=r.os,tape:=r.tape,output:=r.output,grow:=r.grow,keep:=r.keep,xlt:=r.xlt
  fresh:=by rw [h.nxt];exact r.fresh
  pin:=r.pin
  ent:=fun i e he=>let ⟨v,hv,hr⟩:=r.ent i e (h.ent i e he);⟨v,hv,hr.mono hS (fun _ _ h=>h) (fun _ _=>rfl)⟩
  own:=fun i e v b he=>r.own i e v b (h.ent i e he)
  inj:=fun i j e e' v v' b h1 h2=>r.inj i j e e' v v' b (h.ent i e h1) (h.ent j e' h2)
  slot:=fun k x hx=>(r.slot k x (h.get k x hx)).mono hS (fun _ _ h=>h) }
theorem Eqv.rel {σ σ':St} (h:Eqv σ σ') {F:Fr} {a:Act} {w:World} (r:Rel F σ a w):Rel F σ' a w:=let ⟨H,r⟩:=r;⟨H,h.relH r⟩
section
variable {P:Program} {F:Fr} {σ:St} {H:Hd} {a:Act} {w:World} {mp:List (Nat×Option Nat)}
def resF (tmps:Array Value):ResultVar->Sem Value
 | .tmp t=>pure (tmps.getD t undef)
 | .cell c t=>do loadVar t (<- asAddr (tmps.getD c undef))
theorem zmh (fn:Func) (tmps:Array Value):results fn tmps=(do let vs <- fn.results.mapM (resF tmps);pure (if h:vs.size=1 then vs[0] else .tuple vs)):=rfl
theorem zfl {fn:Func} (r:RelH F σ H a w) (hok:mpW mp LIM=true) {S':Nat->Prop} (hS:∀ b,Sh F.X σ.ent H w b->S' b):∀ (l:List ResultVar) (xs:List AV),zeO P mp σ l xs->
  ∃ vs:List Value,(l.mapM (resF a.tmps)).run P w = .ok vs w/\vs.length=xs.length/\∀ i,i < xs.length->VRel w S' (renH mp H) (xs.getD i default) (vs.getD i undef)
 | [],xs,h=>by
  have:xs=[]:=h;subst this;exact ⟨[],rfl,rfl,by simp⟩
 | .tmp t::r',x'::xs,h=>by
  obtain ⟨⟨x,hx,hc⟩,h2⟩:=h;obtain ⟨vs,h3,h4,h5⟩:=zfl (fn:=fn) r hok hS r' xs h2;refine ⟨a.tmps.getD t undef::vs,?_,by simp [h4],fun i hi => ?_⟩
  ·rw [List.mapM_cons];simp only [resF,Sem.run_bind,Sem.run_pure,Result.andThen_ok,h3]
  ·cases i with
   | zero=>exact hc.rel zdo hS (r.slot t x hx)
   | succ i=>simpa using h5 i (by simpa using hi)
 | .cell t ty::r',x'::xs,h=>by
  obtain ⟨⟨id,T,x,dsc,hx,he,ht,hn,hc⟩ | ⟨id,T,dl,size,bytes,z,hx,he,ht,hn,rfl⟩ | ⟨id,T,al,size,bytes,z,hx,he,ht,hn,hc⟩,h2⟩:=h
  ·obtain ⟨vs,h3,h4,h5⟩:=zfl (fn:=fn) r hok hS r' xs h2;have hv:=r.slot t _ hx;obtain ⟨u,hH,hr⟩:=r.ent id _ he;generalize hu:a.tmps.getD t undef=q at hv;cases hv with
   | ptr _ _ b hb=>
    rw [hH] at hb;cases hb;cases hr with
    | box _ _ _ cur hb hs hrel=>
     have h0:w.cell? ⟨b,0,none⟩=some (cur.getD 0 undef):=by
      rw [cell_of_row w b 0 cur T (0,0) hb];have:0 < cur.size:=by rw [hs];simp
      simp [this]
     refine ⟨cur.getD 0 undef::vs,?_,by simp [h4],fun i hi => ?_⟩
     ·rw [List.mapM_cons];have ha:(asAddr (.pointer (some ⟨b,0,none⟩))).run P w = .ok ⟨b,0,none⟩ w:=rfl;simp only [resF,Sem.run_bind,Sem.run_pure,Result.andThen_ok,hu,ha,zel ht hn h0,h3]
     ·cases i with
      | zero=>
       have:=hrel 0 (by simp);exact hc.rel zdo hS (by simpa using this)
      | succ i=>simpa using h5 i (by simpa using hi)
  ·obtain ⟨vs,h3,h4,h5⟩:=zfl (fn:=fn) r hok hS r' xs h2;have hv:=r.slot t _ hx;obtain ⟨u,hH,hr⟩:=r.ent id _ he;generalize hu:a.tmps.getD t undef=q at hv;cases hv with
   | ptr _ _ b hb=>
    rw [hH] at hb;cases hb;obtain ⟨cur,hb,hs,hrel⟩:=hr.box_inv
    ·have hlen:(avs (.agg dl)).length=size:=by simpa [avs,D.cells] using hn
     have hc:∀ j,j < size->w.cell? ⟨b,0+j,none⟩=some (cur.getD j undef):=fun j hj=>by
      rw [Nat.zero_add,cell_of_row w b j cur T (0,0) hb];have:j < cur.size:=by omega
      simp [this]
     have hload:=zem ht rfl hc;refine ⟨.agg ((Array.range size).map fun j=>cur.getD j undef)::vs,?_,by simp [h4],fun i hi => ?_⟩
     ·rw [List.mapM_cons];have ha:(asAddr (.pointer (some ⟨b,0,none⟩))).run P w = .ok ⟨b,0,none⟩ w:=rfl;simp only [resF,Sem.run_bind,Sem.run_pure,Result.andThen_ok,hu,ha,hload,h3]
     ·cases i with
      | zero=>
       refine .d _ _ (.agg dl _ (by simp [hn]) fun i hi => ?_);have h1:=hrel i (by rw [hlen];omega);have h2:(avs (.agg dl)).getD i default = .d (dl.getD i default):=by simp [avs,D.cells,List.getD_eq_getElem?_getD,hi]
       rw [h2] at h1;cases h1 with
       | d _ _ h1=>
        have h3:=h1.mono (S':=S') (w':=w) (fun b hb=>⟨hS b hb,rfl⟩);have hi2:i < size:=by omega
        simpa [hi2] using h3
      | succ i=>simpa using h5 i (by simpa using hi)
  ·obtain ⟨vs,h3,h4,h5⟩:=zfl (fn:=fn) r hok hS r' xs h2;have hv:=r.slot t _ hx;obtain ⟨u,hH,hr⟩:=r.ent id _ he;generalize hu:a.tmps.getD t undef=q at hv;cases hv with
   | ptr _ _ b hb=>
    rw [hH] at hb;cases hb;obtain ⟨cur,hb,hs,hrel⟩:=hr.box_inv
    ·have hc2:∀ j,j < size->w.cell? ⟨b,0+j,none⟩=some (cur.getD j undef):=fun j hj=>by
      rw [Nat.zero_add,cell_of_row w b j cur T (0,0) hb];have:j < cur.size:=by omega
      simp [this]
     have hload:=zem ht rfl hc2;refine ⟨.agg ((Array.range size).map fun j=>cur.getD j undef)::vs,?_,by simp [h4],fun i hi => ?_⟩
     ·rw [List.mapM_cons];have ha:(asAddr (.pointer (some ⟨b,0,none⟩))).run P w = .ok ⟨b,0,none⟩ w:=rfl;simp only [resF,Sem.run_bind,Sem.run_pure,Result.andThen_ok,hu,ha,hload,h3]
     ·cases i with
      | zero=>
       refine hc.rel zdo hS (VRel.agg al _ (by simp [hn]) fun i hi => ?_);have h1:=hrel i hi;have hi2:i < size:=by omega
       simpa [hi2] using h1
      | succ i=>simpa using h5 i (by simpa using hi)
 | .tmp t::r',[],h=>h.elim
 | .cell t ty::r',[],h=>h.elim
theorem Fc.of_body {f:FuncId} {args:List AV} {h:Hp} {R:AV->Hp->Prop} {fn:Func} {c:Code} {n:Nat} (hf:P.funcs[f]? =some fn) (hb:fn.body=some c) (hn:fn.ntmps=n) (hlen:args.length<=n)
  (hbody:∀ F:Fr,AW P F c (St.start n args h) (Ret P fn R)):Fc P f args h R:=by
 intro w X H vs hX hlow hH hvs hargs
 let F:Fr:={ w:=w,O:=zcL h H,X:=X,H0:=H }
 refine calls_of_wp hf hb ?_;have hsz:(vs++Array.replicate (fn.ntmps - vs.size) undef).size=n:=by simp;omega
 have r0:RelH F (St.start n args h) H { tmps:=vs++Array.replicate (fn.ntmps - vs.size) undef,defers:=[] } w:={
  size:=hsz,defs:=rfl,os:=rfl,tape:=rfl,output:=rfl,grow:=Nat.le_refl _,keep:=fun _ _ _=>rfl,xlt:=hX
  fresh:=fun id _ h2=>hlow id h2
  pin:=fun _ _=>rfl
  ent:=by unfold St.start;rw [zd4];exact hH.ent
  own:=by unfold St.start;rw [zd4];exact fun id e v b h1 h2 h3=>⟨.inr ⟨id,e,v,h1,h2,h3⟩,hH.own id e v b h1 h2 h3⟩
  inj:=by unfold St.start;rw [zd4];exact hH.inj
  slot:=fun k x hx=>by
   obtain ⟨_,h2⟩:=zes args 0 k x hx;have hk:k < args.length:=(List.getElem?_eq_some_iff.1 (by simpa using h2)).1;have:=hargs k hk;have h3:args.getD k default=x:=by
    rw [List.getD_eq_getElem?_getD];have:args[k]? =some x:=by simpa using h2
    rw [this];rfl
   rw [h3] at this;have h4:(vs++Array.replicate (fn.ntmps - vs.size) undef).getD k undef=vs.getD k undef:=by
    have:k < vs.size:=by omega
    simp [Array.getElem?_append_left this]
   show VRel w _ H x ((vs++Array.replicate (fn.ntmps - vs.size) undef).getD k undef);unfold St.start;rw [h4,zd4];exact this }
 have key:∀ (a':Act) (w':World) (σ':St),zp6 P fn R σ'->Rel F σ' a' w'->a'.defers=[]/\∃ v,(results fn a'.tmps).run P w' = .ok v w'/\∃ v' r h' H',Ending.returned v = .returned v'/\R r h'/\
   (w'.os=w.os/\w'.tape=w.tape/\w'.output=w.output/\w.heap.size<=w'.heap.size)/\(∀ b,b < w.heap.size -> ¬ zcL h H b->w'.heap[b]? =w.heap[b]?)/\
   HOK X h' H' w'/\(∀ b,zcL h' H' b->w.heap.size<=b\/zcL h H b)/\(∀ id,pinB id=true->H' id=H id)/\VRel w' (Sh X (zbm h') H' w') H' r v':=by
  intro a' w' σ' ⟨mp,xs,h',⟨hok,hoff⟩,hret,hsub,hR⟩ ⟨H',r⟩;have hs:SubF mp σ' ⟨σ'.n,LIM,[],[],h'⟩:=⟨rfl,hok,fun k x' h=>(by cases h),fun i e' hi=>hsub i e' hi,fun i o hi hp=>hoff i o hi hp⟩;have r2:=hs.relH r;have hsh:=fun b hb=>hs.sh r b hb
  rw [zd4] at hsh;have r2e:=r2.ent;have r2o:=r2.own;have r2i:=r2.inj;rw [zd4] at r2e r2o r2i;obtain ⟨vl,hm,hl,hv⟩:=zfl (fn:=fn) r hok hsh fn.results.toList xs hret;have hm':(fn.results.mapM (resF a'.tmps)).run P w' = .ok vl.toArray w':=by
   rw [Array.mapM_eq_mapM_toList];have:(List.toArray <$> fn.results.toList.mapM (resF a'.tmps)).run P w'=((fn.results.toList.mapM (resF a'.tmps)).run P w').andThen fun l w'' => .ok l.toArray w'':=by
    rw [map_eq_pure_bind];simp only [Sem.run_bind,Sem.run_pure]
   rw [this,hm];rfl
  refine ⟨r.defs,_,by rw [zmh];simp only [Sem.run_bind,hm',Result.andThen_ok,Sem.run_pure];rfl,_,zpW xs,h',renH mp H',rfl,hR,⟨r.os,r.tape,r.output,r.grow⟩,r.keep,⟨r2e,fun id e v b h1 h2 h3=>(r2o id e v b h1 h2 h3).2,r2i⟩,
   fun b ⟨id,e,v,h1,h2,h3⟩=>(r2o id e v b h1 h2 h3).1,r2.pin,?_⟩
  have hr3:∀ i,i < xs.length->VRel w' (Sh X (zbm h') (renH mp H') w') (renH mp H') (xs.getD i default) (vl.getD i undef):=hv
  match xs,vl,hl,hr3 with
  | [],[],_,hr3=>exact .tup [] #[] rfl (by simp)
  | [x],[u],_,hr3=>exact (by simpa using hr3 0 (by simp):VRel w' (Sh X (zbm h') (renH mp H') w') (renH mp H') x u)
  | x::y::r',u::v::r'',hl,hr3=>
   have hne : ¬ ((u::v::r'').toArray.size=1):=by simp
   rw [dif_neg hne];refine .tup _ _ (by simpa using hl) fun i hi => ?_
   have:=hr3 i hi;simpa [List.getD_eq_getElem?_getD] using this
 refine wp_mono (hbody F _ w ⟨H,r0⟩) ?_;rintro e a' w' ⟨σ',hq,hr⟩;cases e with
 | normal=>exact key a' w' σ' hq hr
 | ret=>exact key a' w' σ' hq hr
 | _=>exact hq.elim
def cmOK (cm:List (Nat×Nat)):Bool:=(cm.all fun p=>Nat.ble LIM p.1 && Nat.blt p.1 RB && Nat.blt p.2 RB) && za0 (cm.map (·.1)) && za0 (cm.map (·.2))
def toMp (cm:List (Nat×Nat)):List (Nat×Option Nat):=cm.map fun p=>(p.1,some p.2)
def lkc (cm:List (Nat×Nat)) (i:Nat):Option Nat:=match lk (toMp cm) i with
 | some (some o)=>some o
 | _=>none
def zhj (cm:List (Nat×Nat)) (σ:St) (h:Hp):Prop:=∀ i e',h i=some e'->∃ o e,lkc cm i=some o/\σ.ent o=some e/\renE false (toMp cm) e'=some e
def zlW (cm:List (Nat×Nat)) (nxt nxt':Nat) (mp:List (Nat×Option Nat)):Bool:=
 (za0 (mp.filterMap (·.2)) && (mp.filterMap (·.2)).all fun o=>Nat.blt o RB) && Nat.ble nxt nxt' && Nat.ble nxt' LIM && mp.all fun p=>match p.2 with
  | none=>false
  | some j=>(Nat.ble nxt p.1 && Nat.blt p.1 nxt') || (Nat.ble LIM j && (match look cm j with | some o=>Nat.beq o p.1 && (Nat.blt p.1 nxt || Nat.ble LIM p.1) | none=>false))
def zkm (mp:List (Nat×Option Nat)) (h':Hp) (h'':Hp):Prop:=∀ i e'',h'' i=some e''->∃ j e,lk mp i=some (some j)/\h' j=some e/\renE false mp e''=some e
def St.back (σ:St) (cm:List (Nat×Nat)) (nxt':Nat) (h'':Hp):St:=
 {σ with nxt:=nxt',heap:=[],rows:=fun k=>match h'' k with
  | some e=>some e
  | none=>if (cm.any fun p=>Nat.beq p.2 (bs k))=true then none else σ.ent k }
theorem zag {β:Type}:∀ (l r:List (Nat×β)) (k:Nat),look (l++r) k=(look l k).or (look r k)
 | [],r,k=>rfl
 | (k',v)::l,r,k=>by
  rw [List.cons_append,zae,zae,zag l r k];by_cases h:k'=k
  ·rw [if_pos h,if_pos h];rfl
  ·rw [if_neg h,if_neg h]
theorem zcn:∀ {cm:List (Nat×Nat)} {i:Nat},look (toMp cm) i=(look cm i).map some
 | [],i=>rfl
 | (k,o)::r,i=>by
  show look ((k,some o)::toMp r) i=_;rw [zae,zae,zcn];by_cases h:k=i
  ·rw [if_pos h,if_pos h];rfl
  ·rw [if_neg h,if_neg h]
theorem zok {cm:List (Nat×Nat)}:(toMp cm).filterMap (·.2)=cm.map (·.2):=by
 unfold toMp;rw [List.filterMap_map];induction cm with
 | nil=>rfl
 | cons p r ih=>simp at ih ⊢;exact ih
structure CmOK (cm:List (Nat×Nat)):Prop where
 key:∀ i o,look cm i=some o->LIM<=i/\i < RB/\o < RB
 nodup:za0 ((toMp cm).filterMap (·.2))=true
 vals:(((toMp cm).filterMap (·.2)).all fun o=>Nat.blt o RB)=true
theorem zbW {cm:List (Nat×Nat)} (h:cmOK cm=true):CmOK cm:=by
 simp only [cmOK,Bool.and_eq_true] at h;obtain ⟨⟨h1,_⟩,h3⟩:=h;refine ⟨fun i o hi => ?_,by rw [zok];exact h3,?_⟩
 ·have:=List.all_eq_true.1 h1 (i,o) (zak hi);simp only [Bool.and_eq_true] at this;exact ⟨by simpa using this.1.1,by simpa using this.1.2,by simpa using this.2⟩
 ·rw [zok];refine List.all_eq_true.2 fun o ho => ?_
  obtain ⟨p,hp,rfl⟩:=List.mem_map.1 ho;have:=List.all_eq_true.1 h1 p hp;simp only [Bool.and_eq_true] at this;exact this.2
theorem zrO {cm:List (Nat×Nat)} {i o:Nat} (h:lkc cm i=some o):lk (toMp cm) i=some (some o):=by
 unfold lkc at h;split at h
 ·rename_i q hq;cases h;exact hq
 ·cases h
theorem zpJ {cm:List (Nat×Nat)} {i o:Nat} (h:lk (toMp cm) i=some (some o)):lkc cm i=some o:=by unfold lkc;rw [h]
theorem zti {cm:List (Nat×Nat)} {i o:Nat} (h:look cm i=some o):lkc cm i=some o:=zpJ (ziN (by rw [zcn,h];rfl))
theorem ztV {cm:List (Nat×Nat)} (h:CmOK cm) {i j o:Nat} (hi:lkc cm i=some o) (hj:lkc cm j=some o):i=j:=zrM h.nodup h.vals (zrO hi) (zrO hj)
theorem zgM {cm:List (Nat×Nat)} (hc:CmOK cm) {i o:Nat} (h:lkc cm i=some o):LIM<=bs i/\∃ o',look cm (bs i)=some o'/\o' < RB/\((i < RB/\o=o')\/(RB<=i/\o=rid o' (i / RB - 1))):=by
 rcases zdh (zrO h) with h1 | ⟨h1,_,o',h2,h3⟩
 ·rw [zcn] at h1;cases hl:look cm i with
  | none=>rw [hl] at h1;cases h1
  | some q=>
   rw [hl] at h1;cases h1;obtain ⟨k1,k2,k3⟩:=hc.key i o hl;rw [zlI k2];exact ⟨k1,o,hl,k3,.inl ⟨k2,rfl⟩⟩
 ·rw [zcn] at h2;cases hl:look cm (i % RB) with
  | none=>rw [hl] at h2;cases h2
  | some q=>
   rw [hl] at h2;cases h2;cases h3;obtain ⟨k1,k2,k3⟩:=hc.key _ o' hl;have e:bs i=i % RB:=by unfold bs;rw [if_pos h1]
   rw [e];exact ⟨k1,o',hl,k3,.inr ⟨h1,rfl⟩⟩
theorem zgF {cm:List (Nat×Nat)} {σ:St} {l:Hp} {i:Nat} {e':Ent} (h:zhj cm σ l) (hl:zbm l i=some e'):∃ o e,lkc cm i=some o/\σ.ent o=some e/\renE false (toMp cm) e'=some e:=h i e' hl
theorem znq {mp:List (Nat×Option Nat)} {h':Hp} {l:Hp} {i:Nat} {e'':Ent} (h:zkm mp h' l) (hl:zbm l i=some e''):∃ j e,lk mp i=some (some j)/\zbm h' j=some e/\renE false mp e''=some e:=h i e'' hl
def cmH (cm:List (Nat×Nat)) (H:Hd):Hd:=fun i=>match lkc cm i with
 | some o=>H o
 | none=>none
theorem zsr {cm:List (Nat×Nat)} {h'':Hp} {nxt' id:Nat} {e:Ent} (hc:CmOK cm) (h:(σ.back cm nxt' h'').ent id=some e):zbm h'' id=some e\/(h'' id=none/\(∀ i,lkc cm i≠some id)/\σ.ent id=some e):=by
 have h:(match h'' id with
  | some e=>some e
  | none=>if (cm.any fun p=>Nat.beq p.2 (bs id))=true then none else σ.ent id)=some e:=h
 split at h
 ·rename_i e' he;left;show h'' id=some e;rw [he,h]
 ·rename_i he;right;split at h
  ·cases h
  ·rename_i hn;refine ⟨he,fun i hi => ?_,h⟩;obtain ⟨_,o',g1,g2,⟨g3,rfl⟩ | ⟨g3,rfl⟩⟩:=zgM hc hi
   ·refine hn (List.any_eq_true.2 ⟨(bs i,id),zak g1,?_⟩);rw [zlI g2];exact Nat.beq_refl _
   ·refine hn (List.any_eq_true.2 ⟨(bs i,o'),zak g1,?_⟩);rw [zjG g2];exact Nat.beq_refl _
end
end Go.Ab
