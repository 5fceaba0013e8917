import Derived.Test.YtajabcfngklacaaAb24n16
set_option linter.unusedVariables false
set_option linter.unusedSimpArgs false
set_option linter.unusedSectionVars false
namespace Go.Ab
mutual
def AV.frz (id:Nat) (x:D):AV->AV
 | .ptr i o=>bif Nat.beq i id && Nat.beq o 0 then .addr x else .ptr i o
 | .agg l => .agg (AV.frzL id x l)
 | .tup l => .tup (AV.frzL id x l)
 | .fn f l => .fn f (AV.frzL id x l)
 | .any => .any
 | .d y => .d y
 | .nil => .nil
 | .own i => .own i
 | .eptr i s j k => .eptr i s j k
 | .view i s j k => .view i s j k
 | .full b l => .full b l
 | .addr y => .addr y
def AV.frzL (id:Nat) (x:D):List AV->List AV
 | []=>[]
 | y::r=>AV.frz id x y::AV.frzL id x r
end
theorem zwd (id:Nat) (x:D):∀ l,AV.frzL id x l=l.map (AV.frz id x)
 | []=>rfl
 | y::r=>by rw [AV.frzL,zwd id x r];rfl
theorem zir (id:Nat) (x:D) (l:List AV):(AV.frzL id x l).length=l.length:=by rw [zwd,List.length_map]
theorem zqI (id:Nat) (x:D) (l:List AV) (i:Nat):(AV.frzL id x l).getD i default=AV.frz id x (l.getD i default):=by
 rw [zwd];simp only [List.getD_eq_getElem?_getD,List.getElem?_map];cases l[i]? with
 | none=>rfl
 | some y=>rfl
def Ent.frz (id:Nat) (x:D):Ent->Ent
 | .box T cs => .box T (AV.frzL id x cs)
 | .out E b cs => .out E b (AV.frzL id x cs)
 | e=>e
section
variable {F:Fr} {σ:St} {H:Hd} {a:Act} {w:World}
theorem VRel.frz {S S':Nat->Prop} {id:Nat} {x:D} (q:∀ c,S c->S' c/\w.heap[c]? =w.heap[c]?)
  (s:∀ b,H id=some (.pointer (some ⟨b,0,none⟩))->VRel w S' H (.addr x) (.pointer (some ⟨b,0,none⟩))) {y:AV} {v:Value} (h:VRel w S H y v):VRel w S' H (AV.frz id x y) v:=by
 induction h with
 | any v=>exact .any v
 | d x v a=>exact .d x v (a.mono q)
 | nil=>exact .nil
 | own i v a hs=>exact .own i v a hs
 | ptr i off b a=>
  rw [AV.frz];cases m:(Nat.beq i id && Nat.beq off 0) with
  | false=>exact .ptr i off b a
  | true=>
   simp only [Bool.and_eq_true] at m;have z:=Nat.eq_of_beq_eq_true m.1;have A:=Nat.eq_of_beq_eq_true m.2;subst z A;exact s b a
 | eptr i sz j k b B n c a e=>exact .eptr i sz j k b B n c a e
 | view i sz j n u v a C=>exact .view i sz j n u v a C
 | full bts l E a=>exact .full bts l E (a.mono q)
 | addr x b off f m g o=>exact .addr x b off f (q b m).1 g (fun k t=>(o k t).mono q)
 | agg l cs hs h p=>
  refine .agg _ cs (by rw [zir];exact hs) (fun i e => ?_);rw [zqI];exact p i (by rw [zir] at e;exact e)
 | tup l cs hs h p=>
  refine .tup _ cs (by rw [zir];exact hs) (fun i e => ?_);rw [zqI];exact p i (by rw [zir] at e;exact e)
 | fn f r cs hs h p=>
  refine .fn f _ cs (by rw [zir];exact hs) (fun i e => ?_);rw [zqI];exact p i (by rw [zir] at e;exact e)
theorem RelH.freezeAll (r:RelH F σ H a w) {id:Nat} {T:TypeId} {x:D} (O:σ.ent id=some (.box T (avs x))) {σ':St} (Z:σ'.n=σ.n) (P:σ'.nxt=σ.nxt)
  (g:∀ j e,σ'.ent j=some e->j≠id/\∃ e0,σ.ent j=some e0/\e=e0.frz id x)
  (C:∀ k y,σ'.get k=some y->∃ z,σ.get k=some z/\y=z.frz id x):RelH F σ' H a w:=by
 obtain ⟨v,S,N⟩:=r.ent id _ O;have t:∀ c,Sh F.X σ.ent H w c->Sh F.X σ'.ent H w c/\w.heap[c]? =w.heap[c]? :=fun c ⟨X,P,ho⟩=>⟨⟨X,P,fun j x u m o=>by
  obtain ⟨_,e0,I,_⟩:=g j x m;exact ho j e0 u I o⟩,rfl⟩
 have Q:∀ b,blk v=some b->Sh F.X σ'.ent H w b:=by
  intro b s;refine ⟨N.lt s,(r.own id _ v b O S s).2,fun j x u m o I => ?_⟩;obtain ⟨n,e0,M,_⟩:=g j x m;exact n (r.inj id j _ e0 v u b O M S o s I).symm
 have R:∀ b,H id=some (.pointer (some ⟨b,0,none⟩))->VRel w (Sh F.X σ'.ent H w) H (.addr x) (.pointer (some ⟨b,0,none⟩)):=by
  intro b h;rw [S] at h;cases h;obtain ⟨p,s,hs,f⟩:=N.box_inv
  ·have L:(avs x).length=x.cells.length:=by simp [avs]
   refine .addr x b 0 (fun j=>p.getD j undef) (Q b rfl) (fun j n => ?_) (fun j n => ?_)
   ·rw [Nat.zero_add,cell_of_row w b j p T (0,0) s];have:j < p.size:=by omega
    simp [Array.getD_eq_getD_getElem?, this]
   ·have m:=f j (by rw [L];exact n);have o:(avs x).getD j default = .d (x.cells.getD j default):=by
     simp [avs,List.getD_eq_getElem?_getD,n]
    rw [o] at m;cases m with
    | d _ _ m=>exact m.mono t
 exact {
  size:=r.size.trans Z.symm,defs:=r.defs,os:=r.os,tape:=r.tape,output:=r.output,grow:=r.grow,keep:=r.keep,xlt:=r.xlt
  fresh:=fun i m o=>r.fresh i (P ▸ m) o
  pin:=r.pin
  ent:=fun j e h=>by
   obtain ⟨n,e0,m,rfl⟩:=g j e h;obtain ⟨u,hu,N⟩:=r.ent j e0 m;refine ⟨u,hu,?_⟩;cases N with
   | arr E sz bts l v xs V q A W f=>exact .arr E sz bts l _ xs V q A W (fun i J j n=>(f i J j n).mono t)
   | box T cells b p s hs f=>
    refine .box T _ b p s (by rw [zir];exact hs) (fun j n => ?_);rw [zqI];exact (f j (by rw [zir] at n;exact n)).frz t R
   | mp T kb vb ks vs b es B s g1 g2 hk hv X=>exact .mp T kb vb ks vs b es B s g1 g2 (fun i J=>(hk i J).mono t) (fun i J=>(hv i J).mono t) X
   | out E bts cs v xs q A f=>
    refine .out E bts _ _ xs (by rw [zir];exact q) (by rw [zir];exact A) (fun j n => ?_);rw [zqI];exact (f j (by rw [zir] at n;exact n)).frz t R
  own:=fun j e u c m o I=>by
   obtain ⟨_,e0,M,_⟩:=g j e m;exact r.own j e0 u c M o I
  inj:=fun j Y e e' u u' c m o=>by
   obtain ⟨_,e0,M,_⟩:=g j e m;obtain ⟨_,U,h5,_⟩:=g Y e' o;exact r.inj j Y e0 U u u' c M h5
  slot:=fun k y h=>by
   obtain ⟨z,hz,rfl⟩:=C k y h;exact (r.slot k z hz).frz t R }
end
end Go.Ab
