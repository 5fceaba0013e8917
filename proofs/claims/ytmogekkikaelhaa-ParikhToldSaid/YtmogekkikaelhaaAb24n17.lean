import Derived.Test.YtmogekkikaelhaaAb24n16
set_option linter.unusedVariables false
set_option linter.unusedSimpArgs false
set_option linter.unusedSectionVars false
namespace Go.Ab
mutual
def AV.frz (id:Nat) (x:D):AV->AV
 | .ptr i o=>bif Nat.beq i id && Nat.beq o 0 then .addr x else .ptr i o
 | .agg l => .agg (AV.frzL id x l)
 | .tup l => .tup (AV.frzL id x l)
 | .fn f l => .fn f (AV.frzL id x l)
 | .any => .any
 | .d y => .d y
 | .nil => .nil
 | .own i => .own i
 | .eptr i s j k => .eptr i s j k
 | .view i s j k => .view i s j k
 | .full b l => .full b l
 | .addr y => .addr y
def AV.frzL (id:Nat) (x:D):List AV->List AV
 | []=>[]
 | y::r=>AV.frz id x y::AV.frzL id x r
end
theorem zmW (id:Nat) (x:D):∀ l,AV.frzL id x l=l.map (AV.frz id x)
 | []=>rfl
 | y::r=>by rw [AV.frzL,zmW id x r];rfl
theorem zcN (id:Nat) (x:D) (l:List AV):(AV.frzL id x l).length=l.length:=by rw [zmW,List.length_map]
theorem ziE (id:Nat) (x:D) (l:List AV) (i:Nat):(AV.frzL id x l).getD i default=AV.frz id x (l.getD i default):=by
 rw [zmW];simp only [List.getD_eq_getElem?_getD,List.getElem?_map];cases l[i]? with
 | none=>rfl
 | some y=>rfl
def Ent.frz (id:Nat) (x:D):Ent->Ent
 | .box T cs => .box T (AV.frzL id x cs)
 | .out E b cs => .out E b (AV.frzL id x cs)
 | e=>e
section
variable {F:Fr} {σ:St} {H:Hd} {a:Act} {w:World}
theorem VRel.frz {S S':Nat->Prop} {id:Nat} {x:D} (hS:∀ c,S c->S' c/\w.heap[c]? =w.heap[c]?)
  (hf:∀ b,H id=some (.pointer (some ⟨b,0,none⟩))->VRel w S' H (.addr x) (.pointer (some ⟨b,0,none⟩))) {y:AV} {v:Value} (h:VRel w S H y v):VRel w S' H (AV.frz id x y) v:=by
 induction h with
 | any v=>exact .any v
 | d x v h1=>exact .d x v (h1.mono hS)
 | nil=>exact .nil
 | own i v h1 hs=>exact .own i v h1 hs
 | ptr i off b h1=>
  rw [AV.frz];cases hb:(Nat.beq i id && Nat.beq off 0) with
  | false=>exact .ptr i off b h1
  | true=>
   simp only [Bool.and_eq_true] at hb;have e1:=Nat.eq_of_beq_eq_true hb.1;have e2:=Nat.eq_of_beq_eq_true hb.2;subst e1 e2;exact hf b h1
 | eptr i sz j k b o0 n c h1 hi=>exact .eptr i sz j k b o0 n c h1 hi
 | view i sz j n u v h1 hv=>exact .view i sz j n u v h1 hv
 | full bts l ad h1=>exact .full bts l ad (h1.mono hS)
 | addr x b off f hb hcell hrel=>exact .addr x b off f (hS b hb).1 hcell (fun k hk=>(hrel k hk).mono hS)
 | agg l cs hs h ih=>
  refine .agg _ cs (by rw [zcN];exact hs) (fun i hi => ?_);rw [ziE];exact ih i (by rw [zcN] at hi;exact hi)
 | tup l cs hs h ih=>
  refine .tup _ cs (by rw [zcN];exact hs) (fun i hi => ?_);rw [ziE];exact ih i (by rw [zcN] at hi;exact hi)
 | fn f caps cs hs h ih=>
  refine .fn f _ cs (by rw [zcN];exact hs) (fun i hi => ?_);rw [ziE];exact ih i (by rw [zcN] at hi;exact hi)
theorem RelH.freezeAll (r:RelH F σ H a w) {id:Nat} {T:TypeId} {x:D} (he:σ.ent id=some (.box T (avs x))) {σ':St} (hn:σ'.n=σ.n) (hx:σ'.nxt=σ.nxt)
  (hent:∀ j e,σ'.ent j=some e->j≠id/\∃ e0,σ.ent j=some e0/\e=e0.frz id x)
  (hget:∀ k y,σ'.get k=some y->∃ z,σ.get k=some z/\y=z.frz id x):RelH F σ' H a w:=by
 obtain ⟨v,hH,hr⟩:=r.ent id _ he;have hS:∀ c,Sh F.X σ.ent H w c->Sh F.X σ'.ent H w c/\w.heap[c]? =w.heap[c]? :=fun c ⟨hc,hx,ho⟩=>⟨⟨hc,hx,fun j x u h1 h2=>by
  obtain ⟨_,e0,h3,_⟩:=hent j x h1;exact ho j e0 u h3 h2⟩,rfl⟩
 have hSb:∀ b,blk v=some b->Sh F.X σ'.ent H w b:=by
  intro b hb;refine ⟨hr.lt hb,(r.own id _ v b he hH hb).2,fun j x u h1 h2 h3 => ?_⟩;obtain ⟨hj,e0,h4,_⟩:=hent j x h1;exact hj (r.inj id j _ e0 v u b he h4 hH h2 hb h3).symm
 have hf:∀ b,H id=some (.pointer (some ⟨b,0,none⟩))->VRel w (Sh F.X σ'.ent H w) H (.addr x) (.pointer (some ⟨b,0,none⟩)):=by
  intro b h;rw [hH] at h;cases h;obtain ⟨cur,hb,hs,hrel⟩:=hr.box_inv
  ·have hlen:(avs x).length=x.cells.length:=by simp [avs]
   refine .addr x b 0 (fun j=>cur.getD j undef) (hSb b rfl) (fun j hj => ?_) (fun j hj => ?_)
   ·rw [Nat.zero_add,cell_of_row w b j cur T (0,0) hb];have:j < cur.size:=by omega
    simp [Array.getD_eq_getD_getElem?, this]
   ·have h1:=hrel j (by rw [hlen];exact hj);have h2:(avs x).getD j default = .d (x.cells.getD j default):=by
     simp [avs,List.getD_eq_getElem?_getD,hj]
    rw [h2] at h1;cases h1 with
    | d _ _ h1=>exact h1.mono hS
 exact {
  size:=r.size.trans hn.symm,defs:=r.defs,os:=r.os,tape:=r.tape,output:=r.output,grow:=r.grow,keep:=r.keep,xlt:=r.xlt
  fresh:=fun i h1 h2=>r.fresh i (hx ▸ h1) h2
  pin:=r.pin
  ent:=fun j e h=>by
   obtain ⟨hj,e0,h1,rfl⟩:=hent j e h;obtain ⟨u,hu,hr⟩:=r.ent j e0 h1;refine ⟨u,hu,?_⟩;cases hr with
   | arr E sz bts l v xs hsz hown hbt hcs hrel=>exact .arr E sz bts l _ xs hsz hown hbt hcs (fun i hi j hj=>(hrel i hi j hj).mono hS)
   | box T cells b cur hb hs hrel=>
    refine .box T _ b cur hb (by rw [zcN];exact hs) (fun j hj => ?_);rw [ziE];exact (hrel j (by rw [zcN] at hj;exact hj)).frz hS hf
   | mp T kb vb ks vs b es clock hb g1 g2 hk hv hc=>exact .mp T kb vb ks vs b es clock hb g1 g2 (fun i hi=>(hk i hi).mono hS) (fun i hi=>(hv i hi).mono hS) hc
   | out E bts cs v xs hown hbt hrel=>
    refine .out E bts _ _ xs (by rw [zcN];exact hown) (by rw [zcN];exact hbt) (fun j hj => ?_);rw [ziE];exact (hrel j (by rw [zcN] at hj;exact hj)).frz hS hf
  own:=fun j e u c h1 h2 h3=>by
   obtain ⟨_,e0,h4,_⟩:=hent j e h1;exact r.own j e0 u c h4 h2 h3
  inj:=fun j j' e e' u u' c h1 h2=>by
   obtain ⟨_,e0,h4,_⟩:=hent j e h1;obtain ⟨_,e0',h5,_⟩:=hent j' e' h2;exact r.inj j j' e0 e0' u u' c h4 h5
  slot:=fun k y h=>by
   obtain ⟨z,hz,rfl⟩:=hget k y h;exact (r.slot k z hz).frz hS hf }
end
end Go.Ab
