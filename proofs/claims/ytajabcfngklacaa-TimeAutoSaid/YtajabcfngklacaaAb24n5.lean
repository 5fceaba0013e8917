import Derived.Test.YtajabcfngklacaaAb24n4
import Derived.Laws.MakeOwn
import Derived.Laws.CopyRow
import Derived.Laws.AppendOwnNone
set_option linter.unusedVariables false
set_option linter.unusedSimpArgs false
set_option linter.unusedSectionVars false
namespace Go.Ab
open Enc (enc)
open Go.RowKit (Below)
section
variable {P:Program} {F:Fr} {ops:Array Oper} {σ:St} {K:St->Prop} {o:Oper} {rest:List (Nat×Oper)} {H:Hd} {a:Act} {w:World}
theorem EF.value {post:St->Prop} {v:Value} {w':World} (b:(execOp a.eval o).run P w = .ok (.value v) w') (h:∃ σ',post σ'/\Rel F σ' (a.put o.dst v) w'):
  o.wp P a w (fun c w'=>(∃ u,c=a.put o.dst u)/\∃ σ',post σ'/\Rel F σ' c w') (fun _ _ _=>False):=by
 unfold Oper.wp;rw [b];exact ⟨⟨v,rfl⟩,h⟩
theorem EF.void {post:St->Prop} {w':World} (b:(execOp a.eval o).run P w = .ok .skip w') (h:∃ σ',post σ'/\Rel F σ' (a.put o.dst undef) w'):
  o.wp P a w (fun c w'=>(∃ u,c=a.put o.dst u)/\∃ σ',post σ'/\Rel F σ' c w') (fun _ _ _=>False):=by
 unfold Oper.wp;rw [b];exact ⟨⟨undef,rfl⟩,h⟩
theorem AL.value {post:St->Prop} {v:Value} {w':World} (b:(execOp a.eval o).run P w = .ok (.value v) w') (d:Ext w w') (h:∃ σ',post σ'/\Rel F σ' (a.put o.dst v) w'):
  o.wp P a w (fun c w'=>(∃ u,c=a.put o.dst u)/\Ext w w'/\∃ σ',post σ'/\Rel F σ' c w') (fun _ _ _=>False):=by
 unfold Oper.wp;rw [b];exact ⟨⟨v,rfl⟩,d,h⟩
def Hd.add (H:Hd) (id:Nat) (v:Value):Hd:=fun j=>if j=id then some v else H j
theorem Hd.add_new (H:Hd) (id:Nat) (v:Value):H.add id v id=some v:=by simp [Hd.add]
theorem Hd.add_old {H:Hd} {id:Nat} {v:Value} (b:H id=none) (j:Nat) (u:Value) (h:H j=some u):H.add id v j=some u:=by
 unfold Hd.add;by_cases a:j=id
 ·subst a;rw [b] at h;cases h
 ·rw [if_neg a];exact h
theorem Hd.add_inv {H:Hd} {id j:Nat} {v u:Value} (h:H.add id v j=some u):(j=id/\u=v)\/(j≠id/\H j=some u):=by
 unfold Hd.add at h;by_cases a:j=id
 ·rw [if_pos a] at h;cases h;exact .inl ⟨a,rfl⟩
 ·rw [if_neg a] at h;exact .inr ⟨a,h⟩
theorem RelH.renew (r:RelH F σ H a w) {old:Option Nat} {e:Ent} {v:Value} {w':World} (A:σ.nxt < LIM)
  (R:w'.os=w.os) (S:w'.tape=w.tape) (T:w'.output=w.output) (E:w.heap.size<=w'.heap.size)
  (t:∀ b,b < w.heap.size->(∀ id u,old=some id->H id=some u->blk u≠some b)->w'.heap[b]? =w.heap[b]?)
  (n:∀ id,old=some id->∃ e,σ.ent id=some e)
  (N:∀ b,blk v=some b->w.heap.size<=b\/∃ id u,old=some id/\H id=some u/\blk u=some b)
  (Z:EntRel w' (Sh F.X σ.ent H w) H e v):
  RelH F ((match old with | some id=>σ.put id none | none=>σ).new e) (H.add σ.nxt v) a w':=by
 have Q:H σ.nxt=none:=r.fresh0 _ (Nat.le_refl _) A;generalize z:(match old with | some id=>σ.put id none | none=>σ)=σ1;have I:σ1.nxt=σ.nxt:=by subst z;cases old<;>rfl
 have V:σ1.n=σ.n:=by subst z;cases old<;>rfl
 have J:∀ k,σ1.get k=σ.get k:=by subst z;intro k;cases old<;>rfl
 have L:∀ id e,σ1.ent id=some e->σ.ent id=some e/\old≠some id:=by
  subst z;intro id e h;cases old with
  | none=>exact ⟨h,by simp⟩
  | some k=>
   simp only [St.ent_put] at h;by_cases C:k=id
   ·rw [if_pos C] at h;cases h
   ·rw [if_neg C] at h;exact ⟨h,by simpa using C⟩
 have o:∀ id e',(σ1.new e).ent id=some e'->(id=σ.nxt/\e'=e)\/(id≠σ.nxt/\σ.ent id=some e'/\old≠some id):=by
  intro id e' h;rw [St.ent_new,I] at h;by_cases C:σ.nxt=id
  ·rw [if_pos C] at h;cases h;exact .inl ⟨C.symm,rfl⟩
  ·rw [if_neg C] at h;exact .inr ⟨fun h=>C h.symm,L id e' h⟩
 have g:∀ id e' u b,σ.ent id=some e'->old≠some id->H id=some u->blk u=some b->∀ c B,old=some c->H c=some B->blk B≠some b:=by
  intro id e' u b d f l p c B m s q;obtain ⟨e0,j⟩:=n c m;have:=r.inj id c e' e0 u B b d j l s p q;subst this;exact f m
 have W:∀ b,Sh F.X σ.ent H w b->Sh F.X (σ1.new e).ent (H.add σ.nxt v) w' b/\w'.heap[b]? =w.heap[b]? :=by
  intro b ⟨y,U,D⟩;refine ⟨⟨Nat.lt_of_lt_of_le y E,U,?_⟩,t b y fun id u d f l => ?_⟩
  ·intro id e' u d f l;rcases o id e' d with ⟨rfl,rfl⟩ | ⟨hne,p,_⟩
   ·rw [Hd.add_new] at f;cases f;rcases N b l with h | ⟨id,u,m,s,q⟩
    ·omega
    ·obtain ⟨e0,j⟩:=n id m;exact D id e0 u j s q
   ·rcases Hd.add_inv f with ⟨h,_⟩ | ⟨_,m⟩
    ·exact hne h
    ·exact D id e' u p m l
  ·obtain ⟨e0,j⟩:=n id d;exact D id e0 u j f l
 have M:∀ id e' u b,σ.ent id=some e'->H id=some u->blk u=some b->b < w.heap.size:=by
  intro id e' u b d f l;obtain ⟨v',p,m⟩:=r.ent id e' d;rw [f] at p;cases p;exact m.lt l
 constructor
 ·exact r.size.trans V.symm
 ·exact r.defs
 ·exact R.trans r.os
 ·exact S.trans r.tape
 ·exact T.trans r.output
 ·exact Nat.le_trans r.grow E
 ·intro b y D;rw [<- r.keep b y D];refine t b (Nat.lt_of_lt_of_le y r.grow) fun id u d f l => ?_
  obtain ⟨e0,j⟩:=n id d;rcases (r.own id e0 u b j f l).1 with h | h
  ·omega
  ·exact D h
 ·exact r.xlt
 ·intro id d f;have d:σ1.nxt+1<=bs id:=d;have:id≠σ.nxt:=fun e=>by subst e;rw [zwR A] at d;omega
  unfold Hd.add;rw [if_neg this];exact r.fresh id (by omega) f
 ·intro id d;have:id≠σ.nxt:=fun e=>by have:=znl d;omega
  unfold Hd.add;rw [if_neg this];exact r.pin id d
 ·intro id e' h;rcases o id e' h with ⟨rfl,rfl⟩ | ⟨hne,p,m⟩
  ·exact ⟨v,Hd.add_new _ _ _,Z.mono (fun b y=>⟨(W b y).1,rfl⟩) (Hd.add_old Q) (fun _ _=>rfl)⟩
  ·obtain ⟨u,X,Y⟩:=r.ent id e' p;exact ⟨u,Hd.add_old Q _ _ X,Y.mono W (Hd.add_old Q) fun b y=>t b (Y.lt y) (g id e' u b p m X y)⟩
 ·intro id e' u b d f l;rcases o id e' d with ⟨rfl,rfl⟩ | ⟨hne,p,m⟩
  ·rw [Hd.add_new] at f;cases f;rcases N b l with h | ⟨id,u,m,s,q⟩
   ·exact ⟨.inl (Nat.le_trans r.grow h),fun U=>by have:=r.xlt b U;have:=r.grow;omega⟩
   ·obtain ⟨e0,j⟩:=n id m;exact r.own id e0 u b j s q
  ·rcases Hd.add_inv f with ⟨h,_⟩ | ⟨_,s⟩
   ·exact absurd h hne
   ·exact r.own id e' u b p s l
 ·intro id c O P u B b d f l p m s;rcases o id O d with ⟨rfl,rfl⟩ | ⟨hne,g1,g2⟩<;>rcases o c P f with ⟨rfl,rfl⟩ | ⟨hne',g3,g4⟩
  ·rfl
  ·exfalso;rw [Hd.add_new] at l;cases l;rcases Hd.add_inv p with ⟨h,_⟩ | ⟨_,q⟩
   ·exact hne' h
   ·have:=M c P B b g3 q s;rcases N b m with h | ⟨i,x,g5,g6,g7⟩
    ·omega
    ·exact g c P B b g3 g4 q s i x g5 g6 g7
  ·exfalso;rw [Hd.add_new] at p;cases p;rcases Hd.add_inv l with ⟨h,_⟩ | ⟨_,q⟩
   ·exact hne h
   ·have:=M id O u b g1 q m;rcases N b s with h | ⟨i,x,g5,g6,g7⟩
    ·omega
    ·exact g id O u b g1 g2 q m i x g5 g6 g7
  ·rcases Hd.add_inv l with ⟨h,_⟩ | ⟨_,q⟩
   ·exact absurd h hne
   ·rcases Hd.add_inv p with ⟨h,_⟩ | ⟨_,h8⟩
    ·exact absurd h hne'
    ·exact r.inj id c O P u B b g1 g3 q h8 m s
 ·intro k x h;rw [St.get_new,J] at h;exact (r.slot k x h).mono W (Hd.add_old Q)
theorem RelH.upd (r:RelH F σ H a w) {id b:Nat} {e e':Ent} {v:Value} {w':World} (s:σ.ent id=some e) (t:H id=some v) (A:blk v=some b)
  (g:w.grownBy w' (some b)) (l:EntRel w' (Sh F.X σ.ent H w) H e' v):RelH F (σ.put id (some e')) H a w':=by
 have i:∀ j x,(σ.put id (some e')).ent j=some x->(j=id/\x=e')\/(j≠id/\σ.ent j=some x):=by
  intro j x h;rw [St.ent_put] at h;by_cases z:id=j
  ·rw [if_pos z] at h;cases h;exact .inl ⟨z.symm,rfl⟩
  ·rw [if_neg z] at h;exact .inr ⟨fun h=>z h.symm,h⟩
 have d:∀ j x,(σ.put id (some e')).ent j=some x->∃ y,σ.ent j=some y:=by
  intro j x h;rcases i j x h with ⟨rfl,_⟩ | ⟨_,h⟩
  ·exact ⟨e,s⟩
  ·exact ⟨x,h⟩
 have C:∀ c,Sh F.X σ.ent H w c->Sh F.X (σ.put id (some e')).ent H w' c/\w'.heap[c]? =w.heap[c]? :=by
  intro c ⟨f,hx,p⟩;refine ⟨⟨Nat.lt_of_lt_of_le f g.size,hx,fun j x u m n o => ?_⟩,g.block c f ?_⟩
  ·obtain ⟨y,q⟩:=d j x m;exact p j y u q n o
  ·intro h;exact p id e v s t (A.trans h.symm)
 constructor
 ·exact r.size
 ·exact r.defs
 ·exact g.os.trans r.os
 ·exact g.tape.trans r.tape
 ·exact g.output.trans r.output
 ·exact Nat.le_trans r.grow g.size
 ·intro c f p;rw [<- r.keep c f p];refine g.block c (Nat.lt_of_lt_of_le f r.grow) fun h => ?_
  cases h;rcases (r.own id e v b s t A).1 with h | h
  ·omega
  ·exact p h
 ·exact r.xlt
 ·exact r.fresh
 ·exact r.pin
 ·intro j x h;rcases i j x h with ⟨rfl,rfl⟩ | ⟨hne,h⟩
  ·exact ⟨v,t,l.mono (fun c f=>⟨(C c f).1,rfl⟩) (fun _ _ h=>h) (fun _ _=>rfl)⟩
  ·obtain ⟨u,I,J⟩:=r.ent j x h;refine ⟨u,I,J.mono C (fun _ _ h=>h) fun c f=>g.block c (J.lt f) fun B => ?_⟩;cases B;exact hne (r.inj j id x e u v b h s I t f A)
 ·intro j x u c m n o;obtain ⟨y,q⟩:=d j x m;exact r.own j y u c q n o
 ·intro j E x L u M c m n o N O P;obtain ⟨y,q⟩:=d j x m;obtain ⟨Q,D⟩:=d E L n;exact r.inj j E y Q u M c q D o N O P
 ·intro k x h;exact (r.slot k x h).mono C (fun _ _ h=>h)
theorem RelH.drop (r:RelH F σ H a w) (id:Nat):RelH F (σ.put id none) H a w:=by
 have b:∀ j x,(σ.put id none).ent j=some x->j≠id/\σ.ent j=some x:=by
  intro j x h;rw [St.ent_put] at h;by_cases f:id=j
  ·rw [if_pos f] at h;cases h
  ·rw [if_neg f] at h;exact ⟨fun h=>f h.symm,h⟩
 have l:∀ c,Sh F.X σ.ent H w c->Sh F.X (σ.put id none).ent H w c/\w.heap[c]? =w.heap[c]? :=fun c ⟨hc,hx,ho⟩=>⟨⟨hc,hx,fun j x u d e=>ho j x u (b j x d).2 e⟩,rfl⟩
 exact {
  size:=r.size,defs:=r.defs,os:=r.os,tape:=r.tape,output:=r.output,grow:=r.grow,keep:=r.keep,xlt:=r.xlt,fresh:=r.fresh,pin:=r.pin
  ent:=fun j x h=>by
   obtain ⟨u,o,p⟩:=r.ent j x (b j x h).2;exact ⟨u,o,p.mono l (fun _ _ h=>h) (fun _ _=>rfl)⟩
  own:=fun j x u c d e m=>r.own j x u c (b j x d).2 e m
  inj:=fun j g x i u n c d e=>r.inj j g x i u n c (b j x d).2 (b g i e).2
  slot:=fun k x h=>(r.slot k x h).mono l (fun _ _ h=>h) }
theorem RelH.setAV (r:RelH F σ H a w) {k:Nat} {x:AV} (c:VRel w (Sh F.X σ.ent H w) H x (a.tmps.getD k undef)):RelH F (σ.set k x) H a w:=
 {size:=r.size,defs:=r.defs,os:=r.os,tape:=r.tape,output:=r.output,grow:=r.grow,keep:=r.keep,xlt:=r.xlt,fresh:=r.fresh,pin:=r.pin,ent:=r.ent,own:=r.own,inj:=r.inj
  slot:=fun j y h=>by
   rw [St.get_set] at h;by_cases b:k=j
   ·subst b;rw [if_pos rfl] at h;cases h;exact c
   ·rw [if_neg b] at h;exact r.slot j y h }
theorem RelH.freeze (r:RelH F σ H a w) {k id:Nat} {E sz bts:Nat} {l:List D} (N:σ.get k=some (.own id)) (t:σ.ent id=some (.arr E sz bts l)):RelH F ((σ.put id none).set k (.d (.sl bts l))) H a w:=by
 refine (r.drop id).setAV ?_;have L:=r.slot k _ N;obtain ⟨v,B,M⟩:=r.ent id _ t;have y:∀ b,blk v=some b->b < w.heap.size:=fun b n=>M.lt n
 have Q:∀ c,Sh F.X σ.ent H w c->Sh F.X (σ.put id none).ent H w c/\w.heap[c]? =w.heap[c]? :=by
  intro c ⟨hc,hx,ho⟩;refine ⟨⟨hc,hx,fun j x u d o => ?_⟩,rfl⟩;rw [St.ent_put] at d;by_cases e:id=j
  ·rw [if_pos e] at d;cases d
  ·rw [if_neg e] at d;exact ho j x u d o
 have z:∀ b,blk v=some b->Sh F.X (σ.put id none).ent H w b:=by
  intro b n;refine ⟨y b n,(r.own id _ v b t B n).2,fun j x u d o O => ?_⟩;rw [St.ent_put] at d;by_cases e:id=j
  ·rw [if_pos e] at d;cases d
  ·rw [if_neg e] at d;exact e (r.inj id j _ x v u b t d B o n O)
 generalize a.tmps.getD k undef=u at L;cases L with
 | own _ _ h _=>
  rw [B] at h;cases h;cases M with
  | arr _ _ _ _ _ xs C f I J q=>
   refine .d _ _ ?_;have m:=f;obtain ⟨R,o⟩:=f;rcases o with ⟨rfl,s⟩ | ⟨g,off,cap,cur,rfl,hh,hnc,hcm,hcsz,htake⟩
   ·have:l=[]:=List.length_eq_zero_iff.1 s;subst this;exact .nil _ _ _ (by simp [maxLen]) (fun _=>rfl)
   ·by_cases s:l=[]
    ·subst s;exact .nil _ _ _ hcm (by simp)
    ·have p:0 < l.length:=List.length_pos_iff.2 s;refine .sl _ _ g off cap sz (fun j=>xs.getD j undef) p C (z g rfl) hnc hcm I J (fun j e => ?_) (fun i P j e=>(q i P j e).mono Q);have A:j < xs.length:=by omega
     exact m.cell j _ (by simp [List.getD_eq_getElem?_getD,A])
theorem AW.freeze {E:TypeId} {c:Code} {Q:Exit->St->Prop} {α:Type} [Enc α] {xs:List α} (k id:Nat) (a:σ.get k=some (.own id)) (b:σ.ent id=some (Ent.arrOf E xs))
  (h:AW P F c ((σ.put id none).set k (.d (enc xs))) Q):AW P F c σ Q:=
 AW.weak (fun _ _ ⟨H,r⟩=>⟨H,r.freeze a b⟩) h
def za6:AV->List AV
 | .d x=>avs x
 | .agg l=>l
 | x=>[x]
def AV.isAny:AV->Bool
 | .any=>true
 | _=>false
theorem zkK {S:Nat->Prop} {x:AV} {v:Value} (h:VRel w S H x v) (I:x.isAny=false):v.cells.size=(za6 x).length/\∀ i,i < (za6 x).length->VRel w S H ((za6 x).getD i default) (v.cells.getD i undef):=by
 cases h with
 | any=>cases I
 | d x v h=>
  cases h with
  | lit v h=>
   have:v.cells=#[v]:=by cases v<;>first | rfl | (simp [Value.oneCell'] at h)
   rw [this];refine ⟨rfl,fun i e => ?_⟩;have:i=0:=by simpa [za6,avs,D.cells] using e
   subst this;exact .d _ _ (.lit v h)
  | agg l cs hs h=>
   refine ⟨by simpa [za6,avs,D.cells,Value.cells] using hs,fun i e => ?_⟩;have o:i < l.length:=by simpa [za6,avs,D.cells] using e
   have:=h i o;have J:(za6 (.d (.agg l))).getD i default = .d (l.getD i default):=by simp [za6,avs,D.cells,List.getD_eq_getElem?_getD,o]
   rw [J];exact .d _ _ this
  | nil bts a c A L=>
   refine ⟨rfl,fun i e => ?_⟩;have:i=0:=by simpa [za6,avs,D.cells] using e
   subst this;exact .d _ _ (.nil bts a c A L)
  | sl bts l b off c sz f M B p A N C E g m=>
   refine ⟨rfl,fun i e => ?_⟩;have:i=0:=by simpa [za6,avs,D.cells] using e
   subst this;exact .d _ _ (.sl bts l b off c sz f M B p A N C E g m)
  | ptr x b off f p g m=>
   refine ⟨rfl,fun i e => ?_⟩;have:i=0:=by simpa [za6,avs,D.cells] using e
   subst this;exact .d _ _ (.ptr x b off f p g m)
 | nil=>exact ⟨rfl,fun i e=>by
  have:i=0:=by simpa [za6] using e
  subst this;exact .nil⟩
 | own id v h hs=>
  rcases hs with ⟨s,n,c,rfl⟩ | ⟨b,rfl⟩
  ·exact ⟨rfl,fun i e=>by
   have:i=0:=by simpa [za6] using e
   subst this;exact .own id _ h (.inl ⟨s,n,c,rfl⟩)⟩
  ·exact ⟨rfl,fun i e=>by
   have:i=0:=by simpa [za6] using e
   subst this;exact .own id _ h (.inr ⟨b,rfl⟩)⟩
 | ptr id off b h=>exact ⟨rfl,fun i e=>by
  have:i=0:=by simpa [za6] using e
  subst this;exact .ptr id off b h⟩
 | eptr id sz i k b F n c h e=>exact ⟨rfl,fun i e=>by
  have:i=0:=by simpa [za6] using e
  subst this;exact .eptr id sz _ k b F n c h ‹_›⟩
 | view id sz i n u v h O=>
  rcases O with ⟨t,rfl,y,z⟩ | ⟨b,F,n0,c0,c,a0,t,y,rfl,z⟩
  ·exact ⟨rfl,fun j r=>by
   have:j=0:=by simpa [za6] using r
   subst this;exact .view id sz _ n u _ h (.inl ⟨t,rfl,y,z⟩)⟩
  ·exact ⟨rfl,fun j r=>by
   have:j=0:=by simpa [za6] using r
   subst this;exact .view id sz _ n u _ h (.inr ⟨b,F,n0,c0,c,a0,t,y,rfl,z⟩)⟩
 | full bts l s h=>exact ⟨rfl,fun i e=>by
  have:i=0:=by simpa [za6] using e
  subst this;exact .full bts l s h⟩
 | addr x b off f p g m=>exact ⟨rfl,fun i e=>by
  have:i=0:=by simpa [za6] using e
  subst this;exact .addr x b off f p g m⟩
 | agg l cs hs h=>exact ⟨hs,fun i e=>h i e⟩
 | tup l cs hs h=>exact ⟨rfl,fun i e=>by
  have:i=0:=by simpa [za6] using e
  subst this;exact .tup l cs hs h⟩
 | fn f q cs hs h=>exact ⟨rfl,fun i e=>by
  have:i=0:=by simpa [za6] using e
  subst this;exact .fn f q cs hs h⟩
theorem Ext.alloc (w:World) (a:Obj):Ext w (w.alloc a):=(Below.refl _ _).alloc (Nat.le_refl _) a
theorem zvB (P:Program) (t:TypeId) (v:Value) (w:World):(newVar t v).run P w = .ok ⟨w.heap.size,0,none⟩ (w.alloc (.cells v.cells t)):=rfl
theorem RelH.newBox (r:RelH F σ H a w) (d:σ.nxt < LIM) (T:TypeId) {cs:Array Value} {cells:List AV} (hs:cs.size=cells.length)
  (e:∀ i,i < cells.length->VRel w (Sh F.X σ.ent H w) H (cells.getD i default) (cs.getD i undef)):
  RelH F (σ.new (.box T cells)) (H.add σ.nxt (.pointer (some ⟨w.heap.size,0,none⟩))) a (w.alloc (.cells cs T)):=by
 have f:=Ext.alloc w (.cells cs T);refine r.renew (old:=none) d rfl rfl rfl f.size (fun b c _=>f.block b c) (by simp) (fun b c => .inl ?_) ?_
 ·simp [blk] at c;omega
 ·refine .box T cells w.heap.size cs (heap_alloc_new w _) hs fun j g=>(e j g).mono (fun b c=>⟨c,f.block b c.1⟩) (fun _ _ h=>h)
theorem RelH.newArr (r:RelH F σ H a w) (d:σ.nxt < LIM) (E sz bts:Nat) {cs:Array Value} {l:List D} {cap:Nat} (f:0 < sz) (hs:cs.size=cap * sz) (n:l.length<=cap) (p:cap<=maxLen)
  (g:l.length * bts<=most) (h:∀ i,i < l.length->(l.getD i default).cells.length=sz)
  (e:∀ i,i < l.length->∀ j,j < sz->DRel w (Sh F.X σ.ent H w) ((l.getD i default).cells.getD j default) (cs.getD (i * sz+j) undef)):
  RelH F (σ.new (.arr E sz bts l)) (H.add σ.nxt (.slice (some ⟨w.heap.size,0,none⟩) l.length cap)) a (w.alloc (.cells cs E)):=by
 have k:=Ext.alloc w (.cells cs E);refine r.renew (old:=none) d rfl rfl rfl k.size (fun b c _=>k.block b c) (by simp) (fun b c => .inl ?_) ?_
 ·simp [blk] at c;omega
 ·refine .arr E sz bts l _ (cs.toList.take (l.length * sz)) f ⟨?_,.inr ⟨w.heap.size,0,cap,cs,rfl,heap_alloc_new w _,n,p,by omega,by rw [List.drop_zero]⟩⟩ g h fun i o j q => ?_
  ·have:=Nat.mul_le_mul_right sz n;simp only [List.length_take,Array.length_toList];omega
  ·have m:i * sz+j < l.length * sz:=by
    have t:i * sz+j < (i+1) * sz:=by rw [Nat.add_mul];omega
    have u:(i+1) * sz<=l.length * sz:=Nat.mul_le_mul_right _ o;omega
   have s:(cs.toList.take (l.length * sz)).getD (i * sz+j) undef=cs.getD (i * sz+j) undef:=by
    simp [List.getD_eq_getElem?_getD,m]
   rw [s];exact (e i o j q).mono (fun b c=>⟨c,k.block b c.1⟩)
theorem AL.box {T:TypeId} {x:Operand} {y:AV} {d:Nat} (id:Nat) (b:σ.nxt=id) (c:Nat.blt id LIM=true) (g:o.dst=some d) (e:Nat.blt d σ.n=true) (h:o.op = .box T x) (i:σ.ev x=some y) (j:y.isAny=false):
  AL P F σ o (·=(σ.new (.box T (za6 y))).set d (.ptr id 0)):=by
 subst b;intro a w ⟨H,r⟩;have c:σ.nxt < LIM:=by simpa using c
 obtain ⟨l,m⟩:=zkK (r.ev i) j;have k:=r.newBox c T l m;have f:=k.set (d:=d) (show d < σ.n by simpa using e) (.ptr σ.nxt 0 w.heap.size (Hd.add_new _ _ _));rw [<- g] at f;exact AL.value (by simp [execOp,h,Instr.box,zvB]) (Ext.alloc w _) ⟨_,rfl,_,f⟩
theorem AL.alloc {T:TypeId} {dsc:Bool} {size bytes:Nat} {z:Value} {d:Nat} (id:Nat) (b:σ.nxt=id) (c:Nat.blt id LIM=true) (g:o.dst=some d) (e:Nat.blt d σ.n=true) (h:o.op = .alloc T) (i:TI P T dsc size bytes z) (j:(avc z).isAny=false):
  AL P F σ o (·=(σ.new (.box T (za6 (avc z)))).set d (.ptr id 0)):=by
 subst b;intro a w ⟨H,r⟩;have c:σ.nxt < LIM:=by simpa using c
 obtain ⟨l,m⟩:=zkK (zvL w (Sh F.X σ.ent H w) H z) j;have k:=r.newBox c T l m;have f:=k.set (d:=d) (show d < σ.n by simpa using e) (.ptr σ.nxt 0 w.heap.size (Hd.add_new _ _ _));rw [<- g] at f;exact AL.value (by simp [execOp,h,Instr.alloc,i.zero,zvB]) (Ext.alloc w _) ⟨_,rfl,_,f⟩
end
end Go.Ab
