import Derived.Test.YtmogekkikaelhaaAb24n4
import Derived.Laws.MakeOwn
import Derived.Laws.CopyRow
import Derived.Laws.AppendOwnNone
set_option linter.unusedVariables false
set_option linter.unusedSimpArgs false
set_option linter.unusedSectionVars false
namespace Go.Ab
open Enc (enc)
open Go.RowKit (Below)
section
variable {P:Program} {F:Fr} {ops:Array Oper} {σ:St} {K:St->Prop} {o:Oper} {rest:List (Nat×Oper)} {H:Hd} {a:Act} {w:World}
theorem AO.al1 {σ':St} (hg:gOn ops σ o true) (h:AL P F σ o (·=σ')) (hk:AO P F ops rest σ' K):AO P F ops ((1,o)::rest) σ K:=
 AO.al hg h (fun _ e=>e ▸ hk)
theorem AO.al2 {c:Nat} {σ':St} (hg:gOn ops σ o true) (h:AL P F σ o (·=σ')) (hk:AO P F ops rest σ' K):AO P F ops ((c+2,o)::rest) σ K:=
 AO.ef hg h.ef (fun _ e=>e ▸ hk)
theorem AO.ef1 {c:Nat} {σ':St} (hg:gOn ops σ o true) (h:EF P F σ o (·=σ')) (hk:AO P F ops rest σ' K):AO P F ops ((c+2,o)::rest) σ K:=
 AO.ef hg h (fun _ e=>e ▸ hk)
theorem EF.value {post:St->Prop} {v:Value} {w':World} (hrun:(execOp a.eval o).run P w = .ok (.value v) w') (h:∃ σ',post σ'/\Rel F σ' (a.put o.dst v) w'):
  o.wp P a w (fun a' w'=>(∃ u,a'=a.put o.dst u)/\∃ σ',post σ'/\Rel F σ' a' w') (fun _ _ _=>False):=by
 unfold Oper.wp;rw [hrun];exact ⟨⟨v,rfl⟩,h⟩
theorem EF.void {post:St->Prop} {w':World} (hrun:(execOp a.eval o).run P w = .ok .skip w') (h:∃ σ',post σ'/\Rel F σ' (a.put o.dst undef) w'):
  o.wp P a w (fun a' w'=>(∃ u,a'=a.put o.dst u)/\∃ σ',post σ'/\Rel F σ' a' w') (fun _ _ _=>False):=by
 unfold Oper.wp;rw [hrun];exact ⟨⟨undef,rfl⟩,h⟩
theorem AL.value {post:St->Prop} {v:Value} {w':World} (hrun:(execOp a.eval o).run P w = .ok (.value v) w') (he:Ext w w') (h:∃ σ',post σ'/\Rel F σ' (a.put o.dst v) w'):
  o.wp P a w (fun a' w'=>(∃ u,a'=a.put o.dst u)/\Ext w w'/\∃ σ',post σ'/\Rel F σ' a' w') (fun _ _ _=>False):=by
 unfold Oper.wp;rw [hrun];exact ⟨⟨v,rfl⟩,he,h⟩
def Hd.add (H:Hd) (id:Nat) (v:Value):Hd:=fun j=>if j=id then some v else H j
theorem Hd.add_new (H:Hd) (id:Nat) (v:Value):H.add id v id=some v:=by simp [Hd.add]
theorem Hd.add_old {H:Hd} {id:Nat} {v:Value} (hn:H id=none) (j:Nat) (u:Value) (h:H j=some u):H.add id v j=some u:=by
 unfold Hd.add;by_cases hj:j=id
 ·subst hj;rw [hn] at h;cases h
 ·rw [if_neg hj];exact h
theorem Hd.add_inv {H:Hd} {id j:Nat} {v u:Value} (h:H.add id v j=some u):(j=id/\u=v)\/(j≠id/\H j=some u):=by
 unfold Hd.add at h;by_cases hj:j=id
 ·rw [if_pos hj] at h;cases h;exact .inl ⟨hj,rfl⟩
 ·rw [if_neg hj] at h;exact .inr ⟨hj,h⟩
theorem RelH.renew (r:RelH F σ H a w) {old:Option Nat} {e:Ent} {v:Value} {w':World} (hlim:σ.nxt < LIM)
  (hos:w'.os=w.os) (htp:w'.tape=w.tape) (hou:w'.output=w.output) (hsz:w.heap.size<=w'.heap.size)
  (hblk:∀ b,b < w.heap.size->(∀ id u,old=some id->H id=some u->blk u≠some b)->w'.heap[b]? =w.heap[b]?)
  (hold:∀ id,old=some id->∃ e,σ.ent id=some e)
  (hv:∀ b,blk v=some b->w.heap.size<=b\/∃ id u,old=some id/\H id=some u/\blk u=some b)
  (he:EntRel w' (Sh F.X σ.ent H w) H e v):
  RelH F ((match old with | some id=>σ.put id none | none=>σ).new e) (H.add σ.nxt v) a w':=by
 have hn:H σ.nxt=none:=r.fresh0 _ (Nat.le_refl _) hlim;generalize hσ:(match old with | some id=>σ.put id none | none=>σ)=σ1;have hnxt:σ1.nxt=σ.nxt:=by subst hσ;cases old<;>rfl
 have hn1:σ1.n=σ.n:=by subst hσ;cases old<;>rfl
 have hget:∀ k,σ1.get k=σ.get k:=by subst hσ;intro k;cases old<;>rfl
 have hent:∀ id e,σ1.ent id=some e->σ.ent id=some e/\old≠some id:=by
  subst hσ;intro id e h;cases old with
  | none=>exact ⟨h,by simp⟩
  | some k=>
   simp only [St.ent_put] at h;by_cases hk:k=id
   ·rw [if_pos hk] at h;cases h
   ·rw [if_neg hk] at h;exact ⟨h,by simpa using hk⟩
 have hnew:∀ id e',(σ1.new e).ent id=some e'->(id=σ.nxt/\e'=e)\/(id≠σ.nxt/\σ.ent id=some e'/\old≠some id):=by
  intro id e' h;rw [St.ent_new,hnxt] at h;by_cases hk:σ.nxt=id
  ·rw [if_pos hk] at h;cases h;exact .inl ⟨hk.symm,rfl⟩
  ·rw [if_neg hk] at h;exact .inr ⟨fun h=>hk h.symm,hent id e' h⟩
 have hother:∀ id e' u b,σ.ent id=some e'->old≠some id->H id=some u->blk u=some b->∀ id' u',old=some id'->H id'=some u'->blk u'≠some b:=by
  intro id e' u b h1 h2 h3 h4 id' u' h5 h6 h7;obtain ⟨e0,he0⟩:=hold id' h5;have:=r.inj id id' e' e0 u u' b h1 he0 h3 h6 h4 h7;subst this;exact h2 h5
 have hS:∀ b,Sh F.X σ.ent H w b->Sh F.X (σ1.new e).ent (H.add σ.nxt v) w' b/\w'.heap[b]? =w.heap[b]? :=by
  intro b ⟨hb,hx,ho⟩;refine ⟨⟨Nat.lt_of_lt_of_le hb hsz,hx,?_⟩,hblk b hb fun id u h1 h2 h3 => ?_⟩
  ·intro id e' u h1 h2 h3;rcases hnew id e' h1 with ⟨rfl,rfl⟩ | ⟨hne,h4,_⟩
   ·rw [Hd.add_new] at h2;cases h2;rcases hv b h3 with h | ⟨id,u,h5,h6,h7⟩
    ·omega
    ·obtain ⟨e0,he0⟩:=hold id h5;exact ho id e0 u he0 h6 h7
   ·rcases Hd.add_inv h2 with ⟨h,_⟩ | ⟨_,h5⟩
    ·exact hne h
    ·exact ho id e' u h4 h5 h3
  ·obtain ⟨e0,he0⟩:=hold id h1;exact ho id e0 u he0 h2 h3
 have hlt:∀ id e' u b,σ.ent id=some e'->H id=some u->blk u=some b->b < w.heap.size:=by
  intro id e' u b h1 h2 h3;obtain ⟨v',h4,h5⟩:=r.ent id e' h1;rw [h2] at h4;cases h4;exact h5.lt h3
 constructor
 ·exact r.size.trans hn1.symm
 ·exact r.defs
 ·exact hos.trans r.os
 ·exact htp.trans r.tape
 ·exact hou.trans r.output
 ·exact Nat.le_trans r.grow hsz
 ·intro b hb ho;rw [<- r.keep b hb ho];refine hblk b (Nat.lt_of_lt_of_le hb r.grow) fun id u h1 h2 h3 => ?_
  obtain ⟨e0,he0⟩:=hold id h1;rcases (r.own id e0 u b he0 h2 h3).1 with h | h
  ·omega
  ·exact ho h
 ·exact r.xlt
 ·intro id h1 h2;have h1:σ1.nxt+1<=bs id:=h1;have:id≠σ.nxt:=fun e=>by subst e;rw [znv hlim] at h1;omega
  unfold Hd.add;rw [if_neg this];exact r.fresh id (by omega) h2
 ·intro id h1;have:id≠σ.nxt:=fun e=>by have:=zeK h1;omega
  unfold Hd.add;rw [if_neg this];exact r.pin id h1
 ·intro id e' h;rcases hnew id e' h with ⟨rfl,rfl⟩ | ⟨hne,h4,h5⟩
  ·exact ⟨v,Hd.add_new _ _ _,he.mono (fun b hb=>⟨(hS b hb).1,rfl⟩) (Hd.add_old hn) (fun _ _=>rfl)⟩
  ·obtain ⟨u,hu,hr⟩:=r.ent id e' h4;exact ⟨u,Hd.add_old hn _ _ hu,hr.mono hS (Hd.add_old hn) fun b hb=>hblk b (hr.lt hb) (hother id e' u b h4 h5 hu hb)⟩
 ·intro id e' u b h1 h2 h3;rcases hnew id e' h1 with ⟨rfl,rfl⟩ | ⟨hne,h4,h5⟩
  ·rw [Hd.add_new] at h2;cases h2;rcases hv b h3 with h | ⟨id,u,h5,h6,h7⟩
   ·exact ⟨.inl (Nat.le_trans r.grow h),fun hx=>by have:=r.xlt b hx;have:=r.grow;omega⟩
   ·obtain ⟨e0,he0⟩:=hold id h5;exact r.own id e0 u b he0 h6 h7
  ·rcases Hd.add_inv h2 with ⟨h,_⟩ | ⟨_,h6⟩
   ·exact absurd h hne
   ·exact r.own id e' u b h4 h6 h3
 ·intro id id' e1 e2 u u' b h1 h2 h3 h4 h5 h6;rcases hnew id e1 h1 with ⟨rfl,rfl⟩ | ⟨hne,g1,g2⟩<;>rcases hnew id' e2 h2 with ⟨rfl,rfl⟩ | ⟨hne',g3,g4⟩
  ·rfl
  ·exfalso;rw [Hd.add_new] at h3;cases h3;rcases Hd.add_inv h4 with ⟨h,_⟩ | ⟨_,h7⟩
   ·exact hne' h
   ·have:=hlt id' e2 u' b g3 h7 h6;rcases hv b h5 with h | ⟨i,x,g5,g6,g7⟩
    ·omega
    ·exact hother id' e2 u' b g3 g4 h7 h6 i x g5 g6 g7
  ·exfalso;rw [Hd.add_new] at h4;cases h4;rcases Hd.add_inv h3 with ⟨h,_⟩ | ⟨_,h7⟩
   ·exact hne h
   ·have:=hlt id e1 u b g1 h7 h5;rcases hv b h6 with h | ⟨i,x,g5,g6,g7⟩
    ·omega
    ·exact hother id e1 u b g1 g2 h7 h5 i x g5 g6 g7
  ·rcases Hd.add_inv h3 with ⟨h,_⟩ | ⟨_,h7⟩
   ·exact absurd h hne
   ·rcases Hd.add_inv h4 with ⟨h,_⟩ | ⟨_,h8⟩
    ·exact absurd h hne'
    ·exact r.inj id id' e1 e2 u u' b g1 g3 h7 h8 h5 h6
 ·intro k x h;rw [St.get_new,hget] at h;exact (r.slot k x h).mono hS (Hd.add_old hn)
theorem RelH.upd (r:RelH F σ H a w) {id b:Nat} {e e':Ent} {v:Value} {w':World} (he:σ.ent id=some e) (hH:H id=some v) (hb:blk v=some b)
  (hg:w.grownBy w' (some b)) (hnew:EntRel w' (Sh F.X σ.ent H w) H e' v):RelH F (σ.put id (some e')) H a w':=by
 have hent:∀ j x,(σ.put id (some e')).ent j=some x->(j=id/\x=e')\/(j≠id/\σ.ent j=some x):=by
  intro j x h;rw [St.ent_put] at h;by_cases hk:id=j
  ·rw [if_pos hk] at h;cases h;exact .inl ⟨hk.symm,rfl⟩
  ·rw [if_neg hk] at h;exact .inr ⟨fun h=>hk h.symm,h⟩
 have hent':∀ j x,(σ.put id (some e')).ent j=some x->∃ y,σ.ent j=some y:=by
  intro j x h;rcases hent j x h with ⟨rfl,_⟩ | ⟨_,h⟩
  ·exact ⟨e,he⟩
  ·exact ⟨x,h⟩
 have hS:∀ c,Sh F.X σ.ent H w c->Sh F.X (σ.put id (some e')).ent H w' c/\w'.heap[c]? =w.heap[c]? :=by
  intro c ⟨hc,hx,ho⟩;refine ⟨⟨Nat.lt_of_lt_of_le hc hg.size,hx,fun j x u h1 h2 h3 => ?_⟩,hg.block c hc ?_⟩
  ·obtain ⟨y,hy⟩:=hent' j x h1;exact ho j y u hy h2 h3
  ·intro h;exact ho id e v he hH (hb.trans h.symm)
 constructor
 ·exact r.size
 ·exact r.defs
 ·exact hg.os.trans r.os
 ·exact hg.tape.trans r.tape
 ·exact hg.output.trans r.output
 ·exact Nat.le_trans r.grow hg.size
 ·intro c hc ho;rw [<- r.keep c hc ho];refine hg.block c (Nat.lt_of_lt_of_le hc r.grow) fun h => ?_
  cases h;rcases (r.own id e v b he hH hb).1 with h | h
  ·omega
  ·exact ho h
 ·exact r.xlt
 ·exact r.fresh
 ·exact r.pin
 ·intro j x h;rcases hent j x h with ⟨rfl,rfl⟩ | ⟨hne,h⟩
  ·exact ⟨v,hH,hnew.mono (fun c hc=>⟨(hS c hc).1,rfl⟩) (fun _ _ h=>h) (fun _ _=>rfl)⟩
  ·obtain ⟨u,hu,hr⟩:=r.ent j x h;refine ⟨u,hu,hr.mono hS (fun _ _ h=>h) fun c hc=>hg.block c (hr.lt hc) fun hcb => ?_⟩;cases hcb;exact hne (r.inj j id x e u v b h he hu hH hc hb)
 ·intro j x u c h1 h2 h3;obtain ⟨y,hy⟩:=hent' j x h1;exact r.own j y u c hy h2 h3
 ·intro j j' x x' u u' c h1 h2 h3 h4 h5 h6;obtain ⟨y,hy⟩:=hent' j x h1;obtain ⟨y',hy'⟩:=hent' j' x' h2;exact r.inj j j' y y' u u' c hy hy' h3 h4 h5 h6
 ·intro k x h;exact (r.slot k x h).mono hS (fun _ _ h=>h)
theorem RelH.drop (r:RelH F σ H a w) (id:Nat):RelH F (σ.put id none) H a w:=by
 have hent:∀ j x,(σ.put id none).ent j=some x->j≠id/\σ.ent j=some x:=by
  intro j x h;rw [St.ent_put] at h;by_cases hk:id=j
  ·rw [if_pos hk] at h;cases h
  ·rw [if_neg hk] at h;exact ⟨fun h=>hk h.symm,h⟩
 have hS:∀ c,Sh F.X σ.ent H w c->Sh F.X (σ.put id none).ent H w c/\w.heap[c]? =w.heap[c]? :=fun c ⟨hc,hx,ho⟩=>⟨⟨hc,hx,fun j x u h1 h2=>ho j x u (hent j x h1).2 h2⟩,rfl⟩
 exact {
  size:=r.size,defs:=r.defs,os:=r.os,tape:=r.tape,output:=r.output,grow:=r.grow,keep:=r.keep,xlt:=r.xlt,fresh:=r.fresh,pin:=r.pin
  ent:=fun j x h=>by
   obtain ⟨u,hu,hr⟩:=r.ent j x (hent j x h).2;exact ⟨u,hu,hr.mono hS (fun _ _ h=>h) (fun _ _=>rfl)⟩
  own:=fun j x u c h1 h2 h3=>r.own j x u c (hent j x h1).2 h2 h3
  inj:=fun j j' x x' u u' c h1 h2=>r.inj j j' x x' u u' c (hent j x h1).2 (hent j' x' h2).2
  slot:=fun k x h=>(r.slot k x h).mono hS (fun _ _ h=>h) }
theorem RelH.setAV (r:RelH F σ H a w) {k:Nat} {x:AV} (hx:VRel w (Sh F.X σ.ent H w) H x (a.tmps.getD k undef)):RelH F (σ.set k x) H a w:=
 {size:=r.size,defs:=r.defs,os:=r.os,tape:=r.tape,output:=r.output,grow:=r.grow,keep:=r.keep,xlt:=r.xlt,fresh:=r.fresh,pin:=r.pin,ent:=r.ent,own:=r.own,inj:=r.inj
  slot:=fun j y h=>by
   rw [St.get_set] at h;by_cases hk:k=j
   ·subst hk;rw [if_pos rfl] at h;cases h;exact hx
   ·rw [if_neg hk] at h;exact r.slot j y h }
theorem RelH.freeze (r:RelH F σ H a w) {k id:Nat} {E sz bts:Nat} {l:List D} (hk:σ.get k=some (.own id)) (he:σ.ent id=some (.arr E sz bts l)):RelH F ((σ.put id none).set k (.d (.sl bts l))) H a w:=by
 refine (r.drop id).setAV ?_;have hv:=r.slot k _ hk;obtain ⟨v,hH,hr⟩:=r.ent id _ he;have hlt:∀ b,blk v=some b->b < w.heap.size:=fun b hb=>hr.lt hb
 have hS:∀ c,Sh F.X σ.ent H w c->Sh F.X (σ.put id none).ent H w c/\w.heap[c]? =w.heap[c]? :=by
  intro c ⟨hc,hx,ho⟩;refine ⟨⟨hc,hx,fun j x u h1 h2 => ?_⟩,rfl⟩;rw [St.ent_put] at h1;by_cases hj:id=j
  ·rw [if_pos hj] at h1;cases h1
  ·rw [if_neg hj] at h1;exact ho j x u h1 h2
 have hSb:∀ b,blk v=some b->Sh F.X (σ.put id none).ent H w b:=by
  intro b hb;refine ⟨hlt b hb,(r.own id _ v b he hH hb).2,fun j x u h1 h2 h3 => ?_⟩;rw [St.ent_put] at h1;by_cases hj:id=j
  ·rw [if_pos hj] at h1;cases h1
  ·rw [if_neg hj] at h1;exact hj (r.inj id j _ x v u b he h1 hH h2 hb h3)
 generalize a.tmps.getD k undef=u at hv;cases hv with
 | own _ _ h _=>
  rw [hH] at h;cases h;cases hr with
  | arr _ _ _ _ _ xs hsz hown hbt hcs hrel=>
   refine .d _ _ ?_;have hown0:=hown;obtain ⟨hxl,h2⟩:=hown;rcases h2 with ⟨rfl,h0⟩ | ⟨g,off,cap,cur,rfl,hh,hnc,hcm,hcsz,htake⟩
   ·have:l=[]:=List.length_eq_zero_iff.1 h0;subst this;exact .nil _ _ _ (by simp [maxLen]) (fun _=>rfl)
   ·by_cases h0:l=[]
    ·subst h0;exact .nil _ _ _ hcm (by simp)
    ·have hpos:0 < l.length:=List.length_pos_iff.2 h0;refine .sl _ _ g off cap sz (fun j=>xs.getD j undef) hpos hsz (hSb g rfl) hnc hcm hbt hcs (fun j hj => ?_) (fun i hi j hj=>(hrel i hi j hj).mono hS);have hjx:j < xs.length:=by omega
     exact hown0.cell j _ (by simp [List.getD_eq_getElem?_getD,hjx])
theorem AO.freeze {E:TypeId} {l:List (Nat×Oper)} {α:Type} [Enc α] {xs:List α} (k id:Nat) (hk:σ.get k=some (.own id)) (he:σ.ent id=some (Ent.arrOf E xs))
  (h:AO P F ops l ((σ.put id none).set k (.d (enc xs))) K):AO P F ops l σ K:=
 AO.weak (fun _ _ ⟨H,r⟩=>⟨H,r.freeze hk he⟩) h
theorem AW.freeze {E:TypeId} {c:Code} {Q:Exit->St->Prop} {α:Type} [Enc α] {xs:List α} (k id:Nat) (hk:σ.get k=some (.own id)) (he:σ.ent id=some (Ent.arrOf E xs))
  (h:AW P F c ((σ.put id none).set k (.d (enc xs))) Q):AW P F c σ Q:=
 AW.weak (fun _ _ ⟨H,r⟩=>⟨H,r.freeze hk he⟩) h
theorem AO.nild {l:List (Nat×Oper)} (α:Type) [Enc α] (k:Nat) (hk:σ.get k=some .nil) (h:AO P F ops l (σ.set k (.d (enc ([]:List α)))) K):AO P F ops l σ K:=
 AO.weak (fun a w ⟨H,r⟩=>⟨H,r.setAV (by
  have hv:=r.slot k _ hk;generalize a.tmps.getD k undef=u at hv;cases hv;exact .d _ _ (.nil _ _ _ (by simp [maxLen]) (fun _=>rfl)))⟩) h
theorem AW.nild {c:Code} {Q:Exit->St->Prop} (α:Type) [Enc α] (k:Nat) (hk:σ.get k=some .nil) (h:AW P F c (σ.set k (.d (enc ([]:List α)))) Q):AW P F c σ Q:=
 AW.weak (fun a w ⟨H,r⟩=>⟨H,r.setAV (by
  have hv:=r.slot k _ hk;generalize a.tmps.getD k undef=u at hv;cases hv;exact .d _ _ (.nil _ _ _ (by simp [maxLen]) (fun _=>rfl)))⟩) h
theorem AO.fact {l:List (Nat×Oper)} {α:Type} [Enc α] {xs:List α} (k:Nat) (hk:σ.get k=some (.d (enc xs))) (h:xs.length * Enc.bts α<=most->AO P F ops l σ K):AO P F ops l σ K:=by
 intro a w Q r hq;obtain ⟨H,r⟩:=r;refine h ?_ a w Q ⟨H,r⟩ hq;have hv:=r.slot k _ hk;cases hv with
 | d _ _ h=>have:=DRel.sl_bound h;simpa using this
theorem AW.fact {c:Code} {Q:Exit->St->Prop} {α:Type} [Enc α] {xs:List α} (k:Nat) (hk:σ.get k=some (.d (enc xs))) (h:xs.length * Enc.bts α<=most->AW P F c σ Q):AW P F c σ Q:=by
 intro a w r;obtain ⟨H,r⟩:=r;refine h ?_ a w ⟨H,r⟩;have hv:=r.slot k _ hk;cases hv with
 | d _ _ h=>have:=DRel.sl_bound h;simpa using this
def zap:AV->List AV
 | .d x=>avs x
 | .agg l=>l
 | x=>[x]
def AV.isAny:AV->Bool
 | .any=>true
 | _=>false
theorem zda {S:Nat->Prop} {x:AV} {v:Value} (h:VRel w S H x v) (hx:x.isAny=false):v.cells.size=(zap x).length/\∀ i,i < (zap x).length->VRel w S H ((zap x).getD i default) (v.cells.getD i undef):=by
 cases h with
 | any=>cases hx
 | d x v h=>
  cases h with
  | lit v h=>
   have:v.cells=#[v]:=by cases v<;>first | rfl | (simp [Value.oneCell'] at h)
   rw [this];refine ⟨rfl,fun i hi => ?_⟩;have:i=0:=by simpa [zap,avs,D.cells] using hi
   subst this;exact .d _ _ (.lit v h)
  | agg l cs hs h=>
   refine ⟨by simpa [zap,avs,D.cells,Value.cells] using hs,fun i hi => ?_⟩;have hi':i < l.length:=by simpa [zap,avs,D.cells] using hi
   have:=h i hi';have he:(zap (.d (.agg l))).getD i default = .d (l.getD i default):=by simp [zap,avs,D.cells,List.getD_eq_getElem?_getD,hi']
   rw [he];exact .d _ _ this
  | nil bts a c hc hn=>
   refine ⟨rfl,fun i hi => ?_⟩;have:i=0:=by simpa [zap,avs,D.cells] using hi
   subst this;exact .d _ _ (.nil bts a c hc hn)
  | sl bts l b off c sz f h0 hsz hb hc hm hbt hcs hcell hrel=>
   refine ⟨rfl,fun i hi => ?_⟩;have:i=0:=by simpa [zap,avs,D.cells] using hi
   subst this;exact .d _ _ (.sl bts l b off c sz f h0 hsz hb hc hm hbt hcs hcell hrel)
  | ptr x b off f hb hcell hrel=>
   refine ⟨rfl,fun i hi => ?_⟩;have:i=0:=by simpa [zap,avs,D.cells] using hi
   subst this;exact .d _ _ (.ptr x b off f hb hcell hrel)
 | nil=>exact ⟨rfl,fun i hi=>by
  have:i=0:=by simpa [zap] using hi
  subst this;exact .nil⟩
 | own id v h hs=>
  rcases hs with ⟨ad,n,c,rfl⟩ | ⟨b,rfl⟩
  ·exact ⟨rfl,fun i hi=>by
   have:i=0:=by simpa [zap] using hi
   subst this;exact .own id _ h (.inl ⟨ad,n,c,rfl⟩)⟩
  ·exact ⟨rfl,fun i hi=>by
   have:i=0:=by simpa [zap] using hi
   subst this;exact .own id _ h (.inr ⟨b,rfl⟩)⟩
 | ptr id off b h=>exact ⟨rfl,fun i hi=>by
  have:i=0:=by simpa [zap] using hi
  subst this;exact .ptr id off b h⟩
 | eptr id sz i k b o0 n c h hi=>exact ⟨rfl,fun i hi=>by
  have:i=0:=by simpa [zap] using hi
  subst this;exact .eptr id sz _ k b o0 n c h ‹_›⟩
 | view id sz i n u v h hv=>
  rcases hv with ⟨e1,rfl,e2,e3⟩ | ⟨b,o0,n0,c0,c,a0,e1,e2,rfl,e3⟩
  ·exact ⟨rfl,fun j hj=>by
   have:j=0:=by simpa [zap] using hj
   subst this;exact .view id sz _ n u _ h (.inl ⟨e1,rfl,e2,e3⟩)⟩
  ·exact ⟨rfl,fun j hj=>by
   have:j=0:=by simpa [zap] using hj
   subst this;exact .view id sz _ n u _ h (.inr ⟨b,o0,n0,c0,c,a0,e1,e2,rfl,e3⟩)⟩
 | full bts l ad h=>exact ⟨rfl,fun i hi=>by
  have:i=0:=by simpa [zap] using hi
  subst this;exact .full bts l ad h⟩
 | addr x b off f hb hcell hrel=>exact ⟨rfl,fun i hi=>by
  have:i=0:=by simpa [zap] using hi
  subst this;exact .addr x b off f hb hcell hrel⟩
 | agg l cs hs h=>exact ⟨hs,fun i hi=>h i hi⟩
 | tup l cs hs h=>exact ⟨rfl,fun i hi=>by
  have:i=0:=by simpa [zap] using hi
  subst this;exact .tup l cs hs h⟩
 | fn f caps cs hs h=>exact ⟨rfl,fun i hi=>by
  have:i=0:=by simpa [zap] using hi
  subst this;exact .fn f caps cs hs h⟩
theorem Ext.alloc (w:World) (ob:Obj):Ext w (w.alloc ob):=(Below.refl _ _).alloc (Nat.le_refl _) ob
theorem zmj (P:Program) (t:TypeId) (v:Value) (w:World):(newVar t v).run P w = .ok ⟨w.heap.size,0,none⟩ (w.alloc (.cells v.cells t)):=rfl
theorem RelH.newBox (r:RelH F σ H a w) (hlim:σ.nxt < LIM) (T:TypeId) {cs:Array Value} {cells:List AV} (hs:cs.size=cells.length)
  (hrel:∀ i,i < cells.length->VRel w (Sh F.X σ.ent H w) H (cells.getD i default) (cs.getD i undef)):
  RelH F (σ.new (.box T cells)) (H.add σ.nxt (.pointer (some ⟨w.heap.size,0,none⟩))) a (w.alloc (.cells cs T)):=by
 have he:=Ext.alloc w (.cells cs T);refine r.renew (old:=none) hlim rfl rfl rfl he.size (fun b hb _=>he.block b hb) (by simp) (fun b hb => .inl ?_) ?_
 ·simp [blk] at hb;omega
 ·refine .box T cells w.heap.size cs (heap_alloc_new w _) hs fun j hj=>(hrel j hj).mono (fun b hb=>⟨hb,he.block b hb.1⟩) (fun _ _ h=>h)
theorem RelH.newArr (r:RelH F σ H a w) (hlim:σ.nxt < LIM) (E sz bts:Nat) {cs:Array Value} {l:List D} {cap:Nat} (hsz:0 < sz) (hs:cs.size=cap * sz) (hc:l.length<=cap) (hm:cap<=maxLen)
  (hbt:l.length * bts<=most) (hcs:∀ i,i < l.length->(l.getD i default).cells.length=sz)
  (hrel:∀ i,i < l.length->∀ j,j < sz->DRel w (Sh F.X σ.ent H w) ((l.getD i default).cells.getD j default) (cs.getD (i * sz+j) undef)):
  RelH F (σ.new (.arr E sz bts l)) (H.add σ.nxt (.slice (some ⟨w.heap.size,0,none⟩) l.length cap)) a (w.alloc (.cells cs E)):=by
 have he:=Ext.alloc w (.cells cs E);refine r.renew (old:=none) hlim rfl rfl rfl he.size (fun b hb _=>he.block b hb) (by simp) (fun b hb => .inl ?_) ?_
 ·simp [blk] at hb;omega
 ·refine .arr E sz bts l _ (cs.toList.take (l.length * sz)) hsz ⟨?_,.inr ⟨w.heap.size,0,cap,cs,rfl,heap_alloc_new w _,hc,hm,by omega,by rw [List.drop_zero]⟩⟩ hbt hcs fun i hi j hj => ?_
  ·have:=Nat.mul_le_mul_right sz hc;simp only [List.length_take,Array.length_toList];omega
  ·have hlt:i * sz+j < l.length * sz:=by
    have h1:i * sz+j < (i+1) * sz:=by rw [Nat.add_mul];omega
    have h2:(i+1) * sz<=l.length * sz:=Nat.mul_le_mul_right _ hi;omega
   have h3:(cs.toList.take (l.length * sz)).getD (i * sz+j) undef=cs.getD (i * sz+j) undef:=by
    simp [List.getD_eq_getElem?_getD,hlt]
   rw [h3];exact (hrel i hi j hj).mono (fun b hb=>⟨hb,he.block b hb.1⟩)
theorem AL.box {T:TypeId} {x:Operand} {y:AV} {d:Nat} (id:Nat) (hid:σ.nxt=id) (hl:Nat.blt id LIM=true) (hd:o.dst=some d) (hlt:Nat.blt d σ.n=true) (ho:o.op = .box T x) (hx:σ.ev x=some y) (hy:y.isAny=false):
  AL P F σ o (·=(σ.new (.box T (zap y))).set d (.ptr id 0)):=by
 subst hid;intro a w ⟨H,r⟩;have hl:σ.nxt < LIM:=by simpa using hl
 obtain ⟨h1,h2⟩:=zda (r.ev hx) hy;have r':=r.newBox hl T h1 h2;have r2:=r'.set (d:=d) (show d < σ.n by simpa using hlt) (.ptr σ.nxt 0 w.heap.size (Hd.add_new _ _ _));rw [<- hd] at r2;exact AL.value (by simp [execOp,ho,Instr.box,zmj]) (Ext.alloc w _) ⟨_,rfl,_,r2⟩
theorem AL.alloc {T:TypeId} {dsc:Bool} {size bytes:Nat} {z:Value} {d:Nat} (id:Nat) (hid:σ.nxt=id) (hl:Nat.blt id LIM=true) (hd:o.dst=some d) (hlt:Nat.blt d σ.n=true) (ho:o.op = .alloc T) (ht:TI P T dsc size bytes z) (hy:(avc z).isAny=false):
  AL P F σ o (·=(σ.new (.box T (zap (avc z)))).set d (.ptr id 0)):=by
 subst hid;intro a w ⟨H,r⟩;have hl:σ.nxt < LIM:=by simpa using hl
 obtain ⟨h1,h2⟩:=zda (zmu w (Sh F.X σ.ent H w) H z) hy;have r':=r.newBox hl T h1 h2;have r2:=r'.set (d:=d) (show d < σ.n by simpa using hlt) (.ptr σ.nxt 0 w.heap.size (Hd.add_new _ _ _));rw [<- hd] at r2;exact AL.value (by simp [execOp,ho,Instr.alloc,ht.zero,zmj]) (Ext.alloc w _) ⟨_,rfl,_,r2⟩
end
end Go.Ab
