import Derived.Still
import Derived.Below
set_option linter.unusedVariables false
set_option linter.unusedSimpArgs false
set_option linter.unusedSectionVars false
namespace Go.Ab
open Go.RowKit (Below)
def Ext (w w':World):Prop:=Below w.heap.size w w'
theorem Ext.refl (w:World):Ext w w:=Below.refl _ _
theorem Ext.trans {a b c:World} (h:Ext a b) (k:Ext b c):Ext a c:=
 Below.trans h (Below.mono k h.size)
def zdF (o:Oper):Bool:=match o.op with
 | .move _ | .assign _ | .pick _ _ _ | .fieldAddr _ _ _ | .field _ _ _ | .extract _ _ | .unOp _ _ _ | .makeFunc _ _ _ | .index _ _ _ | .indexAddr _ _ _ | .slice _ _ _ _ _ | .nilCheck _ | .build _ _ | .binOp _ _ _ _ _=>true
 | _=>false
def roAt (P:Program) (o:Oper) (a:Act) (w:World) (v:Value):Prop:=
 ∀ w',(zdF o=true\/Ext w w')->(execOp a.eval o).run P w' = .ok (.value v) w'
def wpC (P:Program) (Q:Exit->Act->World->Prop) (o:Oper) (c:Nat) (a:Act) (w:World) (K:Act->World->Prop):Prop:=
 match c with
 | 0=>∃ v,roAt P o a w v/\K (a.put o.dst v) w
 | 1=>o.wp P a w (fun a' w'=>(∃ u,a'=a.put o.dst u)/\Ext w w'/\K a' w') (fun _ _ _=>False)
 | _=>o.wp P a w (fun a' w'=>(∃ u,a'=a.put o.dst u)/\K a' w') (fun _ _ _=>False)
def wpW (P:Program) (ops:Array Oper) (Q:Exit->Act->World->Prop):List (Nat×Oper)->Act->World->Prop
 | [],a,w=>Q .normal a w
 | x::r,a,w=>
  if Region.wanted x.2 (yielded ops a.tmps)=true then wpC P Q x.2 x.1 a w (wpW P ops Q r)
  else wpW P ops Q r (a.put x.2.dst undef) w
theorem zcf (P:Program) (ops:Array Oper) (Q:Exit->Act->World->Prop) (c:Nat) (o:Oper) (r:List (Nat×Oper)) (a:Act) (w:World):
  wpW P ops Q ((c,o)::r) a w=if Region.wanted o (yielded ops a.tmps)=true then wpC P Q o c a w (wpW P ops Q r) else wpW P ops Q r (a.put o.dst undef) w:=rfl
theorem Oper.wp_mono2 {P:Program} {o:Oper} {a:Act} {w:World} {K K':Act->World->Prop} {Q Q':Exit->Act->World->Prop}
  (h:∀ a w,K a w->K' a w) (hq:∀ e a w,Q e a w->Q' e a w) (hh:o.wp P a w K Q):o.wp P a w K' Q':=by
 unfold Oper.wp at *
 generalize (execOp a.eval o).run P w=r at *
 cases r with
 | ok n w'=>
  cases n<;>simp only [Oper.upon] at hh ⊢<;>
   first
    | exact h _ _ hh
    | exact Calls.mono hh (fun e w'' he=>by
      cases e<;>first
       | exact h _ _ he
       | exact hq _ _ _ he
       | (obtain ⟨a0,w0,h0⟩:=he;exact ⟨a0,w0,hq _ _ _ h0⟩))
    | exact Rows.mono hh (fun _ _ he=>h _ _ he)
 | halt x w'=>cases x<;>simp only [Oper.upon] at hh ⊢<;>first | exact hh | exact hq _ _ _ hh
theorem zp3 {P:Program} {Q Q':Exit->Act->World->Prop} {o:Oper} {c:Nat} {a:Act} {w:World} {K K':Act->World->Prop}
  (h:∀ a w,K a w->K' a w) (hq:∀ e a w,Q e a w->Q' e a w) (hh:wpC P Q o c a w K):wpC P Q' o c a w K':=by
 match c,hh with
 | 0,⟨v,h1,h2⟩=>exact ⟨v,h1,h _ _ h2⟩
 | 1,hh=>exact Oper.wp_mono2 (fun a' w' ⟨h1,h2,h3⟩=>⟨h1,h2,h _ _ h3⟩) (fun _ _ _ h=>h) hh
 | _+2,hh=>exact Oper.wp_mono2 (fun a' w' ⟨h1,h3⟩=>⟨h1,h _ _ h3⟩) (fun _ _ _ h=>h) hh
theorem zp4 {P:Program} {ops:Array Oper} {Q Q':Exit->Act->World->Prop} (hq:∀ e a w,Q e a w->Q' e a w):
  ∀ (l:List (Nat×Oper)) (a:Act) (w:World),wpW P ops Q l a w->wpW P ops Q' l a w
 | [],a,w,h=>hq _ _ _ h
 | (c,o)::r,a,w,h=>by
  rw [zcf] at h ⊢;split
  ·rename_i hw;rw [if_pos hw] at h;exact zp3 (zp4 hq r) hq h
  ·rename_i hw;rw [if_neg hw] at h;exact zp4 hq r _ _ h
theorem zjb {P:Program} {o:Oper} {a:Act} {w:World} {v:Value} {K:Act->World->Prop} {Q:Exit->Act->World->Prop}
  (h:roAt P o a w v) (hK:K (a.put o.dst v) w):o.wp P a w K Q:=by
 unfold Oper.wp;rw [h w (.inr (Ext.refl w))];exact hK
theorem zj6 {P:Program} {ops:Array Oper} {Q:Exit->Act->World->Prop} {c i:Nat} {o:Oper} {r:List (Nat×Oper)} {a:Act} {w:World}
  (hi:ops[i]? =some o) (h:wpW P ops Q ((c,o)::r) a w):wpOp P ops Q i (wpW P ops Q r) a w:=by
 unfold wpOp;simp only [hi];rw [zcf] at h;split
 ·rename_i hw;rw [if_pos hw] at h;refine .inl ?_
  match c,h with
  | 0,⟨v,h1,h2⟩=>exact zjb h1 h2
  | 1,h=>exact Oper.wp_mono2 (fun _ _ h=>h.2.2) (fun _ _ _ h=>h.elim) h
  | _+2,h=>exact Oper.wp_mono2 (fun _ _ h=>h.2) (fun _ _ _ h=>h.elim) h
 ·rename_i hw;rw [if_neg hw] at h;exact h
theorem zj7 {P:Program} {ops:Array Oper} {Q:Exit->Act->World->Prop}:∀ (l:List (Nat×Oper)) (k:Nat) (a:Act) (w:World),
  (∀ j,(l[j]?).map (·.2)=if j < l.length then ops[k+j]? else none)->wpW P ops Q l a w->wpOps P ops Q (List.range' k l.length) a w
 | [],k,a,w,_,h=>by simpa [wpOps,wpW] using h
 | (c,o)::r,k,a,w,hl,h=>by
  have h0:ops[k]? =some o:=by simpa using (hl 0).symm
  rw [List.length_cons,List.range'_succ,wpOps_cons];refine wpOp_mono (fun a' w' h' => ?_) (zj6 h0 h);refine zj7 r (k+1) a' w' (fun j => ?_) h';have:=hl (j+1);simp only [List.getElem?_cons_succ,List.length_cons,Nat.add_lt_add_iff_right] at this;rw [this];congr 2;omega
theorem zlH {P:Program} {id:Nat} {ops:Array Oper} {Q:Exit->Act->World->Prop} {a:Act} {w:World} (cs:List Nat)
  (hc:cs.length=ops.size) (h:wpW P ops Q (cs.zip ops.toList) a w):(Code.region id ops false).wp P Q a w:=by
 refine wp_region ?_;have:=zj7 (P:=P) (ops:=ops) (Q:=Q) (cs.zip ops.toList) 0 a w (fun j => ?_) h
 ·simpa [hc,List.range_eq_range'] using this
 ·have hl:(cs.zip ops.toList).length=ops.size:=by simp [hc]
  by_cases hj:j < ops.size
  ·rw [if_pos (by omega)];have h1:j < cs.length:=by omega
   have h2:j < ops.toList.length:=by simpa using hj
   simp [List.getElem?_zip_eq_some,h1,hj]
  ·rw [if_neg (by omega)];simp [hl];omega
def zr4 (ops:Array Oper):Nat->Nat->Nat->Bool
 | 0,_,_=>false
 | f+1,j,i=>match ops[j]? with
  | none=>false
  | some o=>(o.after.any fun e=>Region.binds .any e && e.on==i) || (o.after.any fun e=>Region.binds .any e && zr4 ops f e.on i)
def zr0 (ops:Array Oper) (c i c' i':Nat):Bool:=
 (Nat.beq c 0 &&
  match ops[i]?, ops[i']? with
  | some o,some o'=>(Nat.beq c' 0 || Nat.beq c' 1 || zdF o) && o.apart ops o'
  | _,_=>false) ||
 zr4 ops ops.size i' i
def chk (ops:Array Oper):List (Nat×Nat)->Bool
 | []=>true
 | (c,i)::r=>
  (match ops[i]? with
   | some o=>o.after.all fun e => !Region.binds .any e || (Nat.blt e.on ops.size && !((i::r.map (·.2)).contains e.on))
   | none=>false) &&
  !((r.map (·.2)).contains i) &&
  (r.all fun x=>zr0 ops c i x.1 x.2) && chk ops r
def zhD (ops:Array Oper) (l:List (Nat×Nat)):List (Nat×Oper):=l.map fun x=>(x.1,ops.getD x.2 default)
def zkC (ops:Array Oper) (ord:List (Nat×Nat)):Bool:=
 Region.noSelect ops && Nat.beq ord.length ops.size && ((List.range ops.size).all fun j=>(ord.map (·.2)).contains j) && chk ops ord
section
variable {P:Program} {ops:Array Oper} {Q:Exit->Act->World->Prop}
theorem zsV {o:Oper} {a:Act} {w w':World} {v:Value} {d:Option Tmp} {u:Value} (hs:∀ cs b,o.op ≠ .select cs b)
  (hd:∀ t,d=some t->t∉o.looksAt ops) (hw:zdF o=true\/Ext w w') (h:roAt P o a w v):roAt P o (a.put d u) w' v:=by
 intro w'' h'';rw [execOp_put o hs a d u hd];refine h w'' ?_;rcases hw with hw | hw
 ·exact .inl hw
 ·exact h''.imp id hw.trans
theorem zqz {o:Oper} {a:Act} {w:World} {v:Value} {d:Option Tmp} {u:Value} (hs:∀ cs b,o.op ≠ .select cs b)
  (hd:∀ t,d=some t->t∉o.looksAt ops) (h:roAt P o (a.put d u) w v):roAt P o a w v:=by
 intro w'' h'';rw [<- execOp_put o hs a d u hd];exact h w'' h''
theorem zhs (a:Act) (d:Option Tmp) (v:Value):(a.put d v).defers=a.defers:=by cases d<;>rfl
theorem zom {o:Oper} {a:Act} {K K':Act->World->Prop} {res:Result Next} (h:∀ a w,K a w->K' a w) (hh:Oper.upon P o a K (fun _ _ _=>False) res):Oper.upon P o a K' (fun _ _ _=>False) res:=by
 cases res with
 | ok n w'=>
  cases n<;>simp only [Oper.upon] at hh ⊢<;>
   first
    | exact h _ _ hh
    | exact Calls.mono hh (fun e w'' he=>by
      cases e<;>first
       | exact h _ _ he
       | exact he)
    | exact Rows.mono hh (fun _ _ he=>h _ _ he)
 | halt x w'=>cases x<;>simp only [Oper.upon] at hh ⊢<;>exact hh
theorem ztd {o:Oper} {a:Act} {E:World->Prop} {A B:Act->World->Prop} {res:Result Next} (v:Value) (dj:Option Tmp)
  (hr:Oper.upon P o (a.put dj v) (fun a' w'=>(∃ u,a'=(a.put dj v).put o.dst u)/\E w'/\A a' w') (fun _ _ _=>False) res)
  (fin:∀ u w',((∃ u',(a.put dj v).put o.dst u=(a.put dj v).put o.dst u')/\E w'/\A ((a.put dj v).put o.dst u) w')->(∃ u',a.put o.dst u=a.put o.dst u')/\E w'/\B (a.put o.dst u) w'):
  Oper.upon P o a (fun a' w'=>(∃ u,a'=a.put o.dst u)/\E w'/\B a' w') (fun _ _ _=>False) res:=by
 cases res with
 | ok n w'=>
  cases n<;>simp only [Oper.upon] at hr ⊢
  case value u=>exact fin u w' hr
  case skip=>exact fin _ w' hr
  case defer d=>
   exfalso;obtain ⟨⟨u',hu'⟩,_⟩:=hr;have:=congrArg Act.defers hu';rw [zhs,zhs,zhs] at this;have hl:=congrArg List.length this;simp [zhs] at hl
  case enter f args=>
   refine Calls.mono hr fun e w'' he => ?_
   cases e with
   | returned u=>exact fin u w'' he
   | panicked c=>exact he
   | outgrown=>exact he
  case row row args=>exact Rows.mono hr fun u w'' he=>fin u w'' he
 | halt x w'=>
  cases x<;>simp only [Oper.upon] at hr ⊢
theorem swap {oj oi:Oper} {ci:Nat} {r:List (Nat×Oper)} {a:Act} {w:World}
  (hsi:∀ cs b,oi.op ≠ .select cs b) (hsj:∀ cs b,oj.op ≠ .select cs b)
  (hap:oj.apart ops oi=true) (hci:ci=0\/ci=1\/zdF oj=true)
  (h:wpW P ops Q ((0,oj)::(ci,oi)::r) a w):wpW P ops Q ((ci,oi)::(0,oj)::r) a w:=by
 obtain ⟨h1,h2,h3⟩:=Oper.apart_spec hap;have h2':∀ d,oi.dst=some d->oj.dst≠some d:=fun d hd hj=>h2 d hj hd
 have wi:∀ (a:Act) u,Region.wanted oi (yielded ops (a.put oj.dst u).tmps)=Region.wanted oi (yielded ops a.tmps):=fun a u=>wanted_put oi a oj.dst u h1
 have wj:∀ (a:Act) u,Region.wanted oj (yielded ops (a.put oi.dst u).tmps)=Region.wanted oj (yielded ops a.tmps):=fun a u=>wanted_put oj a oi.dst u h3
 have key:∃ v,(∀ u w',(zdF oj=true\/Ext w w')->wpW P ops Q r ((a.put oi.dst u).put oj.dst v) w'->wpW P ops Q ((0,oj)::r) (a.put oi.dst u) w')/\
   wpW P ops Q ((ci,oi)::r) (a.put oj.dst v) w:=by
  rw [zcf] at h;split at h
  ·rename_i hwj;obtain ⟨v,hv,hr⟩:=h;refine ⟨v,fun u w' hw' hk => ?_,hr⟩;rw [zcf,if_pos (by rw [wj];exact hwj)];exact ⟨v,zsV hsj h3 hw' hv,hk⟩
  ·rename_i hwj;refine ⟨undef,fun u w' hw' hk => ?_,h⟩;rw [zcf,if_neg (by rw [wj];exact hwj)];exact hk
 obtain ⟨v,hback,hr⟩:=key;rw [zcf] at hr ⊢;rw [wi] at hr;split
 ·rename_i hwi;rw [if_pos hwi] at hr
  match ci,hci,hr with
  | 0,_,hr=>
   obtain ⟨u,hu,hk⟩:=hr;refine ⟨u,zqz hsi h1 hu,?_⟩;refine hback u w (.inr (Ext.refl w)) ?_;rw [Act.put_comm a u v h2'];exact hk
  | 1,_,hr=>
   simp only [wpC] at hr ⊢;unfold Oper.wp at hr ⊢;rw [execOp_put oi hsi a oj.dst v h1] at hr;have fin:∀ u w',((∃ u',(a.put oj.dst v).put oi.dst u=(a.put oj.dst v).put oi.dst u')/\Ext w w'/\wpW P ops Q r ((a.put oj.dst v).put oi.dst u) w')->
     (∃ u',a.put oi.dst u=a.put oi.dst u')/\Ext w w'/\wpW P ops Q ((0,oj)::r) (a.put oi.dst u) w':=by
    rintro u w' ⟨_,he,hk⟩;refine ⟨⟨u,rfl⟩,he,hback u w' (.inr he) ?_⟩;rw [Act.put_comm a u v h2'];exact hk
   exact ztd (E:=fun w'=>Ext w w') v oj.dst hr fin
  | c+2,hci,hr=>
   have hp:zdF oj=true:=by rcases hci with h | h | h<;>first | omega | exact h
   simp only [wpC] at hr ⊢;unfold Oper.wp at hr ⊢;rw [execOp_put oi hsi a oj.dst v h1] at hr;have fin:∀ u w',((∃ u',(a.put oj.dst v).put oi.dst u=(a.put oj.dst v).put oi.dst u')/\wpW P ops Q r ((a.put oj.dst v).put oi.dst u) w')->
     (∃ u',a.put oi.dst u=a.put oi.dst u')/\wpW P ops Q ((0,oj)::r) (a.put oi.dst u) w':=by
    rintro u w' ⟨_,hk⟩;refine ⟨⟨u,rfl⟩,hback u w' (.inl hp) ?_⟩;rw [Act.put_comm a u v h2'];exact hk
   have:=ztd (E:=fun _=>True) v oj.dst (A:=wpW P ops Q r) (B:=wpW P ops Q ((0,oj)::r)) (a:=a) (res:=(execOp a.eval oi).run P w) (P:=P) (o:=oi)
    (by
     refine zom (fun a' w' h=>⟨h.1,trivial,h.2⟩) hr)
    (fun u w' h=>let ⟨h1,h2⟩:=fin u w' ⟨h.1,h.2.2⟩;⟨h1,trivial,h2⟩)
   exact zom (fun a' w' h=>⟨h.1,h.2.2⟩) this
 ·rename_i hwi;rw [if_neg hwi] at hr;refine hback undef w (.inr (Ext.refl w)) ?_;rw [Act.put_comm a undef v h2'];exact hr
theorem zs5 {x:Nat×Oper} {r r':List (Nat×Oper)} (h:∀ a w,wpW P ops Q r a w->wpW P ops Q r' a w):
  ∀ a w,wpW P ops Q (x::r) a w->wpW P ops Q (x::r') a w:=by
 obtain ⟨c,o⟩:=x;intro a w hh;rw [zcf] at hh ⊢;split
 ·rename_i hw;rw [if_pos hw] at hh;exact zp3 h (fun _ _ _ h=>h) hh
 ·rename_i hw;rw [if_neg hw] at hh;exact h _ _ hh
theorem pull {oi:Oper} {ci:Nat} (hsi:∀ cs b,oi.op ≠ .select cs b) {post:List (Nat×Oper)}:
  ∀ (pre:List (Nat×Oper)),(∀ x∈pre,x.1=0/\(∀ cs b,x.2.op ≠ .select cs b)/\x.2.apart ops oi=true/\(ci=0\/ci=1\/zdF x.2=true))->
  ∀ a w,wpW P ops Q (pre++(ci,oi)::post) a w->wpW P ops Q ((ci,oi)::(pre++post)) a w
 | [],_,a,w,h=>h
 | (c,o)::pre,hp,a,w,h=>by
  have hx:=hp (c,o) (by simp);obtain ⟨hc,hs,hap,hci'⟩:=hx;simp only at hc hs hap hci';subst hc;have ih:=pull hsi (post:=post) pre (fun x hx=>hp x (by simp [hx]));exact swap hsi hs hap hci' (zs5 (x:=(0,o)) ih a w h)
def Down (ops:Array Oper) (listed:Array Bool):Prop:=
 ∀ (j:Nat) (o:Oper),ops[j]? =some o->listed.getD j false=true->∀ e∈o.after,Region.binds .any e=true->listed.getD e.on false=true
theorem zjY {listed:Array Bool} (hd:Down ops listed):∀ (f j i:Nat),
  (∀ o,ops[j]? =some o->∀ e∈o.after,Region.binds .any e=true->listed.getD e.on false=true)->zr4 ops f j i=true->listed.getD i false=true
 | 0,_,_,_,h=>by simp [zr4] at h
 | f+1,j,i,hj,h=>by
  unfold zr4 at h;split at h
  ·simp at h
  ·rename_i o ho;rw [Bool.or_eq_true,Array.any_eq_true',Array.any_eq_true'] at h;rcases h with ⟨e,he,h⟩ | ⟨e,he,h⟩
   ·simp only [Bool.and_eq_true,beq_iff_eq] at h;rw [<- h.2];exact hj o ho e he h.1
   ·simp only [Bool.and_eq_true] at h;have hl:=hj o ho e he h.1;exact zjY hd f e.on i (fun o' ho' e' he' hb'=>hd e.on o' ho' hl e' he' hb') h.2
structure Inv (ops:Array Oper) (listed:Array Bool) (rem:List (Nat×Nat)):Prop where
 size:listed.size=ops.size
 lst:∀ j,j < ops.size->(listed.getD j true=false↔j∈rem.map (·.2))
 inr:∀ j∈rem.map (·.2),j < ops.size
 down:Down ops listed
theorem zqS:∀ (pre:List (Nat×Nat)) (x:Nat×Nat) (post:List (Nat×Nat)),chk ops (pre++x::post)=true->chk ops (pre++post)=true
 | [],x,post,h=>by
  obtain ⟨c,i⟩:=x;simp only [List.nil_append,chk,Bool.and_eq_true] at h;exact h.2
 | (c,i)::pre,x,post,h=>by
  simp only [List.cons_append,chk,Bool.and_eq_true] at h ⊢;obtain ⟨⟨⟨h1,h2⟩,h3⟩,h4⟩:=h;refine ⟨⟨⟨?_,?_⟩,?_⟩,zqS pre x post h4⟩
  ·cases ho:ops[i]? with
   | none=>simp [ho] at h1
   | some o=>
    simp only [ho] at h1 ⊢;rw [Array.all_eq_true_iff_forall_mem] at h1 ⊢;intro e he;have:=h1 e he;simp only [Bool.or_eq_true,Bool.and_eq_true,Bool.not_eq_true'] at this ⊢;refine this.imp id fun ⟨a,b⟩=>⟨a,?_⟩
    rw [List.contains_eq_mem] at b ⊢;simp only [decide_eq_false_iff_not] at b ⊢;intro hm;apply b;simp only [List.map_append,List.map_cons,List.mem_cons,List.mem_append] at hm ⊢;rcases hm with h | h | h
    ·exact .inl h
    ·exact .inr (.inl h)
    ·exact .inr (.inr (.inr h))
  ·simp only [Bool.not_eq_true'] at h2 ⊢;rw [List.contains_eq_mem] at h2 ⊢;simp only [decide_eq_false_iff_not] at h2 ⊢;intro hm;apply h2;simp only [List.map_append,List.map_cons,List.mem_append,List.mem_cons] at hm ⊢;exact hm.imp id .inr
  ·rw [List.all_eq_true] at h3 ⊢;intro y hy;exact h3 y (by simp only [List.mem_append,List.mem_cons] at hy ⊢;exact hy.imp id .inr)
theorem zps:∀ (pre:List (Nat×Nat)) (x:Nat×Nat) (post:List (Nat×Nat)),chk ops (pre++x::post)=true->
  (∀ y∈pre,zr0 ops y.1 y.2 x.1 x.2=true)/\(∀ y∈pre++post,y.2≠x.2)
 | [],x,post,h=>by
  obtain ⟨c,i⟩:=x;simp only [List.nil_append,chk,Bool.and_eq_true] at h;refine ⟨by simp,fun y hy e => ?_⟩;have h2:=h.1.1.2;simp only [Bool.not_eq_true'] at h2;rw [List.contains_eq_mem] at h2;simp only [decide_eq_false_iff_not] at h2;exact h2 (List.mem_map.2 ⟨y,by simpa using hy,e⟩)
 | (c,i)::pre,x,post,h=>by
  simp only [List.cons_append,chk,Bool.and_eq_true] at h;obtain ⟨⟨⟨h1,h2⟩,h3⟩,h4⟩:=h;obtain ⟨g1,g2⟩:=zps pre x post h4;have h3':=(List.all_eq_true.1 h3) x (by simp);refine ⟨fun y hy => ?_,fun y hy => ?_⟩
  ·rcases List.mem_cons.1 hy with rfl | hy
   ·exact h3'
   ·exact g1 y hy
  ·rcases List.mem_cons.1 hy with rfl | hy
   ·simp only;intro e;simp only [Bool.not_eq_true'] at h2;rw [List.contains_eq_mem] at h2;simp only [decide_eq_false_iff_not] at h2;exact h2 (List.mem_map.2 ⟨x,by simp,e.symm⟩)
   ·exact g2 y hy
theorem zg8 (hsel:Region.noSelect ops=true):∀ (n:Nat) (rem:List (Nat×Nat)) (listed:Array Bool) (a:Act) (w:World),rem.length=n->
  Inv ops listed rem->chk ops rem=true->wpW P ops Q (zhD ops rem) a w->wpAny P .any ops Q n listed a w
 | 0,rem,listed,a,w,hn,inv,_,h=>by
  have hr:rem=[]:=List.length_eq_zero_iff.1 hn;subst hr;refine ⟨?_,by simpa [zhD,wpW] using h⟩;cases hR:Region.ready .any ops listed with
  | nil=>rfl
  | cons j rest=>
   have hj:j∈Region.ready .any ops listed:=by rw [hR];simp
   obtain ⟨h0,o,ho,_⟩:=mem_ready.1 hj;have hlt:j < ops.size:=(Array.getElem?_eq_some_iff.1 ho).1;have:=(inv.lst j hlt).1 h0;simp at this
 | n+1,rem,listed,a,w,hn,inv,hc,h=>by
  refine ⟨fun hR => ?_,fun i hi => ?_⟩
  ·exfalso
   match rem,hn,inv,hc with
   | [],hn,_,_=>simp at hn
   | (c,i)::r,hn,inv,hc=>
    have hlt:i < ops.size:=inv.inr i (by simp);have ho:ops[i]? =some ops[i]:=Array.getElem?_eq_getElem hlt;have hrdy:i∈Region.ready .any ops listed:=by
     refine mem_ready.2 ⟨(inv.lst i hlt).2 (by simp),ops[i],ho,fun e he hb => ?_⟩;simp only [chk,ho,Bool.and_eq_true] at hc;have h1:=(Array.all_eq_true_iff_forall_mem.1 hc.1.1.1) e he;simp only [hb,Bool.not_true,Bool.false_or,Bool.and_eq_true,Bool.not_eq_true'] at h1;obtain ⟨hlt',hnc⟩:=h1;have hlt':e.on < ops.size:=by simpa using hlt'
     rw [List.contains_eq_mem] at hnc;simp only [decide_eq_false_iff_not] at hnc;have hnot : ¬ (listed.getD e.on true=false):=fun hf=>hnc (by simpa using (inv.lst e.on hlt').1 hf)
     have hsz:e.on < listed.size:=by rw [inv.size];exact hlt'
     simp only [Array.getD_eq_getD_getElem?, Array.getElem?_eq_getElem hsz,Option.getD_some] at hnot ⊢;simpa using hnot
    rw [hR] at hrdy;cases hrdy
  ·obtain ⟨h0,o,ho,hall⟩:=mem_ready.1 hi;have hlt:i < ops.size:=(Array.getElem?_eq_some_iff.1 ho).1;have hmem:=(inv.lst i hlt).1 h0;obtain ⟨⟨c,i'⟩,hx,hxi⟩:=List.mem_map.1 hmem;simp only at hxi;subst hxi;obtain ⟨pre,post,rfl⟩:=List.append_of_mem hx;obtain ⟨hp,hne⟩:=zps pre (c,i') post hc;have hopi:(ops.getD i' default)=o:=by simp [Array.getD_eq_getD_getElem?, ho]
   have hpull:wpW P ops Q ((c,o)::zhD ops (pre++post)) a w:=by
    have hsplit:zhD ops (pre++(c,i')::post)=zhD ops pre++(c,o)::zhD ops post:=by
     unfold zhD;rw [List.map_append,List.map_cons];simp only [hopi]
    rw [hsplit] at h;have happ:zhD ops (pre++post)=zhD ops pre++zhD ops post:=by simp [zhD]
    rw [happ];have hcond:∀ y∈pre,Nat.beq y.1 0=true/\∃ oy,ops[y.2]? =some oy/\oy.apart ops o=true/\(c=0\/c=1\/zdF oy=true):=by
     intro y hy;have hpair:=hp y hy;unfold zr0 at hpair;rw [Bool.or_eq_true] at hpair;rcases hpair.symm with hr | hr
     ·exfalso;have hl:=zjY inv.down ops.size i' y.2 (fun o' ho' e he hb=>by rw [ho] at ho';cases ho';exact hall e he hb) hr;have hy2:y.2 < ops.size:=inv.inr y.2 (List.mem_map.2 ⟨y,by simp [hy],rfl⟩);have hf:=(inv.lst y.2 hy2).2 (List.mem_map.2 ⟨y,by simp [hy],rfl⟩);have hsz:y.2 < listed.size:=by rw [inv.size];exact hy2
      simp only [Array.getD_eq_getD_getElem?, Array.getElem?_eq_getElem hsz,Option.getD_some] at hl hf;rw [hl] at hf;cases hf
     ·simp only [Bool.and_eq_true] at hr;refine ⟨hr.1,?_⟩;have h3:=hr.2;rw [ho] at h3;cases hoy:ops[y.2]? with
      | none=>simp [hoy] at h3
      | some oy=>
       simp only [hoy,Bool.and_eq_true,Bool.or_eq_true] at h3;refine ⟨oy,rfl,h3.2,?_⟩;rcases h3.1 with (h | h) | h
       ·exact .inl (Nat.eq_of_beq_eq_true h)
       ·exact .inr (.inl (Nat.eq_of_beq_eq_true h))
       ·exact .inr (.inr h)
    refine pull (fun cs b=>Region.noSelect_spec hsel i' o cs b ho) (zhD ops pre) ?_ a w h;intro x hx;obtain ⟨y,hy,rfl⟩:=List.mem_map.1 hx;obtain ⟨h1,oy,hoy,hap,hcc⟩:=hcond y hy;have hg:ops.getD y.2 default=oy:=by simp [Array.getD_eq_getD_getElem?, hoy]
    refine ⟨Nat.eq_of_beq_eq_true h1,?_,?_,?_⟩
    ·simp only [hg];exact fun cs b=>Region.noSelect_spec hsel y.2 oy cs b hoy
    ·simp only [hg];exact hap
    ·simp only [hg];exact hcc
   have inv':Inv ops (listed.setIfInBounds i' true) (pre++post):=by
    refine ⟨by simp [inv.size],fun j hj => ?_,fun j hj=>inv.inr j ?_,?_⟩
    ·by_cases hji:i'=j
     ·subst hji;have hsz:i' < listed.size:=by rw [inv.size];exact hlt
      constructor
      ·intro hf;simp [hsz] at hf
      ·intro hm;obtain ⟨y,hy,hye⟩:=List.mem_map.1 hm;exact absurd hye (hne y hy)
     ·rw [getD_set_ne true hji,inv.lst j hj];simp only [List.map_append,List.map_cons,List.mem_append,List.mem_cons];constructor
      ·rintro (h | h | h)
       ·exact .inl h
       ·exact absurd h.symm hji
       ·exact .inr h
      ·exact fun h=>h.imp id .inr
    ·simp only [List.map_append,List.map_cons,List.mem_append,List.mem_cons] at hj ⊢;exact hj.imp id .inr
    ·intro j o' ho' hl e he hb;by_cases hji:i'=j
     ·subst hji;rw [ho] at ho';cases ho';exact getD_set_true (hall e he hb)
     ·rw [getD_set_ne false hji] at hl;exact getD_set_true (inv.down j o' ho' hl e he hb)
   have hlen:(pre++post).length=n:=by simp at hn ⊢;omega
   exact wpOp_mono (fun a' w' h'=>zg8 hsel n (pre++post) _ a' w' hlen inv' (zqS pre (c,i') post hc) h') (zj6 ho hpull)
theorem zny:∀ (l:List (Nat×Nat)),chk ops l=true->(l.map (·.2)).Nodup/\∀ j∈l.map (·.2),j < ops.size
 | [],_=>by simp
 | (c,i)::r,h=>by
  simp only [chk,Bool.and_eq_true] at h;obtain ⟨⟨⟨h1,h2⟩,h3⟩,h4⟩:=h;obtain ⟨g1,g2⟩:=zny r h4;simp only [Bool.not_eq_true'] at h2;rw [List.contains_eq_mem] at h2;simp only [decide_eq_false_iff_not] at h2;refine ⟨by rw [List.map_cons,List.nodup_cons];exact ⟨h2,g1⟩,fun j hj => ?_⟩;rcases List.mem_cons.1 hj with rfl | hj
  ·split at h1
   ·rename_i o ho;exact (Array.getElem?_eq_some_iff.1 ho).1
   ·cases h1
  ·exact g2 j hj
theorem zlG {id:Nat} {a:Act} {w:World} (ord:List (Nat×Nat)) (hm:P.follows .mixedOrders=true) (hB:zkC ops ord=true)
  (h:wpW P ops Q (zhD ops ord) a { w with drawn:=w.drawn+1 }):(Code.region id ops true).wp P Q a w:=by
 simp only [zkC,Bool.and_eq_true] at hB;obtain ⟨⟨⟨hs,hl⟩,hfull⟩,hc⟩:=hB;have hl:ord.length=ops.size:=Nat.eq_of_beq_eq_true hl;obtain ⟨_,hlt⟩:=zny ord hc;refine wp_region_any hm (zg8 hs ops.size ord _ a _ hl ⟨by simp,fun j hj => ?_,hlt,fun j o ho hf => ?_⟩ hc h)
 ·have:j∈ord.map (·.2):=by simpa using List.all_eq_true.1 hfull j (List.mem_range.2 hj)
  simp only [this,iff_true];simp [hj]
 ·exfalso;have hj:j < ops.size:=(Array.getElem?_eq_some_iff.1 ho).1;simp [hj] at hf
end
end Go.Ab
