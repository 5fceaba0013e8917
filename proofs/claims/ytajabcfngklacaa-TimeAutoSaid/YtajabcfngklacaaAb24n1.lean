import Derived.Still
import Derived.Below
set_option linter.unusedVariables false
set_option linter.unusedSimpArgs false
set_option linter.unusedSectionVars false
namespace Go.Ab
open Go.RowKit (Below)
def Ext (w w':World):Prop:=Below w.heap.size w w'
theorem Ext.refl (w:World):Ext w w:=Below.refl _ _
theorem Ext.trans {a b c:World} (h:Ext a b) (k:Ext b c):Ext a c:=
 Below.trans h (Below.mono k h.size)
def zmx (o:Oper):Bool:=match o.op with
 | .move _ | .assign _ | .pick _ _ _ | .fieldAddr _ _ _ | .field _ _ _ | .extract _ _ | .unOp _ _ _ | .makeFunc _ _ _ | .index _ _ _ | .indexAddr _ _ _ | .slice _ _ _ _ _ | .nilCheck _ | .build _ _ | .binOp _ _ _ _ _=>true
 | _=>false
def roAt (P:Program) (o:Oper) (a:Act) (w:World) (v:Value):Prop:=
 ∀ w',(zmx o=true\/Ext w w')->(execOp a.eval o).run P w' = .ok (.value v) w'
def wpC (P:Program) (Q:Exit->Act->World->Prop) (o:Oper) (c:Nat) (a:Act) (w:World) (K:Act->World->Prop):Prop:=
 match c with
 | 0=>∃ v,roAt P o a w v/\K (a.put o.dst v) w
 | 1=>o.wp P a w (fun b w'=>(∃ u,b=a.put o.dst u)/\Ext w w'/\K b w') (fun _ _ _=>False)
 | _=>o.wp P a w (fun b w'=>(∃ u,b=a.put o.dst u)/\K b w') (fun _ _ _=>False)
def wpW (P:Program) (ops:Array Oper) (Q:Exit->Act->World->Prop):List (Nat×Oper)->Act->World->Prop
 | [],a,w=>Q .normal a w
 | x::r,a,w=>
  if Region.wanted x.2 (yielded ops a.tmps)=true then wpC P Q x.2 x.1 a w (wpW P ops Q r)
  else wpW P ops Q r (a.put x.2.dst undef) w
theorem zhM (P:Program) (ops:Array Oper) (Q:Exit->Act->World->Prop) (c:Nat) (o:Oper) (r:List (Nat×Oper)) (a:Act) (w:World):
  wpW P ops Q ((c,o)::r) a w=if Region.wanted o (yielded ops a.tmps)=true then wpC P Q o c a w (wpW P ops Q r) else wpW P ops Q r (a.put o.dst undef) w:=rfl
theorem Oper.wp_mono2 {P:Program} {o:Oper} {a:Act} {w:World} {K f:Act->World->Prop} {Q g:Exit->Act->World->Prop}
  (h:∀ a w,K a w->f a w) (d:∀ e a w,Q e a w->g e a w) (b:o.wp P a w K Q):o.wp P a w f g:=by
 unfold Oper.wp at *
 generalize (execOp a.eval o).run P w=r at *
 cases r with
 | ok n w'=>
  cases n<;>simp only [Oper.upon] at b ⊢<;>
   first
    | exact h _ _ b
    | exact Calls.mono b (fun e i c=>by
      cases e<;>first
       | exact h _ _ c
       | exact d _ _ _ c
       | (obtain ⟨j,k,l⟩:=c;exact ⟨j,k,d _ _ _ l⟩))
    | exact Rows.mono b (fun _ _ c=>h _ _ c)
 | halt x w'=>cases x<;>simp only [Oper.upon] at b ⊢<;>first | exact b | exact d _ _ _ b
theorem zCS {P:Program} {Q d:Exit->Act->World->Prop} {o:Oper} {c:Nat} {a:Act} {w:World} {K f:Act->World->Prop}
  (h:∀ a w,K a w->f a w) (g:∀ e a w,Q e a w->d e a w) (b:wpC P Q o c a w K):wpC P d o c a w f:=by
 match c,b with
 | 0,⟨v,h1,h2⟩=>exact ⟨v,h1,h _ _ h2⟩
 | 1,b=>exact Oper.wp_mono2 (fun a' w' ⟨h1,h2,h3⟩=>⟨h1,h2,h _ _ h3⟩) (fun _ _ _ h=>h) b
 | _+2,b=>exact Oper.wp_mono2 (fun a' w' ⟨h1,h3⟩=>⟨h1,h _ _ h3⟩) (fun _ _ _ h=>h) b
theorem zrk {P:Program} {o:Oper} {a:Act} {w:World} {v:Value} {K:Act->World->Prop} {Q:Exit->Act->World->Prop}
  (h:roAt P o a w v) (b:K (a.put o.dst v) w):o.wp P a w K Q:=by
 unfold Oper.wp;rw [h w (.inr (Ext.refl w))];exact b
theorem zsL {P:Program} {ops:Array Oper} {Q:Exit->Act->World->Prop} {c i:Nat} {o:Oper} {r:List (Nat×Oper)} {a:Act} {w:World}
  (d:ops[i]? =some o) (h:wpW P ops Q ((c,o)::r) a w):wpOp P ops Q i (wpW P ops Q r) a w:=by
 unfold wpOp;simp only [d];rw [zhM] at h;split
 ·rename_i b;rw [if_pos b] at h;refine .inl ?_
  match c,h with
  | 0,⟨v,h1,h2⟩=>exact zrk h1 h2
  | 1,h=>exact Oper.wp_mono2 (fun _ _ h=>h.2.2) (fun _ _ _ h=>h.elim) h
  | _+2,h=>exact Oper.wp_mono2 (fun _ _ h=>h.2) (fun _ _ _ h=>h.elim) h
 ·rename_i b;rw [if_neg b] at h;exact h
theorem zsM {P:Program} {ops:Array Oper} {Q:Exit->Act->World->Prop}:∀ (l:List (Nat×Oper)) (k:Nat) (a:Act) (w:World),
  (∀ j,(l[j]?).map (·.2)=if j < l.length then ops[k+j]? else none)->wpW P ops Q l a w->wpOps P ops Q (List.range' k l.length) a w
 | [],k,a,w,_,h=>by simpa [wpOps,wpW] using h
 | (c,o)::r,k,a,w,hl,h=>by
  have d:ops[k]? =some o:=by simpa using (hl 0).symm
  rw [List.length_cons,List.range'_succ,wpOps_cons];refine wpOp_mono (fun b w' h' => ?_) (zsL d h);refine zsM r (k+1) b w' (fun j => ?_) h';have:=hl (j+1);simp only [List.getElem?_cons_succ,List.length_cons,Nat.add_lt_add_iff_right] at this;rw [this];congr 2;omega
theorem zuN {P:Program} {id:Nat} {ops:Array Oper} {Q:Exit->Act->World->Prop} {a:Act} {w:World} (cs:List Nat)
  (b:cs.length=ops.size) (h:wpW P ops Q (cs.zip ops.toList) a w):(Code.region id ops false).wp P Q a w:=by
 refine wp_region ?_;have:=zsM (P:=P) (ops:=ops) (Q:=Q) (cs.zip ops.toList) 0 a w (fun j => ?_) h
 ·simpa [b,List.range_eq_range'] using this
 ·have d:(cs.zip ops.toList).length=ops.size:=by simp [b]
  by_cases c:j < ops.size
  ·rw [if_pos (by omega)];have e:j < cs.length:=by omega
   have f:j < ops.toList.length:=by simpa using c
   simp [List.getElem?_zip_eq_some,e,c]
  ·rw [if_neg (by omega)];simp [d];omega
def zBH (ops:Array Oper):Nat->Nat->Nat->Bool
 | 0,_,_=>false
 | f+1,j,i=>match ops[j]? with
  | none=>false
  | some o=>(o.after.any fun e=>Region.binds .any e && e.on==i) || (o.after.any fun e=>Region.binds .any e && zBH ops f e.on i)
def zBy (ops:Array Oper) (c i a b:Nat):Bool:=
 (Nat.beq c 0 &&
  match ops[i]?, ops[b]? with
  | some o,some o'=>(Nat.beq a 0 || Nat.beq a 1 || zmx o) && o.apart ops o'
  | _,_=>false) ||
 zBH ops ops.size b i
def chk (ops:Array Oper):List (Nat×Nat)->Bool
 | []=>true
 | (c,i)::r=>
  (match ops[i]? with
   | some o=>o.after.all fun e => !Region.binds .any e || (Nat.blt e.on ops.size && !((i::r.map (·.2)).contains e.on))
   | none=>false) &&
  !((r.map (·.2)).contains i) &&
  (r.all fun x=>zBy ops c i x.1 x.2) && chk ops r
def zpo (ops:Array Oper) (l:List (Nat×Nat)):List (Nat×Oper):=l.map fun x=>(x.1,ops.getD x.2 default)
def ztn (ops:Array Oper) (a:List (Nat×Nat)):Bool:=
 Region.noSelect ops && Nat.beq a.length ops.size && ((List.range ops.size).all fun j=>(a.map (·.2)).contains j) && chk ops a
section
variable {P:Program} {ops:Array Oper} {Q:Exit->Act->World->Prop}
theorem zCJ {o:Oper} {a:Act} {w w':World} {v:Value} {d:Option Tmp} {u:Value} (hs:∀ cs b,o.op ≠ .select cs b)
  (f:∀ t,d=some t->t∉o.looksAt ops) (c:zmx o=true\/Ext w w') (h:roAt P o a w v):roAt P o (a.put d u) w' v:=by
 intro e h'';rw [execOp_put o hs a d u f];refine h e ?_;rcases c with c | c
 ·exact .inl c
 ·exact h''.imp id c.trans
theorem zAc {o:Oper} {a:Act} {w:World} {v:Value} {d:Option Tmp} {u:Value} (hs:∀ cs b,o.op ≠ .select cs b)
  (e:∀ t,d=some t->t∉o.looksAt ops) (h:roAt P o (a.put d u) w v):roAt P o a w v:=by
 intro c h'';rw [<- execOp_put o hs a d u e];exact h c h''
theorem zpi (a:Act) (d:Option Tmp) (v:Value):(a.put d v).defers=a.defers:=by cases d<;>rfl
theorem zxD {o:Oper} {a:Act} {K d:Act->World->Prop} {res:Result Next} (h:∀ a w,K a w->d a w) (b:Oper.upon P o a K (fun _ _ _=>False) res):Oper.upon P o a d (fun _ _ _=>False) res:=by
 cases res with
 | ok n w'=>
  cases n<;>simp only [Oper.upon] at b ⊢<;>
   first
    | exact h _ _ b
    | exact Calls.mono b (fun e f c=>by
      cases e<;>first
       | exact h _ _ c
       | exact c)
    | exact Rows.mono b (fun _ _ c=>h _ _ c)
 | halt x w'=>cases x<;>simp only [Oper.upon] at b ⊢<;>exact b
theorem zC0 {o:Oper} {a:Act} {E:World->Prop} {A B:Act->World->Prop} {res:Result Next} (v:Value) (h:Option Tmp)
  (b:Oper.upon P o (a.put h v) (fun i w'=>(∃ u,i=(a.put h v).put o.dst u)/\E w'/\A i w') (fun _ _ _=>False) res)
  (fin:∀ u w',((∃ k,(a.put h v).put o.dst u=(a.put h v).put o.dst k)/\E w'/\A ((a.put h v).put o.dst u) w')->(∃ k,a.put o.dst u=a.put o.dst k)/\E w'/\B (a.put o.dst u) w'):
  Oper.upon P o a (fun i w'=>(∃ u,i=a.put o.dst u)/\E w'/\B i w') (fun _ _ _=>False) res:=by
 cases res with
 | ok n w'=>
  cases n<;>simp only [Oper.upon] at b ⊢
  case value u=>exact fin u w' b
  case skip=>exact fin _ w' b
  case defer d=>
   exfalso;obtain ⟨⟨k,l⟩,_⟩:=b;have:=congrArg Act.defers l;rw [zpi,zpi,zpi] at this;have m:=congrArg List.length this;simp [zpi] at m
  case enter f args=>
   refine Calls.mono b fun e g j => ?_
   cases e with
   | returned u=>exact fin u g j
   | panicked c=>exact j
   | outgrown=>exact j
  case row row args=>exact Rows.mono b fun u g j=>fin u g j
 | halt x w'=>
  cases x<;>simp only [Oper.upon] at b ⊢
theorem swap {e f:Oper} {s:Nat} {r:List (Nat×Oper)} {a:Act} {w:World}
  (l:∀ cs b,f.op ≠ .select cs b) (y:∀ cs b,e.op ≠ .select cs b)
  (z:e.apart ops f=true) (m:s=0\/s=1\/zmx e=true)
  (h:wpW P ops Q ((0,e)::(s,f)::r) a w):wpW P ops Q ((s,f)::(0,e)::r) a w:=by
 obtain ⟨t,D,H⟩:=Oper.apart_spec z;have k:∀ d,f.dst=some d->e.dst≠some d:=fun d I J=>D d J I
 have M:∀ (a:Act) u,Region.wanted f (yielded ops (a.put e.dst u).tmps)=Region.wanted f (yielded ops a.tmps):=fun a u=>wanted_put f a e.dst u t
 have F:∀ (a:Act) u,Region.wanted e (yielded ops (a.put f.dst u).tmps)=Region.wanted e (yielded ops a.tmps):=fun a u=>wanted_put e a f.dst u H
 have C:∃ v,(∀ u w',(zmx e=true\/Ext w w')->wpW P ops Q r ((a.put f.dst u).put e.dst v) w'->wpW P ops Q ((0,e)::r) (a.put f.dst u) w')/\
   wpW P ops Q ((s,f)::r) (a.put e.dst v) w:=by
  rw [zhM] at h;split at h
  ·rename_i p;obtain ⟨v,O,g⟩:=h;refine ⟨v,fun u w' x j => ?_,g⟩;rw [zhM,if_pos (by rw [F];exact p)];exact ⟨v,zCJ y H x O,j⟩
  ·rename_i p;refine ⟨undef,fun u w' x j => ?_,h⟩;rw [zhM,if_neg (by rw [F];exact p)];exact j
 obtain ⟨v,i,g⟩:=C;rw [zhM] at g ⊢;rw [M] at g;split
 ·rename_i q;rw [if_pos q] at g
  match s,m,g with
  | 0,_,g=>
   obtain ⟨u,R,j⟩:=g;refine ⟨u,zAc l t R,?_⟩;refine i u w (.inr (Ext.refl w)) ?_;rw [Act.put_comm a u v k];exact j
  | 1,_,g=>
   simp only [wpC] at g ⊢;unfold Oper.wp at g ⊢;rw [execOp_put f l a e.dst v t] at g;have fin:∀ u w',((∃ n,(a.put e.dst v).put f.dst u=(a.put e.dst v).put f.dst n)/\Ext w w'/\wpW P ops Q r ((a.put e.dst v).put f.dst u) w')->
     (∃ n,a.put f.dst u=a.put f.dst n)/\Ext w w'/\wpW P ops Q ((0,e)::r) (a.put f.dst u) w':=by
    rintro u w' ⟨_,he,j⟩;refine ⟨⟨u,rfl⟩,he,i u w' (.inr he) ?_⟩;rw [Act.put_comm a u v k];exact j
   exact zC0 (E:=fun w'=>Ext w w') v e.dst g fin
  | c+2,m,g=>
   have N:zmx e=true:=by rcases m with h | h | h<;>first | omega | exact h
   simp only [wpC] at g ⊢;unfold Oper.wp at g ⊢;rw [execOp_put f l a e.dst v t] at g;have fin:∀ u w',((∃ n,(a.put e.dst v).put f.dst u=(a.put e.dst v).put f.dst n)/\wpW P ops Q r ((a.put e.dst v).put f.dst u) w')->
     (∃ n,a.put f.dst u=a.put f.dst n)/\wpW P ops Q ((0,e)::r) (a.put f.dst u) w':=by
    rintro u w' ⟨_,j⟩;refine ⟨⟨u,rfl⟩,i u w' (.inl N) ?_⟩;rw [Act.put_comm a u v k];exact j
   have:=zC0 (E:=fun _=>True) v e.dst (A:=wpW P ops Q r) (B:=wpW P ops Q ((0,e)::r)) (a:=a) (res:=(execOp a.eval f).run P w) (P:=P) (o:=f)
    (by
     refine zxD (fun L w' h=>⟨h.1,trivial,h.2⟩) g)
    (fun u w' h=>let ⟨t,D⟩:=fin u w' ⟨h.1,h.2.2⟩;⟨t,trivial,D⟩)
   exact zxD (fun L w' h=>⟨h.1,h.2.2⟩) this
 ·rename_i q;rw [if_neg q] at g;refine i undef w (.inr (Ext.refl w)) ?_;rw [Act.put_comm a undef v k];exact g
theorem zCU {x:Nat×Oper} {r e:List (Nat×Oper)} (h:∀ a w,wpW P ops Q r a w->wpW P ops Q e a w):
  ∀ a w,wpW P ops Q (x::r) a w->wpW P ops Q (x::e) a w:=by
 obtain ⟨c,o⟩:=x;intro a w b;rw [zhM] at b ⊢;split
 ·rename_i d;rw [if_pos d] at b;exact zCS h (fun _ _ _ h=>h) b
 ·rename_i d;rw [if_neg d] at b;exact h _ _ b
theorem pull {g:Oper} {i:Nat} (e:∀ cs b,g.op ≠ .select cs b) {post:List (Nat×Oper)}:
  ∀ (pre:List (Nat×Oper)),(∀ x∈pre,x.1=0/\(∀ cs b,x.2.op ≠ .select cs b)/\x.2.apart ops g=true/\(i=0\/i=1\/zmx x.2=true))->
  ∀ a w,wpW P ops Q (pre++(i,g)::post) a w->wpW P ops Q ((i,g)::(pre++post)) a w
 | [],_,a,w,h=>h
 | (c,o)::pre,hp,a,w,h=>by
  have j:=hp (c,o) (by simp);obtain ⟨k,hs,f,d⟩:=j;simp only at k hs f d;subst k;have l:=pull e (post:=post) pre (fun x j=>hp x (by simp [j]));exact swap e hs f d (zCU (x:=(0,o)) l a w h)
def Down (ops:Array Oper) (a:Array Bool):Prop:=
 ∀ (j:Nat) (o:Oper),ops[j]? =some o->a.getD j false=true->∀ e∈o.after,Region.binds .any e=true->a.getD e.on false=true
theorem zsD {a:Array Bool} (k:Down ops a):∀ (f j i:Nat),
  (∀ o,ops[j]? =some o->∀ e∈o.after,Region.binds .any e=true->a.getD e.on false=true)->zBH ops f j i=true->a.getD i false=true
 | 0,_,_,_,h=>by simp [zBH] at h
 | f+1,j,i,hj,h=>by
  unfold zBH at h;split at h
  ·simp at h
  ·rename_i o l;rw [Bool.or_eq_true,Array.any_eq_true',Array.any_eq_true'] at h;rcases h with ⟨e,g,h⟩ | ⟨e,g,h⟩
   ·simp only [Bool.and_eq_true,beq_iff_eq] at h;rw [<- h.2];exact hj o l e g h.1
   ·simp only [Bool.and_eq_true] at h;have n:=hj o l e g h.1;exact zsD k f e.on i (fun m b e' c d=>k e.on m b n e' c d) h.2
structure Inv (ops:Array Oper) (listed:Array Bool) (rem:List (Nat×Nat)):Prop where
 size:listed.size=ops.size
 lst:∀ j,j < ops.size->(listed.getD j true=false↔j∈rem.map (·.2))
 inr:∀ j∈rem.map (·.2),j < ops.size
 down:Down ops listed
theorem zAy:∀ (pre:List (Nat×Nat)) (x:Nat×Nat) (post:List (Nat×Nat)),chk ops (pre++x::post)=true->chk ops (pre++post)=true
 | [],x,post,h=>by
  obtain ⟨c,i⟩:=x;simp only [List.nil_append,chk,Bool.and_eq_true] at h;exact h.2
 | (c,i)::pre,x,post,h=>by
  simp only [List.cons_append,chk,Bool.and_eq_true] at h ⊢;obtain ⟨⟨⟨f,g⟩,h3⟩,h4⟩:=h;refine ⟨⟨⟨?_,?_⟩,?_⟩,zAy pre x post h4⟩
  ·cases k:ops[i]? with
   | none=>simp [k] at f
   | some o=>
    simp only [k] at f ⊢;rw [Array.all_eq_true_iff_forall_mem] at f ⊢;intro e l;have:=f e l;simp only [Bool.or_eq_true,Bool.and_eq_true,Bool.not_eq_true'] at this ⊢;refine this.imp id fun ⟨a,b⟩=>⟨a,?_⟩
    rw [List.contains_eq_mem] at b ⊢;simp only [decide_eq_false_iff_not] at b ⊢;intro d;apply b;simp only [List.map_append,List.map_cons,List.mem_cons,List.mem_append] at d ⊢;rcases d with h | h | h
    ·exact .inl h
    ·exact .inr (.inl h)
    ·exact .inr (.inr (.inr h))
  ·simp only [Bool.not_eq_true'] at g ⊢;rw [List.contains_eq_mem] at g ⊢;simp only [decide_eq_false_iff_not] at g ⊢;intro d;apply g;simp only [List.map_append,List.map_cons,List.mem_append,List.mem_cons] at d ⊢;exact d.imp id .inr
  ·rw [List.all_eq_true] at h3 ⊢;intro y j;exact h3 y (by simp only [List.mem_append,List.mem_cons] at j ⊢;exact j.imp id .inr)
theorem zyU:∀ (pre:List (Nat×Nat)) (x:Nat×Nat) (post:List (Nat×Nat)),chk ops (pre++x::post)=true->
  (∀ y∈pre,zBy ops y.1 y.2 x.1 x.2=true)/\(∀ y∈pre++post,y.2≠x.2)
 | [],x,post,h=>by
  obtain ⟨c,i⟩:=x;simp only [List.nil_append,chk,Bool.and_eq_true] at h;refine ⟨by simp,fun y a e => ?_⟩;have b:=h.1.1.2;simp only [Bool.not_eq_true'] at b;rw [List.contains_eq_mem] at b;simp only [decide_eq_false_iff_not] at b;exact b (List.mem_map.2 ⟨y,by simpa using a,e⟩)
 | (c,i)::pre,x,post,h=>by
  simp only [List.cons_append,chk,Bool.and_eq_true] at h;obtain ⟨⟨⟨j,b⟩,h3⟩,h4⟩:=h;obtain ⟨f,g⟩:=zyU pre x post h4;have d:=(List.all_eq_true.1 h3) x (by simp);refine ⟨fun y a => ?_,fun y a => ?_⟩
  ·rcases List.mem_cons.1 a with rfl | a
   ·exact d
   ·exact f y a
  ·rcases List.mem_cons.1 a with rfl | a
   ·simp only;intro e;simp only [Bool.not_eq_true'] at b;rw [List.contains_eq_mem] at b;simp only [decide_eq_false_iff_not] at b;exact b (List.mem_map.2 ⟨x,by simp,e.symm⟩)
   ·exact g y a
theorem zoZ (q:Region.noSelect ops=true):∀ (n:Nat) (rem:List (Nat×Nat)) (listed:Array Bool) (a:Act) (w:World),rem.length=n->
  Inv ops listed rem->chk ops rem=true->wpW P ops Q (zpo ops rem) a w->wpAny P .any ops Q n listed a w
 | 0,rem,listed,a,w,hn,inv,_,h=>by
  have F:rem=[]:=List.length_eq_zero_iff.1 hn;subst F;refine ⟨?_,by simpa [zpo,wpW] using h⟩;cases Z:Region.ready .any ops listed with
  | nil=>rfl
  | cons j rest=>
   have N:j∈Region.ready .any ops listed:=by rw [Z];simp
   obtain ⟨h0,o,p,_⟩:=mem_ready.1 N;have f:j < ops.size:=(Array.getElem?_eq_some_iff.1 p).1;have:=(inv.lst j f).1 h0;simp at this
 | n+1,rem,listed,a,w,hn,inv,hc,h=>by
  refine ⟨fun Z => ?_,fun i hi => ?_⟩
  ·exfalso
   match rem,hn,inv,hc with
   | [],hn,_,_=>simp at hn
   | (c,i)::r,hn,inv,hc=>
    have f:i < ops.size:=inv.inr i (by simp);have p:ops[i]? =some ops[i]:=Array.getElem?_eq_getElem f;have A:i∈Region.ready .any ops listed:=by
     refine mem_ready.2 ⟨(inv.lst i f).2 (by simp),ops[i],p,fun e L M => ?_⟩;simp only [chk,p,Bool.and_eq_true] at hc;have Y:=(Array.all_eq_true_iff_forall_mem.1 hc.1.1.1) e L;simp only [M,Bool.not_true,Bool.false_or,Bool.and_eq_true,Bool.not_eq_true'] at Y;obtain ⟨k,J⟩:=Y;have k:e.on < ops.size:=by simpa using k
     rw [List.contains_eq_mem] at J;simp only [decide_eq_false_iff_not] at J;have B : ¬ (listed.getD e.on true=false):=fun D=>J (by simpa using (inv.lst e.on k).1 D)
     have s:e.on < listed.size:=by rw [inv.size];exact k
     simp only [Array.getD_eq_getD_getElem?, Array.getElem?_eq_getElem s,Option.getD_some] at B ⊢;simpa using B
    rw [Z] at A;cases A
  ·obtain ⟨h0,o,p,C⟩:=mem_ready.1 hi;have f:i < ops.size:=(Array.getElem?_eq_some_iff.1 p).1;have R:=(inv.lst i f).1 h0;obtain ⟨⟨c,u⟩,hx,hxi⟩:=List.mem_map.1 R;simp only at hxi;subst hxi;obtain ⟨d,post,rfl⟩:=List.append_of_mem hx;obtain ⟨hp,hne⟩:=zyU d (c,u) post hc;have S:(ops.getD u default)=o:=by simp [Array.getD_eq_getD_getElem?, p]
   have H:wpW P ops Q ((c,o)::zpo ops (d++post)) a w:=by
    have v:zpo ops (d++(c,u)::post)=zpo ops d++(c,o)::zpo ops post:=by
     unfold zpo;rw [List.map_append,List.map_cons];simp only [S]
    rw [v] at h;have T:zpo ops (d++post)=zpo ops d++zpo ops post:=by simp [zpo]
    rw [T];have I:∀ y∈d,Nat.beq y.1 0=true/\∃ z,ops[y.2]? =some z/\z.apart ops o=true/\(c=0\/c=1\/zmx z=true):=by
     intro y E;have g:=hp y E;unfold zBy at g;rw [Bool.or_eq_true] at g;rcases g.symm with F | F
     ·exfalso;have O:=zsD inv.down ops.size u y.2 (fun o' l e L M=>by rw [p] at l;cases l;exact C e L M) F;have U:y.2 < ops.size:=inv.inr y.2 (List.mem_map.2 ⟨y,by simp [E],rfl⟩);have D:=(inv.lst y.2 U).2 (List.mem_map.2 ⟨y,by simp [E],rfl⟩);have s:y.2 < listed.size:=by rw [inv.size];exact U
      simp only [Array.getD_eq_getD_getElem?, Array.getElem?_eq_getElem s,Option.getD_some] at O D;rw [O] at D;cases D
     ·simp only [Bool.and_eq_true] at F;refine ⟨F.1,?_⟩;have V:=F.2;rw [p] at V;cases t:ops[y.2]? with
      | none=>simp [t] at V
      | some z=>
       simp only [t,Bool.and_eq_true,Bool.or_eq_true] at V;refine ⟨z,rfl,V.2,?_⟩;rcases V.1 with (h | h) | h
       ·exact .inl (Nat.eq_of_beq_eq_true h)
       ·exact .inr (.inl (Nat.eq_of_beq_eq_true h))
       ·exact .inr (.inr h)
    refine pull (fun cs b=>Region.noSelect_spec q u o cs b p) (zpo ops d) ?_ a w h;intro x hx;obtain ⟨y,E,rfl⟩:=List.mem_map.1 hx;obtain ⟨Y,z,t,hap,hcc⟩:=I y E;have hg:ops.getD y.2 default=z:=by simp [Array.getD_eq_getD_getElem?, t]
    refine ⟨Nat.eq_of_beq_eq_true Y,?_,?_,?_⟩
    ·simp only [hg];exact fun cs b=>Region.noSelect_spec q y.2 z cs b t
    ·simp only [hg];exact hap
    ·simp only [hg];exact hcc
   have W:Inv ops (listed.setIfInBounds u true) (d++post):=by
    refine ⟨by simp [inv.size],fun j N => ?_,fun j N=>inv.inr j ?_,?_⟩
    ·by_cases m:u=j
     ·subst m;have s:u < listed.size:=by rw [inv.size];exact f
      constructor
      ·intro D;simp [s] at D
      ·intro hm;obtain ⟨y,E,hye⟩:=List.mem_map.1 hm;exact absurd hye (hne y E)
     ·rw [getD_set_ne true m,inv.lst j N];simp only [List.map_append,List.map_cons,List.mem_append,List.mem_cons];constructor
      ·rintro (h | h | h)
       ·exact .inl h
       ·exact absurd h.symm m
       ·exact .inr h
      ·exact fun h=>h.imp id .inr
    ·simp only [List.map_append,List.map_cons,List.mem_append,List.mem_cons] at N ⊢;exact N.imp id .inr
    ·intro j o' l O e L M;by_cases m:u=j
     ·subst m;rw [p] at l;cases l;exact getD_set_true (C e L M)
     ·rw [getD_set_ne false m] at O;exact getD_set_true (inv.down j o' l O e L M)
   have X:(d++post).length=n:=by simp at hn ⊢;omega
   exact wpOp_mono (fun a' w' h'=>zoZ q n (d++post) _ a' w' X W (zAy d (c,u) post hc) h') (zsL p H)
theorem zwT:∀ (l:List (Nat×Nat)),chk ops l=true->(l.map (·.2)).Nodup/\∀ j∈l.map (·.2),j < ops.size
 | [],_=>by simp
 | (c,i)::r,h=>by
  simp only [chk,Bool.and_eq_true] at h;obtain ⟨⟨⟨d,a⟩,h3⟩,h4⟩:=h;obtain ⟨f,g⟩:=zwT r h4;simp only [Bool.not_eq_true'] at a;rw [List.contains_eq_mem] at a;simp only [decide_eq_false_iff_not] at a;refine ⟨by rw [List.map_cons,List.nodup_cons];exact ⟨a,f⟩,fun j b => ?_⟩;rcases List.mem_cons.1 b with rfl | b
  ·split at d
   ·rename_i o e;exact (Array.getElem?_eq_some_iff.1 e).1
   ·cases d
  ·exact g j b
theorem zuM {id:Nat} {a:Act} {w:World} (b:List (Nat×Nat)) (g:P.follows .mixedOrders=true) (f:ztn ops b=true)
  (h:wpW P ops Q (zpo ops b) a { w with drawn:=w.drawn+1 }):(Code.region id ops true).wp P Q a w:=by
 simp only [ztn,Bool.and_eq_true] at f;obtain ⟨⟨⟨hs,d⟩,hfull⟩,hc⟩:=f;have d:b.length=ops.size:=Nat.eq_of_beq_eq_true d;obtain ⟨_,e⟩:=zwT b hc;refine wp_region_any g (zoZ hs ops.size b _ a _ d ⟨by simp,fun j c => ?_,e,fun j o i k => ?_⟩ hc h)
 ·have:j∈b.map (·.2):=by simpa using List.all_eq_true.1 hfull j (List.mem_range.2 c)
  simp only [this,iff_true];simp [c]
 ·exfalso;have c:j < ops.size:=(Array.getElem?_eq_some_iff.1 i).1;simp [c] at k
end
end Go.Ab
