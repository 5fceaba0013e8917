import Derived.Test.YtajabcfngklacaaAb24n18
import Derived.OrdersHeld
set_option linter.unusedVariables false
set_option linter.unusedSimpArgs false
set_option linter.unusedSectionVars false
namespace Go.Ab
section
variable {P:Program} {F:Fr} {ops:Array Oper} {σ:St} {o:Oper} {a:Act} {w:World}
theorem zpm {Q d:Exit->Act->World->Prop} {K f:Act->World->Prop} {i:Nat} (g:∀ e a w,Q e a w->d e a w) (b:∀ a w,K a w->f a w) (h:wpOp P ops Q i K a w):wpOp P ops d i f a w:=by
 unfold wpOp at *
 split
 ·exact b _ _ (by simpa [*] using h)
 ·rename_i o j;simp only [j] at h;split
  ·rename_i c;simp only [c,if_true] at h;exact h.imp (Oper.wp_mono2 b g) (fun h=>⟨h.1,let ⟨a,w,h2⟩:=h.2;⟨a,w,g _ _ _ h2⟩⟩)
  ·rename_i c;simp only [c] at h;exact b _ _ h
theorem zjl {Q c:Exit->Act->World->Prop} (b:∀ e a w,Q e a w->c e a w):∀ (n:Nat) (li:Array Bool) (a:Act) (w:World),wpAny P .any ops Q n li a w->wpAny P .any ops c n li a w
 | 0,_,_,_,h=>⟨h.1,b _ _ _ h.2⟩
 | n+1,_,_,_,h=>⟨fun d=>b _ _ _ (h.1 d),fun i f=>zpm b (zjl b n _) (h.2 i f)⟩
theorem wpC_Q {Q b:Exit->Act->World->Prop} {c:Nat} {K:Act->World->Prop} (h:wpC P Q o c a w K):wpC P b o c a w K:=by
 match c,h with
 | 0,h=>exact h
 | 1,h=>exact h
 | _+2,h=>exact h
theorem zxF {Q:Exit->Act->World->Prop} {c i:Nat} {K:Act->World->Prop} (d:ops[i]? =some o) (h:if Region.wanted o (yielded ops a.tmps)=true then wpC P Q o c a w K else K (a.put o.dst undef) w):wpOp P ops Q i K a w:=by
 unfold wpOp;simp only [d];split
 ·rename_i b;rw [if_pos b] at h;refine .inl ?_
  match c,h with
  | 0,⟨v,h1,h2⟩=>exact zrk h1 h2
  | 1,h=>exact Oper.wp_mono2 (fun _ _ h=>h.2.2) (fun _ _ _ h=>h.elim) h
  | _+2,h=>exact Oper.wp_mono2 (fun _ _ h=>h.2) (fun _ _ _ h=>h.elim) h
 ·rename_i b;rw [if_neg b] at h;exact h
theorem AO.single {c:Nat} {KK:St->Prop} {K:Act->World->Prop} (h:AO P F ops [(c,o)] σ KK) (r:Rel F σ a w) (f:∀ σ' b w',KK σ'->Rel F σ' b w'->K b w') (Q:Exit->Act->World->Prop):
  if Region.wanted o (yielded ops a.tmps)=true then wpC P Q o c a w K else K (a.put o.dst undef) w:=by
 have:=h a w (fun e b w'=>match e with | .normal=>K b w' | _=>True) r f;rw [zhM] at this;split
 ·rename_i d;rw [if_pos d] at this;exact wpC_Q this
 ·rename_i d;rw [if_neg d] at this;exact this
theorem AW.any {id:Nat} {Q:Exit->St->Prop} (b:P.follows .mixedOrders=true)
  (h:∀ a w,Rel F σ a w->wpAny P .any ops (fun e a w=>e = .normal/\∃ σ',Q .normal σ'/\Rel F σ' a w) ops.size (Array.replicate ops.size false) a w):AW P F (.region id ops true) σ Q:=by
 intro a w r;exact wp_region_any b (zjl (fun e a w ⟨he,h⟩=>by subst he;exact h) _ _ _ _ (h a _ r.drew))
theorem zAl {Q:Exit->Act->World->Prop} {c i:Nat} {K:Act->World->Prop} (d:ops[i]? =some o) (f:c<=1) (h:if Region.wanted o (yielded ops a.tmps)=true then wpC P Q o c a w K else K (a.put o.dst undef) w):wpOp P ops Q i (fun e w'=>Ext w w'/\K e w') a w:=by
 unfold wpOp;simp only [d];split
 ·rename_i b;rw [if_pos b] at h;refine .inl ?_
  match c,h with
  | 0,⟨v,h1,h2⟩=>exact zrk h1 ⟨Ext.refl w,h2⟩
  | 1,h=>exact Oper.wp_mono2 (fun _ _ h=>h.2) (fun _ _ _ h=>h.elim) h
 ·rename_i b;rw [if_neg b] at h;exact ⟨Ext.refl w,h⟩
def zhG (P:Program) (ops:Array Oper) (Q:Exit->Act->World->Prop) (D:Nat->Bool) (B:Nat->Bool):Bool->Nat->Array Bool->Act->World->Prop
 | _,0,li,a,w=>Region.ready .any ops li=[]/\Q .normal a w
 | lv,n+1,li,a,w=>(Region.ready .any ops li=[]->Q .normal a w)/\
  ∀ j∈Region.ready .any ops li,(lv && B j)=false->wpOp P ops Q j (fun b w'=>((lv && !D j)=true->Ext w w')/\zhG P ops Q D B (lv && !D j) n (li.setIfInBounds j true) b w') a w
section
variable {Q:Exit->Act->World->Prop} {D B:Nat->Bool}
theorem zvG (b:∀ j,B j=false):∀ (n:Nat) (lv:Bool) (li:Array Bool) (a:Act) (w:World),zhG P ops Q D B lv n li a w->wpAny P .any ops Q n li a w
 | 0,_,_,_,_,h=>h
 | n+1,_,_,_,_,h=>⟨h.1,fun i c=>wpOp_mono (fun d w' h'=>zvG b n _ _ d w' h'.2) (h.2 i c (by rw [b i,Bool.and_false]))⟩
theorem zuK:∀ (n:Nat) (li:Array Bool) (a:Act) (w:World),wpAny P .any ops Q n li a w->zhG P ops Q D B false n li a w
 | 0,_,_,_,h=>h
 | n+1,_,_,_,h=>⟨h.1,fun i b _=>wpOp_mono (fun c w' h'=>⟨fun e=>by simp at e,by simpa using zuK n _ c w' h'⟩) (h.2 i b)⟩
theorem zsK:∀ (n:Nat) (li:Array Bool) (a:Act) (w:World),zhG P ops Q D B false n li a w->wpAny P .any ops Q n li a w
 | 0,_,_,_,h=>h
 | n+1,_,_,_,h=>⟨h.1,fun i b=>wpOp_mono (fun c w' h'=>zsK n _ c w' (by simpa using h'.2)) (h.2 i b (by rw [Bool.false_and]))⟩
theorem zjP {Q c:Exit->Act->World->Prop} (b:∀ e a w,Q e a w->c e a w):∀ (n:Nat) (lv:Bool) (li:Array Bool) (a:Act) (w:World),zhG P ops Q D B lv n li a w->zhG P ops c D B lv n li a w
 | 0,_,_,_,_,h=>⟨h.1,b _ _ _ h.2⟩
 | n+1,_,_,_,_,h=>⟨fun d=>b _ _ _ (h.1 d),fun i f g=>zpm b (fun _ _ h'=>⟨h'.1,zjP b n _ _ _ _ h'.2⟩) (h.2 i f g)⟩
theorem zsI {i:Nat} {s:Oper} {v:Value} (T:ops[i]? =some s) (q:∀ (j:Nat) (o:Oper) cs b,ops[j]? =some o->o.op ≠ .select cs b)
  (hQ:∀ c a w,Q (.panic c) (a.put s.dst v) w->Q (.panic c) a w) (W:Nat->Bool) (hW:∀ k,W k=true->∃ ok,ops[k]? =some ok/\∃ e∈ok.after,Region.binds .any e=true/\(e.on=i\/W e.on=true)) (hD:D i=false):
  ∀ (n:Nat) (f:Array Bool) (a:Act) (w:World),(∀ k,W k=true->f.getD k true=false)->
   (∀ j A,ops[j]? =some A->j≠i->f.getD j true=false->W j=false->s.apart ops A=true/\D j=false)->
   i∈Region.ready .any ops f->YieldsIf P ops (Ext w) s v a->
   zhG P ops Q D B true n (f.setIfInBounds i true) (a.put s.dst v) w->zhG P ops Q D B true (n+1) f a w:=by
 intro n;induction n with
 | zero=>
  intro f a w _ _ t R H;refine ⟨fun h=>(by rw [h] at t;cases t),fun j N C => ?_⟩;by_cases d:j=i
  ·subst d;exact R.wpOp T (Ext.refl w) ⟨fun _=>Ext.refl w,by rw [hD];exact H⟩
  ·have:=ready_mono N d;rw [H.1] at this;cases this
 | succ n ih=>
  intro f a w F g t R H;refine ⟨fun h=>(by rw [h] at t;cases t),fun j N C => ?_⟩;by_cases d:j=i
  ·subst d;exact R.wpOp T (Ext.refl w) ⟨fun _=>Ext.refl w,by rw [hD];exact H⟩
  ·have z:=H.2 j (ready_mono N d) C;obtain ⟨r,A,p,L⟩:=mem_ready.1 N;have I:∀ k,f.getD k true=false -> ¬ f.getD k false=true:=fun k h0 z=>by
    rcases Nat.lt_or_ge k f.size with h' | h'
    ·simp [h'] at h0 z;rw [h0] at z;cases z
    ·simp [Array.getElem?_eq_none h'] at z
   have u:W j=false:=by
    cases hw:W j with
    | false=>rfl
    | true=>
     obtain ⟨ok,M,e,he,hb,x⟩:=hW j hw;rw [p] at M;cases M;have S:=L e he hb;rcases x with rfl | x
     ·exact absurd S (I _ (mem_ready.1 t).1)
     ·exact absurd S (I _ (F _ x))
   obtain ⟨Z,y⟩:=g j A p d r u;have S:=wpOp_putIf p Z (fun cs b=>q i s cs b T) (fun cs b=>q j A cs b p) hQ R z;have J:∀ k,W k=true->(f.setIfInBounds j true).getD k true=false:=fun k O=>by
    by_cases l:j=k
    ·subst l;rw [O] at u;cases u
    ·rw [getD_set_ne true l];exact F k O
   have m:∀ k ok,ops[k]? =some ok->k≠i->(f.setIfInBounds j true).getD k true=false->W k=false->s.apart ops ok=true/\D k=false:=fun k ok O U E V=>by
    refine g k ok O U ?_ V;by_cases l:j=k
    ·subst l;exact r
    ·rw [getD_set_ne true l] at E;exact E
   refine wpOp_mono (fun a' w' X => ?_) S;have hx:=X.2.1 (by simp [y]);refine ⟨fun _=>hx,?_⟩;rw [y];refine ih (f.setIfInBounds j true) a' w' J m (ready_mono t (Ne.symm d)) (X.1.imp (fun ⟨g1,g2⟩=>⟨g1,fun Y h=>g2 Y (hx.trans h)⟩) id) ?_;rw [Array.setIfInBounds_comm _ _ d];have h4:=X.2.2;rw [y] at h4;exact h4
def Tame (P:Program) (o:Oper):Prop:=∀ (a:Act) (w:World),(∀ f args w',(execOp a.eval o).run P w ≠ .ok (.enter f args) w')/\∀ r args w',(execOp a.eval o).run P w ≠ .ok (.row r args) w'
theorem zCT {j:Nat} {b:Oper} (i:ops[j]? =some b) (k:Tame P b) {K e:Act->World->Prop} (h:wpOp P ops Q j K a w) (h':wpOp P ops Q j e a w):wpOp P ops Q j (fun g w'=>K g w'/\e g w') a w:=by
 obtain ⟨l,m⟩:=k a w;unfold wpOp at *
 simp only [i] at *
 split
 ·rename_i c;simp only [c,if_true] at h h';rcases h with h | h
  case inr=>exact .inr h
  rcases h' with h' | h'
  case inr=>exact .inr h'
  refine .inl ?_;unfold Oper.wp at *
  generalize o:(execOp a.eval b).run P w=r at *
  cases r with
  | ok n w'=>
   cases n<;>simp only [Oper.upon] at h h' ⊢
   case value u=>exact ⟨h,h'⟩
   case skip=>exact ⟨h,h'⟩
   case defer d=>exact ⟨h,h'⟩
   case enter f args=>exact absurd rfl (l f args w')
   case row row args=>exact absurd rfl (m row args w')
  | halt x w'=>
   cases x<;>simp only [Oper.upon] at h h' ⊢
   all_goals first | exact h | exact ⟨h,h'⟩
 ·rename_i c;simp only [c] at h h';exact ⟨h,h'⟩
theorem zvF {i:Nat} {u:Oper} {v:Value} {R:Nat->Bool} (V:ops[i]? =some u) (s:∀ (j:Nat) (o:Oper) cs b,ops[j]? =some o->o.op ≠ .select cs b)
  (hQ:∀ c a w,Q (.panic c) (a.put u.dst v) w->Q (.panic c) a w) (W:Nat->Bool) (hW:∀ k,W k=true->∃ ok,ops[k]? =some ok/\∃ e∈ok.after,Region.binds .any e=true/\(e.on=i\/W e.on=true)) (hD:D i=false)
  (X:∀ j,j≠i->R j=true->B j=true):
  ∀ (n:Nat) (f:Array Bool) (a:Act) (w:World),(∀ k,W k=true->f.getD k true=false)->
   (∀ j A,ops[j]? =some A->j≠i->f.getD j true=false->W j=false->D j=false->u.apart ops A=true/\Tame P A)->
   i∈Region.ready .any ops f->YieldsIf P ops (Ext w) u v a->
   zhG P ops Q D B true n (f.setIfInBounds i true) (a.put u.dst v) w->zhG P ops Q D R true (n+1) f a w->zhG P ops Q D B true (n+1) f a w:=by
 intro n;induction n with
 | zero=>
  intro f a w _ _ x T H H2;refine ⟨fun h=>(by rw [h] at x;cases x),fun j E g => ?_⟩;by_cases d:j=i
  ·subst d;exact T.wpOp V (Ext.refl w) ⟨fun _=>Ext.refl w,by rw [hD];exact H⟩
  ·have:=ready_mono E d;rw [H.1] at this;cases this
 | succ n ih=>
  intro f a w I l x T H H2;refine ⟨fun h=>(by rw [h] at x;cases x),fun j E g => ?_⟩;by_cases d:j=i
  ·subst d;exact T.wpOp V (Ext.refl w) ⟨fun _=>Ext.refl w,by rw [hD];exact H⟩
  ·have a3:(true && R j)=false:=by
    rw [Bool.true_and] at g ⊢;cases hb:R j with
    | false=>rfl
    | true=>rw [X j d hb] at g;cases g
   have J:=H2.2 j E a3;cases r:D j with
   | true=>
    rw [r] at J;refine wpOp_mono (fun a' w' Y=>⟨fun e=>by simp at e,?_⟩) J;exact zuK _ _ _ _ (zsK _ _ _ _ Y.2)
   | false=>
   have C:=H.2 j (ready_mono E d) g;obtain ⟨t,A,p,N⟩:=mem_ready.1 E;have L:∀ k,f.getD k true=false -> ¬ f.getD k false=true:=fun k h0 C=>by
    rcases Nat.lt_or_ge k f.size with h' | h'
    ·simp [h'] at h0 C;rw [h0] at C;cases C
    ·simp [Array.getElem?_eq_none h'] at C
   have y:W j=false:=by
    cases hw:W j with
    | false=>rfl
    | true=>
     obtain ⟨ok,O,e,he,hb,z⟩:=hW j hw;rw [p] at O;cases O;have U:=N e he hb;rcases z with rfl | z
     ·exact absurd U (L _ (mem_ready.1 x).1)
     ·exact absurd U (L _ (I _ z))
   obtain ⟨hap,htm⟩:=l j A p d t y r;have U:=zCT p htm (wpOp_putIf p hap (fun cs b=>s i u cs b V) (fun cs b=>s j A cs b p) hQ T C) J;have M:∀ k,W k=true->(f.setIfInBounds j true).getD k true=false:=fun k S=>by
    by_cases m:j=k
    ·subst m;rw [S] at y;cases y
    ·rw [getD_set_ne true m];exact I k S
   have q:∀ k ok,ops[k]? =some ok->k≠i->(f.setIfInBounds j true).getD k true=false->W k=false->D k=false->u.apart ops ok=true/\Tame P ok:=fun k ok S Z F a0 a1=>by
    refine l k ok S Z ?_ a0 a1;by_cases m:j=k
    ·subst m;exact t
    ·rw [getD_set_ne true m] at F;exact F
   refine wpOp_mono (fun a' w' Y => ?_) U;obtain ⟨⟨k1,k2,k3⟩,_,k5⟩:=Y;have hx:=k2 (by simp [r]);refine ⟨fun _=>hx,?_⟩;rw [r] at k3 k5;refine ih (f.setIfInBounds j true) a' w' M q (ready_mono x (Ne.symm d)) (k1.imp (fun ⟨g1,J⟩=>⟨g1,fun a2 h=>J a2 (hx.trans h)⟩) id) ?_ k5;rw [Array.setIfInBounds_comm _ _ d];exact k3
theorem zuL {i:Nat} {q:Oper} {v:Value} (J:ops[i]? =some q) (m:∀ (j:Nat) (o:Oper) cs b,ops[j]? =some o->o.op ≠ .select cs b)
  (V:∀ c a w,Q (.panic c) (a.put q.dst v) w->Q (.panic c) a w) (T:D i=false):
  ∀ (n:Nat) (E:Bool) (f:Array Bool) (a:Act) (w:World),
   (∀ j t,ops[j]? =some t->j≠i->f.getD j true=false->(∀ e∈t.after,Region.binds .any e=true->e.on≠i)->q.apart ops t=true)->
   i∈Region.ready .any ops f->YieldsIf P ops (fun _=>True) q v a->
   zhG P ops Q D B E n (f.setIfInBounds i true) (a.put q.dst v) w->zhG P ops Q D B E (n+1) f a w:=by
 intro n;induction n with
 | zero=>
  intro E f a w _ r F H;refine ⟨fun h=>(by rw [h] at r;cases r),fun j C x => ?_⟩;by_cases d:j=i
  ·subst d;exact F.wpOp J trivial ⟨fun _=>Ext.refl w,by rw [T,Bool.not_false,Bool.and_true];exact H⟩
  ·have:=ready_mono C d;rw [H.1] at this;cases this
 | succ n ih=>
  intro E f a w g r F H;refine ⟨fun h=>(by rw [h] at r;cases r),fun j C x => ?_⟩;by_cases d:j=i
  ·subst d;exact F.wpOp J trivial ⟨fun _=>Ext.refl w,by rw [T,Bool.not_false,Bool.and_true];exact H⟩
  ·have u:=H.2 j (ready_mono C d) x;obtain ⟨p,t,s,A⟩:=mem_ready.1 C;have R:∀ k,f.getD k true=false -> ¬ f.getD k false=true:=fun k U u=>by
    rcases Nat.lt_or_ge k f.size with h' | h'
    ·simp [h'] at U u;rw [U] at u;cases u
    ·simp [Array.getElem?_eq_none h'] at u
   have S:=g j t s d p (fun e W X L=>by
    have I:=A e W X;rw [L] at I;exact R _ (mem_ready.1 r).1 I)
   have I:=wpOp_putIf s S (fun cs b=>m i q cs b J) (fun cs b=>m j t cs b s) V F u;have l:∀ k ok,ops[k]? =some ok->k≠i->(f.setIfInBounds j true).getD k true=false->(∀ e∈ok.after,Region.binds .any e=true->e.on≠i)->q.apart ops ok=true:=fun k ok Y M y N=>by
    refine g k ok Y M ?_ N;by_cases z:j=k
    ·subst z;exact p
    ·rw [getD_set_ne true z] at y;exact y
   refine wpOp_mono (fun Z w' O=>⟨O.2.1,?_⟩) I;refine ih _ (f.setIfInBounds j true) Z w' l (ready_mono r (Ne.symm d)) O.1 ?_;rw [Array.setIfInBounds_comm _ _ d];exact O.2.2
def zD9 (o:Oper):Bool:=match o.op with
 | .move _ | .assign _ | .alloc _ | .box _ _ | .build _ _ | .buildSlice _ _ _ | .load _ _ | .binOp _ _ _ _ _ | .unOp _ _ _ | .convert _ _ _ | .makeFunc _ _ _ | .makeSlice _ _ _ | .slice _ _ _ _ _ | .fieldAddr _ _ _ | .field _ _ _ | .indexAddr _ _ _ | .index _ _ _ | .store _ _ _=>true
 | _=>false
theorem zFk {s:Sem Value} {w:World}:(∃ v w',((do pure (Next.value (<- s))):Sem Next).run P w = .ok (.value v) w')\/∃ x w',((do pure (Next.value (<- s))):Sem Next).run P w = .halt x w':=by
 have e:=Sem.run_bind' P s (fun v=>(pure (Next.value v):Sem Next)) w;cases hs:s.run P w with
 | ok v w'=>exact .inl ⟨v,w',by rw [hs] at e;exact e⟩
 | halt x w'=>exact .inr ⟨x,w',by rw [hs] at e;exact e⟩
theorem zFj {s:Sem Unit} {w:World}:(∃ w',((do s;pure Next.skip):Sem Next).run P w = .ok .skip w')\/∃ x w',((do s;pure Next.skip):Sem Next).run P w = .halt x w':=by
 have e:=Sem.run_bind' P s (fun _=>(pure Next.skip:Sem Next)) w;cases hs:s.run P w with
 | ok v w'=>exact .inl ⟨w',by rw [hs] at e;exact e⟩
 | halt x w'=>exact .inr ⟨x,w',by rw [hs] at e;exact e⟩
theorem zEa {o:Oper} (h:zD9 o=true):Tame P o:=by
 intro a w;have fin:∀ {r:Result Next},((∃ v w',r = .ok (.value v) w')\/∃ x w',r = .halt x w')->(∀ f args w',r ≠ .ok (.enter f args) w')/\∀ x args w',r ≠ .ok (.row x args) w':=by
  rintro r (⟨v,w',rfl⟩ | ⟨x,w',rfl⟩)
  ·exact ⟨fun _ _ _ e=>(by cases e),fun _ _ _ e=>(by cases e)⟩
  ·exact ⟨fun _ _ _ e=>(by cases e),fun _ _ _ e=>(by cases e)⟩
 have b:∀ {r:Result Next},((∃ w',r = .ok .skip w')\/∃ x w',r = .halt x w')->(∀ f args w',r ≠ .ok (.enter f args) w')/\∀ x args w',r ≠ .ok (.row x args) w':=by
  rintro r (⟨w',rfl⟩ | ⟨x,w',rfl⟩)
  ·exact ⟨fun _ _ _ e=>(by cases e),fun _ _ _ e=>(by cases e)⟩
  ·exact ⟨fun _ _ _ e=>(by cases e),fun _ _ _ e=>(by cases e)⟩
 unfold zD9 at h;unfold execOp;split at h
 all_goals (rename_i c;simp only [c])
 all_goals first
  | exact fin (zFk (P:=P))
  | exact b (zFj (P:=P))
  | exact fin (.inl ⟨_,_,rfl⟩)
  | cases h
end
end
set_option linter.unusedVariables false
section
variable {P:Program} {ops:Array Oper}
structure PD where
 W:Nat->Bool
 J:World->Prop
def zgB (P:Program) (ops:Array Oper) (Q:Exit->Act->World->Prop):Nat->List PD->Array Bool->Act->World->Prop
 | 0,_,li,a,w=>Region.ready .any ops li=[]/\Q .normal a w
 | n+1,L,li,a,w=>(Region.ready .any ops li=[]->Q .normal a w)/\
  ∀ j∈Region.ready .any ops li,wpOp P ops Q j (fun b w'=>(∀ p∈L,p.W j=false->p.J w')/\zgB P ops Q n (L.filter fun p => !p.W j) (li.setIfInBounds j true) b w') a w
variable {Q:Exit->Act->World->Prop}
theorem zr0:∀ (n:Nat) (li:Array Bool) (a:Act) (w:World),zgB P ops Q n [] li a w->wpAny P .any ops Q n li a w
 | 0,_,_,_,h=>h
 | n+1,_,_,_,h=>⟨h.1,fun i b=>wpOp_mono (fun c w' h'=>zr0 n _ c w' h'.2) (h.2 i b)⟩
theorem zm6:∀ (n:Nat) (L L':List PD) (li:Array Bool) (a:Act) (w:World),(∀ p∈L',p∈L)->zgB P ops Q n L li a w->zgB P ops Q n L' li a w
 | 0,_,_,_,_,_,_,h=>h
 | n+1,L,L',_,_,_,hs,h=>⟨h.1,fun i c=>wpOp_mono (fun d w' h'=>⟨fun p b=>h'.1 p (hs p b),zm6 n _ _ _ d w' (fun p b=>by
   rw [List.mem_filter] at b ⊢;exact ⟨hs p b.1,b.2⟩) h'.2⟩) (h.2 i c)⟩
theorem zeW {c:Exit->Act->World->Prop} (b:∀ e a w,Q e a w->c e a w):∀ (n:Nat) (L:List PD) (li:Array Bool) (a:Act) (w:World),zgB P ops Q n L li a w->zgB P ops c n L li a w
 | 0,_,_,_,_,h=>⟨h.1,b _ _ _ h.2⟩
 | n+1,_,_,_,_,h=>⟨fun d=>b _ _ _ (h.1 d),fun i f=>zpm b (fun _ _ h'=>⟨h'.1,zeW b n _ _ _ _ h'.2⟩) (h.2 i f)⟩
theorem zsJ {i:Nat} {y:Oper} {v:Value} (p:PD) (V:ops[i]? =some y) (u:∀ (j:Nat) (o:Oper) cs b,ops[j]? =some o->o.op ≠ .select cs b)
  (hQ:∀ c a w,Q (.panic c) (a.put y.dst v) w->Q (.panic c) a w) (hW:∀ k,p.W k=true->∃ ok,ops[k]? =some ok/\∃ e∈ok.after,Region.binds .any e=true/\(e.on=i\/p.W e.on=true)):
  ∀ (n:Nat) (L:List PD) (g:Array Bool) (a:Act) (w:World),(∀ k,p.W k=true->g.getD k true=false)->
   (∀ j C,ops[j]? =some C->j≠i->g.getD j true=false->p.W j=false->y.apart ops C=true)->
   i∈Region.ready .any ops g->YieldsIf P ops p.J y v a->p.J w->(∀ q∈L,q.J w)->
   zgB P ops Q n (p::L) (g.setIfInBounds i true) (a.put y.dst v) w->zgB P ops Q (n+1) L g a w:=by
 intro n;induction n with
 | zero=>
  intro L g a w _ _ z T Z hL H;refine ⟨fun h=>(by rw [h] at z;cases z),fun j R => ?_⟩;by_cases d:j=i
  ·subst d;exact T.wpOp V Z ⟨fun q f _=>hL q f,zm6 0 _ _ _ _ _ (fun q f=>List.mem_cons_of_mem _ (List.mem_filter.1 f).1) H⟩
  ·have:=ready_mono R d;rw [H.1] at this;cases this
 | succ n ih=>
  intro L g a w E l z T Z hL H;refine ⟨fun h=>(by rw [h] at z;cases z),fun j R => ?_⟩;by_cases d:j=i
  ·subst d;exact T.wpOp V Z ⟨fun q f _=>hL q f,zm6 (n+1) _ _ _ _ _ (fun q f=>List.mem_cons_of_mem _ (List.mem_filter.1 f).1) H⟩
  ·have B:=H.2 j (ready_mono R d);obtain ⟨x,C,t,N⟩:=mem_ready.1 R;have F:∀ k,g.getD k true=false -> ¬ g.getD k false=true:=fun k h0 B=>by
    rcases Nat.lt_or_ge k g.size with h' | h'
    ·simp [h'] at h0 B;rw [h0] at B;cases B
    ·simp [Array.getElem?_eq_none h'] at B
   have m:p.W j=false:=by
    cases hw:p.W j with
    | false=>rfl
    | true=>
     obtain ⟨ok,O,e,he,hb,A⟩:=hW j hw;rw [t] at O;cases O;have U:=N e he hb;rcases A with rfl | A
     ·exact absurd U (F _ (mem_ready.1 z).1)
     ·exact absurd U (F _ (E _ A))
   have hap:=l j C t d x m;have U:=wpOp_putIf t hap (fun cs b=>u i y cs b V) (fun cs b=>u j C cs b t) hQ T B;have I:∀ k,p.W k=true->(g.setIfInBounds j true).getD k true=false:=fun k S=>by
    by_cases r:j=k
    ·subst r;rw [S] at m;cases m
    ·rw [getD_set_ne true r];exact E k S
   have s:∀ k ok,ops[k]? =some ok->k≠i->(g.setIfInBounds j true).getD k true=false->p.W k=false->y.apart ops ok=true:=fun k ok S W D X=>by
    refine l k ok S W ?_ X;by_cases r:j=k
    ·subst r;exact x
    ·rw [getD_set_ne true r] at D;exact D
   refine wpOp_mono (fun a' w' h3 => ?_) U;obtain ⟨g1,g2,g3⟩:=h3;have J:∀ q∈L,q.W j=false->q.J w':=fun q f Y=>g2 q (List.mem_cons_of_mem _ f) Y
   refine ⟨J,?_⟩;have M:(p::L).filter (fun p => !p.W j)=p::L.filter fun p => !p.W j:=by
    rw [List.filter_cons,if_pos (by rw [m];rfl)]
   rw [M] at g3;refine ih _ (g.setIfInBounds j true) a' w' I s (ready_mono z (Ne.symm d)) g1 (g2 p (List.mem_cons_self ..) m) (fun q f => ?_) ?_
   ·rw [List.mem_filter] at f;exact J q f.1 (by simpa using f.2)
   ·rw [Array.setIfInBounds_comm _ _ d];exact g3
theorem znw {i:Nat} {s:Oper} {v:Value} (F:ops[i]? =some s) (p:∀ (j:Nat) (o:Oper) cs b,ops[j]? =some o->o.op ≠ .select cs b)
  (U:∀ c a w,Q (.panic c) (a.put s.dst v) w->Q (.panic c) a w):
  ∀ (n:Nat) (L:List PD) (l:Array Bool) (a:Act) (w:World),
   (∀ j x,ops[j]? =some x->j≠i->l.getD j true=false->(∀ e∈x.after,Region.binds .any e=true->e.on≠i)->s.apart ops x=true)->
   i∈Region.ready .any ops l->YieldsIf P ops (fun _=>True) s v a->(∀ q∈L,q.J w)->
   zgB P ops Q n L (l.setIfInBounds i true) (a.put s.dst v) w->zgB P ops Q (n+1) L l a w:=by
 intro n;induction n with
 | zero=>
  intro L l a w f t D N H;refine ⟨fun h=>(by rw [h] at t;cases t),fun j C => ?_⟩;by_cases d:j=i
  ·subst d;exact D.wpOp F trivial ⟨fun q g _=>N q g,zm6 0 _ _ _ _ _ (fun q g=>(List.mem_filter.1 g).1) H⟩
  ·have:=ready_mono C d;rw [H.1] at this;cases this
 | succ n ih=>
  intro L l a w f t D N H;refine ⟨fun h=>(by rw [h] at t;cases t),fun j C => ?_⟩;by_cases d:j=i
  ·subst d;exact D.wpOp F trivial ⟨fun q g _=>N q g,zm6 (n+1) _ _ _ _ _ (fun q g=>(List.mem_filter.1 g).1) H⟩
  ·have y:=H.2 j (ready_mono C d);obtain ⟨r,x,u,B⟩:=mem_ready.1 C;have O:∀ k,l.getD k true=false -> ¬ l.getD k false=true:=fun k S y=>by
    rcases Nat.lt_or_ge k l.size with h' | h'
    ·simp [h'] at S y;rw [S] at y;cases y
    ·simp [Array.getElem?_eq_none h'] at y
   have R:=f j x u d r (fun e V W I=>by
    have E:=B e V W;rw [I] at E;exact O _ (mem_ready.1 t).1 E)
   have E:=wpOp_putIf u R (fun cs b=>p i s cs b F) (fun cs b=>p j x cs b u) U D y;have m:∀ k ok,ops[k]? =some ok->k≠i->(l.setIfInBounds j true).getD k true=false->(∀ e∈ok.after,Region.binds .any e=true->e.on≠i)->s.apart ops ok=true:=fun k ok X J z M=>by
    refine f k ok X J ?_ M;by_cases A:j=k
    ·subst A;exact r
    ·rw [getD_set_ne true A] at z;exact z
   refine wpOp_mono (fun Y w' Z => ?_) E;obtain ⟨g1,T,g3⟩:=Z;refine ⟨T,?_⟩;refine ih _ (l.setIfInBounds j true) Y w' m (ready_mono t (Ne.symm d)) g1 (fun q g => ?_) ?_
   ·rw [List.mem_filter] at g;exact T q g.1 (by simpa using g.2)
   ·rw [Array.setIfInBounds_comm _ _ d];exact g3
theorem zr1 {o:Oper} {a:Act} {w:World} {c i:Nat} {K:Act->World->Prop} (e:ops[i]? =some o) (h:if Region.wanted o (yielded ops a.tmps)=true then wpC P Q o c a w K else K (a.put o.dst undef) w):
  wpOp P ops Q i (fun d w'=>(∃ u,d=a.put o.dst u)/\(c<=1->Ext w w')/\K d w') a w:=by
 unfold wpOp;simp only [e];split
 ·rename_i b;rw [if_pos b] at h;refine .inl ?_
  match c,h with
  | 0,⟨v,h1,h2⟩=>exact zrk h1 ⟨⟨v,rfl⟩,fun _=>Ext.refl w,h2⟩
  | 1,h=>exact Oper.wp_mono2 (fun _ _ h=>⟨h.1,fun _=>h.2.1,h.2.2⟩) (fun _ _ _ h=>h.elim) h
  | c+2,h=>exact Oper.wp_mono2 (fun _ _ h=>⟨h.1,fun f=>by omega,h.2⟩) (fun _ _ _ h=>h.elim) h
 ·rename_i b;rw [if_neg b] at h;exact ⟨⟨undef,rfl⟩,fun _=>Ext.refl w,h⟩
theorem zBK {F:Fr} {σ:St} {H:Hd} {a:Act} {w:World} (r:RelH F σ H a w):∃ j:Fr,RelH j σ H a w/\(∀ σ' i w',Rel j σ' i w'->Rel F σ' i w')/\
  ∀ b,Sh F.X σ.ent H w b->∀ σ' i w',Rel j σ' i w'->w'.heap[b]? =w.heap[b]? :=by
 refine ⟨⟨w,fun b=>∃ id e v,σ.ent id=some e/\H id=some v/\blk v=some b,F.X,F.H0,F.D⟩,⟨r.size,r.defs,rfl,rfl,rfl,Nat.le_refl _,fun _ _ _=>rfl,fun b g=>Nat.lt_of_lt_of_le (r.xlt b g) r.grow,r.fresh,r.pin,r.ent,fun id e v b c d f=>⟨.inr ⟨id,e,v,c,d,f⟩,(r.own id e v b c d f).2⟩,r.inj,r.slot⟩,?_,?_⟩
 ·rintro σ' i w' ⟨H',r'⟩;refine ⟨H',r'.size,r'.defs,r'.os.trans r.os,r'.tape.trans r.tape,r'.output.trans r.output,Nat.le_trans r.grow r'.grow,fun b g l => ?_,r.xlt,r'.fresh,r'.pin,r'.ent,fun id e v b c d f => ?_,r'.inj,r'.slot⟩
  ·refine (r'.keep b (Nat.lt_of_lt_of_le g r.grow) ?_).trans (r.keep b g l);rintro ⟨id,e,v,c,d,f⟩;rcases (r.own id e v b c d f).1 with h | h
   ·omega
   ·exact l h
  ·obtain ⟨k,m⟩:=r'.own id e v b c d f;refine ⟨?_,m⟩;rcases k with k | ⟨id',e',v',k1,k2,k3⟩
   ·exact .inl (Nat.le_trans r.grow k)
   ·exact (r.own id' e' v' b k1 k2 k3).1
 ·rintro b g σ' i w' ⟨H',r'⟩;exact r'.keep b g.1 fun ⟨id,e,v,c,d,f⟩=>g.2.2 id e v c d f
theorem zqK {F:Fr} {σ:St} {H:Hd} {a:Act} {w:World} {o:Oper} {t:TypeId} {x:Operand} {c:D} (r:RelH F σ H a w) (h:o.op = .load t x) (q:σ.ev x=some (.addr c)) (hs:c.cells=[c]/\(∃ dsc,P.underlying t=some dsc/\dAgg dsc=false)\/
  ∃ l size bytes z,c = .agg l/\TI P t true size bytes z/\l.length=size):∃ b v,Sh F.X σ.ent H w b/\∀ w',w'.heap[b]? =w.heap[b]? ->(execOp a.eval o).run P w' = .ok (.value v) w':=by
 have i:=r.ev q;generalize m:a.eval x=u at i;cases i with
 | addr _ b k f n d p=>
  rcases hs with ⟨A,dsc,g,B⟩ | ⟨l,size,bytes,z,rfl,g,rfl⟩
  ·have y:=d 0 (by rw [A];simp);refine ⟨b,f 0,n,fun w' e => ?_⟩;simp only [execOp,h,m,Instr.loadAt,Instr.sureAddr];have:=zoJ (w:=w') g B (show w'.cell? ⟨b,k+0,none⟩=some (f 0) from (World.cell?_of_block (w:=w) (w':=w') (a:=⟨b,k+0,none⟩) e).trans y);rw [Nat.add_zero] at this;simp [this]
  ·refine ⟨b,.agg ((Array.range l.length).map f),n,fun w' e => ?_⟩;simp only [execOp,h,m,Instr.loadAt,Instr.sureAddr];have:=zmS (w:=w') g rfl (b:=b) (off:=k) (f:=f) (fun j s=>(World.cell?_of_block (w:=w) (w':=w') (a:=⟨b,k+j,none⟩) e).trans (d j s));simp [this]
end
end Go.Ab
