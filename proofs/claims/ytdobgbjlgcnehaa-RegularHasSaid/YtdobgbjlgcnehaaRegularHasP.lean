/- The law 'RegularHas' of the plain functions. -/
import Derived.Test.YtdobgbjlgcnehaaRegularHasD
set_option maxHeartbeats 1000000
set_option maxRecDepth 20000
set_option linter.unusedSimpArgs false
set_option linter.unusedVariables false
set_option linter.unusedSectionVars false
namespace Go.Proofs.Ytdobgbjlgcnehaa.regularHasW
open Go Go.Ab
def zif (o:Option Bool) (P:Prop):Prop:=∃ b,o=some b/\(b=true↔P)
theorem zif.of {b:Bool} {P:Prop} (h:b=true↔P):zif (some b) P:=⟨b,rfl,h⟩
theorem zif.dec {P Q:Prop} [Decidable P] (h:P↔Q):zif (some (decide P)) Q:=⟨_,rfl,by simpa using h⟩
theorem zif.iff {o:Option Bool} {P Q:Prop} (h:zif o P) (k:P↔Q):zif o Q:=let ⟨b,h1,h2⟩:=h;⟨b,h1,h2.trans k⟩
theorem zif.eq {o:Option Bool} {P:Prop} [Decidable P] (h:zif o P):o=some (decide P):=by
 obtain ⟨b,rfl,hb⟩:=h;by_cases hp:P
 ·simp [hp,hb.2 hp]
 ·have:b=false:=by cases b;rfl;exact absurd (hb.1 rfl) hp
  simp [hp,this]
theorem zif.to {R:Type} {o:Option Bool} {P:Prop} {k1 k2 x:Option R} (h:zif o P) (h1:P->k1=x) (h2 : ¬ P->k2=x):(o.bind fun y=>if y=true then k1 else k2)=x:=by
 obtain ⟨b,rfl,hb⟩:=h;refine za5 rfl ?_
 cases b
 ·exact h2 fun hp=>by simpa using hb.2 hp
 ·exact h1 (hb.1 rfl)
theorem zif.bind {R:Type} {o:Option Bool} {P:Prop} {k:Bool->Option R} {x:Option R} (h:zif o P) (h1:∀ b,(b=true↔P)->k b=x):o.bind k=x:=by
 obtain ⟨b,rfl,hb⟩:=h;exact h1 b hb
section
variable {α C:Type} [Inhabited α]
theorem zrZ {l:List α} {P:α->Prop}:(∃ x∈l,P x)↔∃ i:Int,0<=i/\i < l.length/\P (ix l i):=by
 constructor
 ·rintro ⟨x,hx,hp⟩;obtain ⟨i,hi,rfl⟩:=List.mem_iff_getElem.1 hx;refine ⟨i,by omega,by omega,?_⟩
  rwa [zli (by omega) (by omega)]
 ·rintro ⟨i,h0,h1,hp⟩;exact ⟨_,zge h0 h1,hp⟩
theorem zpY {s:List α} {f:α->Option Bool} {L:Int->Option Int} {P:α->Prop} (hs:s.length<=4611686018427387904)
  (hL:∀ t,L t=if decide (t < (s.length:Int))=true then G (0<=t/\t < (s.length:Int)) ((f (ix s t)).bind fun y=>if y=true then some t else G (fits (t+1)) (L (t+1))) else some (-1))
  (hf:∀ x∈s,zif (f x) (P x)):∀ (n:Nat) (t:Int),0<=t->t<=s.length->(s.length - t).toNat=n->
   ∃ i,L t=some i/\((i = -1/\∀ j:Int,t<=j->j < s.length -> ¬ P (ix s j))\/(t<=i/\i < s.length/\P (ix s i)/\∀ j:Int,t<=j->j < i -> ¬ P (ix s j))):=by
 intro n
 induction n with
 | zero=>
  intro t h0 h1 hn;refine ⟨-1,?_,.inl ⟨rfl,fun j a b=>by omega⟩⟩
  rw [hL,if_neg (by simp;omega)]
 | succ n ih=>
  intro t h0 h1 hn;rw [hL,if_pos (by simp;omega),zat (by omega)]
  obtain ⟨b,hb,hbp⟩:=hf _ (zge h0 (by omega:t < s.length))
  rw [hb]
  cases b with
  | true=>exact ⟨t,rfl,.inr ⟨by omega,by omega,hbp.1 rfl,fun j a b=>by omega⟩⟩
  | false=>
   have hnp : ¬ P (ix s t):=fun hp=>by simpa using hbp.2 hp
   obtain ⟨i,hi,hc⟩:=ih (t+1) (by omega) (by omega) (by omega)
   refine ⟨i,?_,?_⟩
   ·refine (if_neg (by simp):(if false=true then some t else G (fits (t+1)) (L (t+1)))=_).trans ?_
    rw [zat (by unfold fits;omega),hi]
   ·rcases hc with ⟨h2,h3⟩ | ⟨h2,h3,h4,h5⟩
    ·refine .inl ⟨h2,fun j a b => ?_⟩
     by_cases e:j=t
     ·rw [e];exact hnp
     ·exact h3 j (by omega) b
    ·refine .inr ⟨by omega,h3,h4,fun j a b => ?_⟩
     by_cases e:j=t
     ·rw [e];exact hnp
     ·exact h5 j (by omega) b
theorem zrN {s:List α} {f:α->Option Bool} {L:Int->Option Int} {P:α->Prop}
  (hL:∀ t,L t=if decide (t < (s.length:Int))=true then G (0<=t/\t < (s.length:Int)) ((f (ix s t)).bind fun y=>if y=true then some t else G (fits (t+1)) (L (t+1))) else some (-1))
  (hs:s.length<=4611686018427387904) (hf:∀ x∈s,zif (f x) (P x)):zif ((L 0).bind fun y=>some (decide ((0:Int)<=y))) (∃ x∈s,P x):=by
 obtain ⟨i,hi,hc⟩:=zpY hs hL hf _ 0 (by omega) (by omega) rfl
 rw [hi];refine ⟨decide (0<=i),rfl,?_⟩
 rw [decide_eq_true_iff,zrZ];rcases hc with ⟨h2,h3⟩ | ⟨h2,h3,h4,h5⟩
 ·constructor
  ·intro h;omega
  ·rintro ⟨j,h0,h1,hp⟩;exact absurd hp (h3 j h0 h1)
 ·exact ⟨fun _=>⟨i,by omega,h3,h4⟩,fun _=>by omega⟩
theorem zqz {s:List α} {c:C} {f:α->C->Option (Bool×C)} {L:Int->C->Option (Int×C)} {P:α->Prop}
  (hL:∀ t c,L t c=if decide (t < (s.length:Int))=true then G (0<=t/\t < (s.length:Int)) ((f (ix s t) c).bind fun y=>if y.1=true then some (t,y.2) else G (fits (t+1)) (L (t+1) y.2)) else some (-1,c))
  (hs:s.length<=4611686018427387904) (hf:∀ x∈s,∃ b,f x c=some (b,c)/\(b=true↔P x)):∃ b,((L 0 c).bind fun y=>some (decide ((0:Int)<=y.1),y.2))=some (b,c)/\(b=true↔∃ x∈s,P x):=by
 have key:∀ (n:Nat) (t:Int),0<=t->t<=s.length->(s.length - t).toNat=n->
   ∃ i,L t c=some (i,c)/\((i = -1/\∀ j:Int,t<=j->j < s.length -> ¬ P (ix s j))\/(t<=i/\i < s.length/\P (ix s i))):=by
  intro n
  induction n with
  | zero=>
   intro t h0 h1 hn;refine ⟨-1,?_,.inl ⟨rfl,fun j a b=>by omega⟩⟩
   rw [hL,if_neg (by simp;omega)]
  | succ n ih=>
   intro t h0 h1 hn;rw [hL,if_pos (by simp;omega),zat (by omega)]
   obtain ⟨b,hb,hbp⟩:=hf _ (zge h0 (by omega:t < s.length))
   rw [hb]
   cases b with
   | true=>exact ⟨t,rfl,.inr ⟨by omega,by omega,hbp.1 rfl⟩⟩
   | false=>
    have hnp : ¬ P (ix s t):=fun hp=>by simpa using hbp.2 hp
    obtain ⟨i,hi,hc⟩:=ih (t+1) (by omega) (by omega) (by omega)
    refine ⟨i,?_,?_⟩
    ·refine (if_neg (by simp):(if false=true then some (t,c) else G (fits (t+1)) (L (t+1) c))=_).trans ?_
     rw [zat (by unfold fits;omega),hi]
    ·rcases hc with ⟨h2,h3⟩ | ⟨h2,h3,h4⟩
     ·refine .inl ⟨h2,fun j a b => ?_⟩
      by_cases e:j=t
      ·rw [e];exact hnp
      ·exact h3 j (by omega) b
     ·exact .inr ⟨by omega,h3,h4⟩
 obtain ⟨i,hi,hc⟩:=key _ 0 (by omega) (by omega) rfl
 rw [hi];refine ⟨decide (0<=i),rfl,?_⟩
 rw [decide_eq_true_iff,zrZ];rcases hc with ⟨h2,h3⟩ | ⟨h2,h3,h4⟩
 ·constructor
  ·intro h;omega
  ·rintro ⟨j,h0,h1,hp⟩;exact absurd hp (h3 j h0 h1)
 ·exact ⟨fun _=>⟨i,by omega,h3,h4⟩,fun _=>by omega⟩
end
theorem zrE {R:Type} {len:Int} {L:Int->Option R} {bad:Int->Prop} {x:Option R} {lo:Int} (h0:lo<=len)
  (hs:∀ t,lo<=t->t < len->(bad t->L t=x)/\(¬ bad t->L t=L (t+1))) (hf:(∀ t,lo<=t->t < len -> ¬ bad t)->L len=x):L lo=x:=by
 have key:∀ (n:Nat) (t:Int),lo<=t->t<=len->(len - t).toNat=n->(∀ j,lo<=j->j < t -> ¬ bad j)->L t=x:=by
  intro n
  induction n with
  | zero=>
   intro t h1 h2 hn h;obtain rfl:t=len:=by omega
   exact hf h
  | succ n ih=>
   intro t h1 h2 hn h;by_cases hb:bad t
   ·exact (hs t h1 (by omega)).1 hb
   ·rw [(hs t h1 (by omega)).2 hb]
    refine ih (t+1) (by omega) (by omega) (by omega) fun j a b => ?_
    by_cases e:j=t
    ·rw [e];exact hb
    ·exact h j a (by omega)
 exact key _ lo (Int.le_refl _) h0 rfl (fun j a b=>by omega)
theorem zq3 {R S:Type} {len:Int} {L:Int->S->Option R} {f:Int->S->S} {lo:Int} {I:Int->S->Prop} {s:S} (h0:lo<=len) (hI:I lo s)
  (hs:∀ t s,lo<=t->t < len->I t s->L t s=L (t+1) (f t s)/\I (t+1) (f t s)):∃ s',I len s'/\L lo s=L len s':=by
 have key:∀ (n:Nat) (t:Int) (s:S),lo<=t->t<=len->(len - t).toNat=n->I t s->∃ s',I len s'/\L t s=L len s':=by
  intro n
  induction n with
  | zero=>
   intro t s h1 h2 hn h;obtain rfl:t=len:=by omega
   exact ⟨s,h,rfl⟩
  | succ n ih=>
   intro t s h1 h2 hn h;obtain ⟨e,h3⟩:=hs t s h1 (by omega) h
   obtain ⟨s',h4,h5⟩:=ih (t+1) _ (by omega) (by omega) (by omega) h3
   exact ⟨s',h4,e.trans h5⟩
 exact key _ lo s (Int.le_refl _) h0 rfl hI
theorem zgI {s:List Int} (hs:s.length * 8<=140737488355328):za4 s=some s:=by
 have hr:G (room ([]:List Int) s 8) (some (([]:List Int)++s))=some s:=by
  rw [zat (zhM (by simpa using hs))];rfl
 unfold za4;refine ztf (fun h => ?_) (fun h=>hr)
 obtain rfl:s=[]:=List.length_eq_zero_iff.1 h;rw [hr];exact zkS (ts:=[(.list (.int .i64))]) (some ([]:List Int))
theorem zlR {letters:Int} {w:List Int} (hL:1<=letters/\letters<=4) (hw:w.length<=(60:Int)):∀ (n:Nat) (i:Int),0<=i->i<=w.length->(w.length - i).toNat=n->(∀ j:Int,0<=j->j < i->0<=ix w j/\ix w j < letters)->zje letters w i=some (mayE letters w):=by
 intro n
 induction n with
 | zero=>
  intro i h0 h1 hn h;rw [zka];unfold zds
  (try dsimp only);(repeat' first | (with_reducible refine G_to ?_ ?_;focus (first | omega | (unfold fits;omega) | (unfold room;(try simp only [List.length_append,List.length_cons,List.length_nil]);omega))) | (with_reducible refine ze6 ?_ ?_) | (with_reducible refine zjK ?_) | (with_reducible refine zjJ ?_) | (with_reducible refine zl6 (fun _ => ?_) (fun _ => ?_)))<;>try (exfalso;omega)
  ·rw [zrk hL hw (fun j a b=>h j a (by omega))]
 | succ n ih=>
  intro i h0 h1 hn h;rw [zka];unfold zds
  (try dsimp only);(repeat' first | (with_reducible refine G_to ?_ ?_;focus (first | omega | (unfold fits;omega) | (unfold room;(try simp only [List.length_append,List.length_cons,List.length_nil]);omega))) | (with_reducible refine ze6 ?_ ?_) | (with_reducible refine zjK ?_) | (with_reducible refine zjJ ?_) | (with_reducible refine zl6 (fun _ => ?_) (fun _ => ?_)))<;>try (exfalso;omega)
  ·rw [zkF hL hw (i:=i) (by omega) (by omega)]
  ·rw [zkF hL hw (i:=i) (by omega) (by omega)]
  ·exact ih _ (by omega) (by omega) (by omega) (zlZ h (by omega))
theorem zlu {letters:Int} {w:List Int}:zpw letters w=some (mayE letters w):=by
 unfold zpw
 (try dsimp only);(repeat' first | (with_reducible refine G_to ?_ ?_;focus (first | omega | (unfold fits;omega) | (unfold room;(try simp only [List.length_append,List.length_cons,List.length_nil]);omega))) | (with_reducible refine ze6 ?_ ?_) | (with_reducible refine zjK ?_) | (with_reducible refine zjJ ?_) | (with_reducible refine zl6 (fun _ => ?_) (fun _ => ?_)))<;>try (exfalso;omega)
 ·rw [zh9 (by omega)]
 ·rw [zh9 (by omega)]
 ·rw [zlm (by omega) (by omega)]
 ·exact zlR (by omega) (by omega) _ 0 (by omega) (by omega) rfl (fun j a b=>by omega)
theorem zku {letters:Int} {w:List Int} (hL:1<=letters/\letters<=4) (hw:w.length<=(60:Int)):∀ (n:Nat) (i:Int),0<=i->i<=w.length->(w.length - i).toNat=n->(∀ j:Int,0<=j->j < i->0<=ix w j/\ix w j < letters)->zg0 letters w i=some (mayE letters w):=by
 intro n
 induction n with
 | zero=>
  intro i h0 h1 hn h;rw [ziA];unfold zco
  (try dsimp only);(repeat' first | (with_reducible refine G_to ?_ ?_;focus (first | omega | (unfold fits;omega) | (unfold room;(try simp only [List.length_append,List.length_cons,List.length_nil]);omega))) | (with_reducible refine ze6 ?_ ?_) | (with_reducible refine zjK ?_) | (with_reducible refine zjJ ?_) | (with_reducible refine zl6 (fun _ => ?_) (fun _ => ?_)))<;>try (exfalso;omega)
  ·rw [zrk hL hw (fun j a b=>h j a (by omega))]
 | succ n ih=>
  intro i h0 h1 hn h;rw [ziA];unfold zco
  (try dsimp only);(repeat' first | (with_reducible refine G_to ?_ ?_;focus (first | omega | (unfold fits;omega) | (unfold room;(try simp only [List.length_append,List.length_cons,List.length_nil]);omega))) | (with_reducible refine ze6 ?_ ?_) | (with_reducible refine zjK ?_) | (with_reducible refine zjJ ?_) | (with_reducible refine zl6 (fun _ => ?_) (fun _ => ?_)))<;>try (exfalso;omega)
  ·rw [zkF hL hw (i:=i) (by omega) (by omega)]
  ·rw [zkF hL hw (i:=i) (by omega) (by omega)]
  ·exact ih _ (by omega) (by omega) (by omega) (zlZ h (by omega))
theorem zjw {letters:Int} {w:List Int}:zkK letters w=some (mayE letters w):=by
 unfold zkK
 (try dsimp only);(repeat' first | (with_reducible refine G_to ?_ ?_;focus (first | omega | (unfold fits;omega) | (unfold room;(try simp only [List.length_append,List.length_cons,List.length_nil]);omega))) | (with_reducible refine ze6 ?_ ?_) | (with_reducible refine zjK ?_) | (with_reducible refine zjJ ?_) | (with_reducible refine zl6 (fun _ => ?_) (fun _ => ?_)))<;>try (exfalso;omega)
 ·rw [zh9 (by omega)]
 ·rw [zh9 (by omega)]
 ·rw [zlm (by omega) (by omega)]
 ·exact zku (by omega) (by omega) _ 0 (by omega) (by omega) rfl (fun j a b=>by omega)
abbrev ND:=Int×Int×Unit
abbrev NR:=Int×Int×(List Int)×Unit
abbrev L5:=List NR
def nowT (c:List UInt8) (i:Int):Int:=if i < c.length then bAt c i else 0
theorem zj6 {c:List UInt8} {i:Int} (h:nowT c i≠0):i < c.length:=by
 unfold nowT at h;by_cases h1:i < c.length
 ·exact h1
 ·rw [if_neg h1] at h;exact absurd rfl h
theorem zps {c:List UInt8} {i:Int}:0<=nowT c i/\nowT c i<=255:=by
 unfold nowT;by_cases h:i < c.length
 ·rw [if_pos h];unfold bAt;have:=(c.getD i.toNat 0).toNat_lt;constructor
  ·omega
  ·omega
 ·rw [if_neg h];omega
theorem zrM {n:Nat} (h:n < 9223372036854775808):IntKind.wrap .i64 (n:Int)=n:=by
 unfold IntKind.wrap;simp [IntKind.bits,IntKind.signed];omega
theorem wr64 {x:Int} (h0:0<=x) (h1:x<=1000):IntKind.wrap .i64 x=x:=by
 obtain ⟨n,rfl⟩:=Int.eq_ofNat_of_zero_le h0;exact zrM (by omega)
theorem wr8 {x:Int} (h0:0<=x) (h1:x<=255):IntKind.wrap .u8 x=x:=by
 obtain ⟨n,rfl⟩:=Int.eq_ofNat_of_zero_le h0;unfold IntKind.wrap;simp [IntKind.bits,IntKind.signed];omega
def begT (x:Int):Bool:=decide (x=48) || decide (x=49) || (decide (97<=x) && decide (x<=100)) || decide (x=40)
theorem ztT:∀ n:Fin 256,decide ((0:Int)<=znJ [48,49,97,98,99,100,40] (n.val:Int))=begT (n.val:Int):=by decide+kernel
theorem zsS {x:Int} (h0:0<=x) (h1:x<=255):decide ((0:Int)<=znJ [48,49,97,98,99,100,40] x)=begT x:=by
 have:=ztT ⟨x.toNat,by omega⟩
 have e:((x.toNat:Nat):Int)=x:=by omega
 simpa only [e] using this
section
variable {c:List UInt8} {i s f a:Int} {l:L5}
theorem zp4 (h0:0<=i) (h1:i<=c.length):zbf (c,(i,(s,())))=some (nowT c i):=by
 unfold zbf nowT;by_cases h:i=(c.length:Int)
 ·have : ¬ i < c.length:=by omega
  simp [h]
 ·have h2:i < c.length:=by omega
  simp only [h,decide_false,Bool.false_eq_true,if_false,if_pos h2];exact zat ⟨h0,h2⟩
theorem zpt {k:Int}:zby (c,(i,(s,()))) k=some (.inr (k,i)):=rfl
theorem zsh (h0:0<=i) (h1:i<=c.length):zbX (c,(i,(s,())))=some (begT (nowT c i)):=by
 unfold zbX;by_cases h:i < c.length
 ·simp only [h,decide_true,if_true];rw [zp4 h0 h1];unfold zer zcW;simp only [Option.bind_some];rw [zsS zps.1 zps.2]
 ·have:nowT c i=0:=by unfold nowT;rw [if_neg h]
  simp only [h,decide_false,Bool.false_eq_true,if_false,this];rfl
theorem zlT (h0:0<=i):zbS (c,(i,(s,(l,((f,(a,())),())))))=some (nowT c i):=by
 unfold zbS nowT;by_cases h:(c.length:Int)<=i
 ·have : ¬ i < (c.length:Int):=by omega
  simp [h,this]
 ·have h2:i < c.length:=by omega
  simp only [h,decide_false,Bool.false_eq_true,if_false,if_pos h2];exact zat ⟨h0,h2⟩
theorem r_ok:zcM (c,(i,(s,(l,((f,(a,())),())))))=some (decide (f=0)):=rfl
theorem zmj {k:Int}:zb3 k c i s f a l=if f=0 then some (c,i,s,l,k,i) else some (c,i,s,l,f,a):=by
 unfold zb3;by_cases h:f=0<;>simp [h]
theorem znX (h:l.length<=100000) {k v:Int} {K:List Int}:zbJ (k,(v,(K,()))) c i s f a l=some ((l.length:Int),c,i,s,l++[(k,v,K,())],f,a):=by
 unfold zbJ;rw [zat (zhM (by simp;omega))]
 have e:(((l++[(k,v,K,())]).length:Int) - 1)=(l.length:Int):=by simp
 simp only [e];rw [zat (zfT (by omega) (by omega))]
theorem ztZ (hf:f≠0) (h0:0<=i) (x:Int):zct x c i s f a l=some (x,c,i,s,l,f,a):=by
 rw [zdt];unfold zbd;rw [zlT h0];simp only [Option.bind_some];rw [r_ok];simp [hf]
theorem zsC (hf:f≠0) (h0:0<=i) (hl:l.length<=100000) (K:List Int):zaY zau c i s f a K l=some ((l.length:Int),c,i,s,l++[(4,0,K,())],f,a):=by
 rw [zfd];unfold zbe;rw [zlT h0];simp only [Option.bind_some];rw [r_ok];unfold zaX zdp;rw [znX hl];simp [hf]
theorem zpd (hf:f≠0) (h0:0<=i) (hl:l.length<=100000) (K:List Int):za2 zau c i s f a K l=some ((l.length:Int),c,i,s,l++[(3,0,K,())],f,a):=by
 rw [zeC];unfold zba;rw [zlT h0];simp only [Option.bind_some];rw [r_ok];unfold zcz;rw [znX hl];simp [hf]
end
mutual
def tsz:Tr ND->Nat
 | .nil=>0
 | .mk _ K=>tszL K+1
def tszL:List (Tr ND)->Nat
 | []=>0
 | t::K=>tsz t+tszL K
end
theorem zfl:∀ (K:List (Tr ND)) (t:Tr ND),tszL (K++[t])=tszL K+tsz t
 | [],t=>by simp [tszL]
 | a::K,t=>by rw [List.cons_append,tszL,tszL,zfl K t];omega
def wfN (x:NR):Prop:=(x.1=0/\x.2.2.1=[])\/(x.1=1/\x.2.2.1=[])\/(x.1=2/\0<=x.2.1/\x.2.1<=3/\x.2.2.1=[])\/(x.1=3/\x.2.2.1≠[])\/(x.1=4/\x.2.2.1≠[])\/(x.1=5/\x.2.2.1.length=1)
mutual
inductive Stn (l:L5):Tr ND->Int->Prop
 | mk (k:Int) (K:List (Tr ND)) (h0:0<=k) (h1:k < l.length) (hw:wfN (ix l k)) (ha:StnL l K (ix l k).2.2.1):Stn l (Tr.mk ((ix l k).1,(ix l k).2.1,()) K) k
inductive StnL (l:L5):List (Tr ND)->List Int->Prop
 | nil:StnL l [] []
 | cons (t:Tr ND) (k:Int) (K:List (Tr ND)) (ks:List Int) (h:Stn l t k) (hs:StnL l K ks):StnL l (t::K) (k::ks)
end
mutual
theorem Stn.mono {l m:L5} {t:Tr ND} {k:Int}:Stn l t k->Stn (l++m) t k
 | .mk k K h0 h1 hw ha=>by
  have e:ix (l++m) k=ix l k:=zeu h0 h1;have ih:=ha.mono (m:=m);rw [<- e] at hw ih ⊢;exact .mk k K h0 (by simp;omega) hw ih
theorem StnL.mono {l m:L5} {K:List (Tr ND)} {ks:List Int}:StnL l K ks->StnL (l++m) K ks
 | .nil => .nil
 | .cons t k K ks h hs => .cons t k K ks h.mono hs.mono
end
theorem StnL.snoc {l:L5} {K:List (Tr ND)} {ks:List Int} {t:Tr ND} {k:Int} (h:StnL l K ks) (h2:Stn l t k):StnL l (K++[t]) (ks++[k]):=by
 match h with
 | .nil=>exact .cons _ _ _ _ h2 .nil
 | .cons t' k' K ks h hs=>exact .cons _ _ _ _ h (hs.snoc h2)
theorem StnL.len {l:L5} {K:List (Tr ND)} {ks:List Int} (h:StnL l K ks):K.length=ks.length:=by
 match h with
 | .nil=>rfl
 | .cons _ _ _ _ _ hs=>simp [hs.len]
theorem Stn.put {l:L5} {x:NR} {K:List (Tr ND)} (hw:wfN x) (ha:StnL l K x.2.2.1):Stn (l++[x]) (Tr.mk (x.1,x.2.1,()) K) l.length:=by
 have e:ix (l++[x]) (l.length:Int)=x:=zc7;have:=Stn.mk (l:=l++[x]) l.length K (by omega) (by simp;omega) (by rw [e];exact hw) (by rw [e];exact ha.mono)
 rw [e] at this;exact this
def Ext (l l':L5):Prop:=∃ m,l'=l++m
theorem Ext.refl (l:L5):Ext l l:=⟨[],by simp⟩
theorem Ext.trans {l l' l2:L5} (h:Ext l l') (h2:Ext l' l2):Ext l l2:=by
 obtain ⟨m,rfl⟩:=h;obtain ⟨m',rfl⟩:=h2;exact ⟨m++m',by simp⟩
theorem Ext.snoc (l:L5) (x:NR):Ext l (l++[x]):=⟨[x],rfl⟩
theorem Ext.put {l l':L5} (h:Ext l l') (x:NR):Ext l (l'++[x]):=h.trans (Ext.snoc l' x)
theorem Ext.stn {l l':L5} (h:Ext l l') {t:Tr ND} {k:Int} (h2:Stn l t k):Stn l' t k:=by
 obtain ⟨m,rfl⟩:=h;exact h2.mono
theorem Ext.stnL {l l':L5} (h:Ext l l') {K:List (Tr ND)} {ks:List Int} (h2:StnL l K ks):StnL l' K ks:=by
 obtain ⟨m,rfl⟩:=h;exact h2.mono
structure Pre (c:List UInt8) (i s:Int) (l:L5):Prop where
 i0:0<=i
 i1:i<=c.length
 c1:c.length<=4000
 s0:0<=s
 s1:s<=40
 l1:(l.length:Int)<=3 * i
def Sm (pt ex:Int) (z:Bool) (c:List UInt8) (i s:Int) (l:L5) (o:Option ((Tr ND×List UInt8×Int×Int)⊕(Int×Int))) (r:Option (Int×List UInt8×Int×Int×L5×Int×Int)):Prop:=
 (∃ a b i' l',o=some (.inl (a,c,i',s))/\r=some (b,c,i',s,l',0,0)/\i < i'/\i'<=c.length/\(l'.length:Int)+pt<=l.length+3 * (i' - i)/\Ext l l'/\Stn l' a b/\(z=true->b+1=l'.length)/\tsz a+l.length<=l'.length)
 \/(∃ cd b i' l',o=some (.inr (cd,i'))/\r=some (b,c,i',s,l',cd,i')/\cd≠0/\i<=i'/\i'<=c.length/\(l'.length:Int)<=l.length+3 * (i' - i)+2 * (40 - s)+ex)
def Part (c:List UInt8) (m:Nat):Prop:=∀ i s l,Pre c i s l->((c.length:Int) - i).toNat<=m->Sm 2 0 false c i s l (zbl zaw c i s) (zb4 zau c i s 0 0 l)
def One (c:List UInt8) (m:Nat):Prop:=∀ i s l,Pre c i s l->((c.length:Int) - i).toNat<=m->Sm 2 0 false c i s l (zbg zaw c i s) (zbT zau c i s 0 0 l)
def RRow (c:List UInt8) (m:Nat):Prop:=∀ i s l,Pre c i s l->((c.length:Int) - i).toNat<=m->Sm 1 1 false c i s l (zbh zaw c i s) (zbV zau c i s 0 0 l)
def zsO (c:List UInt8) (m:Nat):Prop:=∀ i s l,Pre c i s l->((c.length:Int) - i).toNat<=m->Sm 0 2 true c i s l (zaw c i s) (zau c i s 0 0 l)
theorem zsg {c:List UInt8}:∀ (m:Nat) (a:Tr ND) (b i s:Int) (l:L5),Pre c i s l->Stn l a b->((c.length:Int) - i).toNat<=m->
  ∃ a' b' i' l',zbZ a c i s=some (.inl (a',c,i',s))/\zct b c i s 0 0 l=some (b',c,i',s,l',0,0)/\i<=i'/\i'<=c.length/\(l'.length:Int)<=l.length+3 * (i' - i)/\Ext l l'/\Stn l' a' b'/\tsz a'+l.length<=l'.length+tsz a:=by
 intro m
 induction m with
 | zero=>
  intro a b i s l hp hab hm;obtain ⟨i0,i1,c1,s0,s1,q1⟩:=hp;rw [zdE,zdt];unfold zaW zbd;rw [zp4 i0 i1,zlT i0];simp only [Option.bind_some];rw [r_ok];have hb : ¬ nowT c i=42:=fun h=>by have:=zj6 (c:=c) (i:=i) (by omega);omega
  simp only [hb,Option.bind_some,decide_true,not_false_eq_true,decide_false,Bool.not_true,Bool.false_eq_true,if_true,if_false];exact ⟨a,b,i,l,rfl,rfl,by omega,i1,by omega,.refl l,hab,by omega⟩
 | succ m ih=>
  intro a b i s l hp hab hm;obtain ⟨i0,i1,c1,s0,s1,q1⟩:=hp;rw [zdE,zdt];unfold zaW zbd;rw [zp4 i0 i1,zlT i0];simp only [Option.bind_some];rw [r_ok];by_cases hb:nowT c i=42
  ·have hlt:i < c.length:=zj6 (by rw [hb];decide)
   have fi:fits (i+1):=zfT (by omega) (by omega)
   simp only [hb,Option.bind_some,decide_true,not_true_eq_false,decide_false,Bool.not_true,Bool.false_eq_true,if_true,if_false,zat fi];rw [znX (by omega)]
   simp only [Option.bind_some];have hst:=Stn.put (l:=l) (x:=(5,0,[b],())) (K:=[a]) (.inr (.inr (.inr (.inr (.inr ⟨rfl,rfl⟩))))) (.cons _ _ _ _ hab .nil);obtain ⟨a',b',i',l',e1,e2,g1,g2,g3,g4,g5,gs⟩:=ih _ _ (i+1) s (l++[(5,0,[b],())]) ⟨by omega,by omega,c1,s0,s1,by simp;omega⟩ hst (by omega)
   exact ⟨a',b',i',l',e1,e2,by omega,g2,by simp at g3;omega,(Ext.snoc l _).trans g4,g5,by rw [List.length_append,List.length_singleton] at gs;simp only [tsz,tszL] at gs;omega⟩
  ·simp only [hb,Option.bind_some,decide_true,not_false_eq_true,decide_false,Bool.not_true,Bool.false_eq_true,if_true,if_false];exact ⟨a,b,i,l,rfl,rfl,by omega,i1,by omega,.refl l,hab,by omega⟩
theorem zt8 {c:List UInt8} {m:Nat} (hP:Part c m):One c m:=by
 intro i s l hp hm;have hp':=hp;obtain ⟨i0,i1,c1,s0,s1,q1⟩:=hp;unfold zbg zbT;rcases hP i s l hp' hm with ⟨a1,b1,i',l',e1,e2,g1,g2,g3,g4,g5,_,gs⟩ | ⟨cd,b1,i',l',e1,e2,g1,g2,g3,g4⟩
 ·simp only [e1,e2,zfc,Option.bind_some];obtain ⟨a',b',i2,l2,z1,z2,y1,y2,y3,y4,y5,ys⟩:=zsg _ a1 b1 i' s l' ⟨by omega,g2,c1,s0,s1,by omega⟩ g5 (Nat.le_refl _)
  exact .inl ⟨a',b',i2,l2,z1,z2,by omega,y2,by omega,g4.trans y4,y5,fun h=>(by cases h),by omega⟩
 ·simp only [e1,e2,zcL,Option.bind_some];rw [ztZ g1 (by omega)]
  exact .inr ⟨cd,_,i',l',rfl,rfl,g1,g2,g3,g4⟩
theorem ztr {c:List UInt8} {i s f a:Int} {K:List Int} {l:L5} (h0:0<=i):
  zbe zau (zaY zau) c i s f a K l=zaX zau c i s f a K l (zaY zau) (decide (f=0)) (begT (nowT c i)):=by
 unfold zbe;rw [zlT h0];simp only [Option.bind_some];rw [r_ok];simp only [Option.bind_some];unfold begT;by_cases h1:nowT c i=48
 ·simp [h1]
 ·by_cases h2:nowT c i=49
  ·simp [h2]
  ·by_cases h3:97<=nowT c i
   ·by_cases h4:nowT c i<=100
    ·simp [h1,h2,h3,h4]
    ·simp [h1,h2,h3,h4]
   ·simp [h1,h2,h3]
theorem zsr {c:List UInt8}:∀ m:Nat,(∀ m' ≤ m,One c m')->∀ K ks i s l,Pre c i s l->StnL l K ks->K≠[]->(K.length:Int)<=i->((c.length:Int) - i).toNat<=m->
  (∃ a b i' l',zaS zaw c i s 4 0 K=some (.inl (a,c,i',s))/\zaY zau c i s 0 0 ks l=some (b,c,i',s,l',0,0)/\i<=i'/\i'<=c.length/\(l'.length:Int)<=l.length+3 * (i' - i)+1/\Ext l l'/\Stn l' a b/\tsz a+l.length<=l'.length+tszL K)
  \/(∃ cd b i' l',zaS zaw c i s 4 0 K=some (.inr (cd,i'))/\zaY zau c i s 0 0 ks l=some (b,c,i',s,l',cd,i')/\cd≠0/\i<=i'/\i'<=c.length/\(l'.length:Int)<=l.length+3 * (i' - i)+2 * (40 - s)+1):=by
 intro m
 induction m using Nat.strongRecOn with
 | ind m ih=>
  intro hO K ks i s l hp hK hne hKi hm;have hp':=hp;obtain ⟨i0,i1,c1,s0,s1,q1⟩:=hp;have hlen:=hK.len;rw [zgD,zfd,ztr i0];unfold za7 zaX;rw [zsh i0 i1];simp only [Option.bind_some,decide_true,Bool.not_true,Bool.false_eq_true,if_false]
  cases hb:begT (nowT c i) with
  | true=>
   simp only [if_true,Bool.not_true,Bool.false_eq_true,if_false];rcases hO m (Nat.le_refl _) i s l hp' hm with ⟨a1,b1,i',l',e1,e2,g1,g2,g3,g4,g5,_,gs⟩ | ⟨cd,b1,i',l',e1,e2,g1,g2,g3,g4⟩
   ·simp only [e1,e2,zfc,Option.bind_some];rw [zat (zhM (by simp;omega)),zat (zhM (by simp;omega))]
    rcases ih (((c.length:Int) - i').toNat) (by omega) (fun m' h=>hO m' (by omega)) (K++[a1]) (ks++[b1]) i' s l' ⟨by omega,g2,c1,s0,s1,by omega⟩ ((g4.stnL hK).snoc g5) (by simp) (by simp;omega) (Nat.le_refl _) with
     ⟨a2,b2,i2,l2,z1,z2,y1,y2,y3,y4,y5,ys⟩ | ⟨cd,b2,i2,l2,z1,z2,y1,y2,y3,y4⟩
    ·exact .inl ⟨a2,b2,i2,l2,z1,z2,by omega,y2,by omega,g4.trans y4,y5,by rw [zfl] at ys;omega⟩
    ·exact .inr ⟨cd,b2,i2,l2,z1,z2,y1,by omega,y3,by omega⟩
   ·simp only [e1,e2,zcL,Option.bind_some];rw [zat (zhM (by simp;omega)),zsC g1 (by omega) (by omega)]
    exact .inr ⟨cd,_,i',_,rfl,rfl,g1,g2,g3,by simp;omega⟩
  | false=>
   simp only [Bool.false_eq_true,if_false,Bool.not_false,if_true];unfold zeG zdp;rw [znX (by omega)]
   simp only [Option.bind_some];have hks:ks≠[]:=by cases ks with
    | nil=>exact absurd (List.length_eq_zero_iff.1 hlen) hne
    | cons=>simp
   exact .inl ⟨_,_,i,_,rfl,rfl,by omega,i1,by simp,Ext.snoc l _,Stn.put (x:=(4,0,ks,())) (.inr (.inr (.inr (.inr (.inl ⟨rfl,hks⟩))))) hK,by simp only [tsz,List.length_append,List.length_singleton];omega⟩
theorem zue {c:List UInt8} {m:Nat} (hO:∀ m' ≤ m,One c m'):RRow c m:=by
 intro i s l hp hm;have hp':=hp;obtain ⟨i0,i1,c1,s0,s1,q1⟩:=hp;unfold zbh zbV;rcases hO m (Nat.le_refl _) i s l hp' hm with ⟨a1,b1,i',l',e1,e2,g1,g2,g3,g4,g5,_,gs⟩ | ⟨cd,b1,i',l',e1,e2,g1,g2,g3,g4⟩
 ·simp only [e1,e2,zfc,Option.bind_some];rcases zsr m hO [a1] [b1] i' s l' ⟨by omega,g2,c1,s0,s1,by omega⟩ (.cons _ _ _ _ g5 .nil) (by simp) (by simp;omega) (by omega) with
   ⟨a2,b2,i2,l2,z1,z2,y1,y2,y3,y4,y5,ys⟩ | ⟨cd,b2,i2,l2,z1,z2,y1,y2,y3,y4⟩
  ·exact .inl ⟨a2,b2,i2,l2,z1,z2,by omega,y2,by omega,g4.trans y4,y5,fun h=>(by cases h),by simp only [tszL] at ys;omega⟩
  ·exact .inr ⟨cd,b2,i2,l2,z1,z2,y1,by omega,y3,by omega⟩
 ·simp only [e1,e2,zcL,Option.bind_some];rw [zsC g1 (by omega) (by omega)]
  exact .inr ⟨cd,_,i',_,rfl,rfl,g1,g2,g3,by simp;omega⟩
theorem zqi {c:List UInt8}:∀ m:Nat,(∀ m' < m,RRow c m')->∀ K ks i s l,Pre c i s l->StnL l K ks->K≠[]->(K.length:Int)<=i->((c.length:Int) - i).toNat<=m->
  (∃ a b i' l',zaL zaw c i s 3 0 K=some (.inl (a,c,i',s))/\za2 zau c i s 0 0 ks l=some (b,c,i',s,l',0,0)/\i<=i'/\i'<=c.length/\(l'.length:Int)<=l.length+3 * (i' - i)+1/\Ext l l'/\Stn l' a b/\b+1=l'.length/\tsz a+l.length<=l'.length+tszL K)
  \/(∃ cd b i' l',zaL zaw c i s 3 0 K=some (.inr (cd,i'))/\za2 zau c i s 0 0 ks l=some (b,c,i',s,l',cd,i')/\cd≠0/\i<=i'/\i'<=c.length/\(l'.length:Int)<=l.length+3 * (i' - i)+2 * (40 - s)+2):=by
 intro m
 induction m using Nat.strongRecOn with
 | ind m ih=>
  intro hO K ks i s l hp hK hne hKi hm;have hp':=hp;obtain ⟨i0,i1,c1,s0,s1,q1⟩:=hp;have hlen:=hK.len;rw [zfr,zeC];unfold zaZ zba;rw [zp4 i0 i1,zlT i0];simp only [Option.bind_some];rw [r_ok];simp only [Option.bind_some,decide_true,Bool.not_true,Bool.false_eq_true,if_false];by_cases hb:nowT c i=43
  ·have hlt:i < c.length:=zj6 (by rw [hb];decide)
   have fi:fits (i+1):=zfT (by omega) (by omega)
   simp only [hb,decide_true,if_true,not_true_eq_false,decide_false,Bool.false_eq_true,if_false,zat fi];rcases hO (((c.length:Int) - (i+1)).toNat) (by omega) (i+1) s l ⟨by omega,by omega,c1,s0,s1,by omega⟩ (Nat.le_refl _) with ⟨a1,b1,i',l',e1,e2,g1,g2,g3,g4,g5,_,gs⟩ | ⟨cd,b1,i',l',e1,e2,g1,g2,g3,g4⟩
   ·simp only [e1,e2,zfc,Option.bind_some];rw [zat (zhM (by simp;omega)),zat (zhM (by simp;omega))]
    rcases ih (((c.length:Int) - i').toNat) (by omega) (fun m' h=>hO m' (by omega)) (K++[a1]) (ks++[b1]) i' s l' ⟨by omega,g2,c1,s0,s1,by omega⟩ ((g4.stnL hK).snoc g5) (by simp) (by simp;omega) (Nat.le_refl _) with
     ⟨a2,b2,i2,l2,z1,z2,y1,y2,y3,y4,y5,y6,ys⟩ | ⟨cd,b2,i2,l2,z1,z2,y1,y2,y3,y4⟩
    ·exact .inl ⟨a2,b2,i2,l2,z1,z2,by omega,y2,by omega,g4.trans y4,y5,y6,by rw [zfl] at ys;omega⟩
    ·exact .inr ⟨cd,b2,i2,l2,z1,z2,y1,by omega,y3,by omega⟩
   ·simp only [e1,e2,zcL,Option.bind_some];rw [zat (zhM (by simp;omega)),zpd g1 (by omega) (by omega)]
    exact .inr ⟨cd,_,i',_,rfl,rfl,g1,by omega,g3,by simp;omega⟩
  ·simp only [hb,not_false_eq_true,decide_true,if_true,decide_false,Bool.false_eq_true,if_false];unfold zd2 zcz;rw [znX (by omega)]
   simp only [Option.bind_some];have hks:ks≠[]:=by cases ks with
    | nil=>exact absurd (List.length_eq_zero_iff.1 hlen) hne
    | cons=>simp
   exact .inl ⟨_,_,i,_,rfl,rfl,by omega,i1,by simp,Ext.snoc l _,Stn.put (x:=(3,0,ks,())) (.inr (.inr (.inr (.inl ⟨rfl,hks⟩)))) hK,by simp,by simp only [tsz,List.length_append,List.length_singleton];omega⟩
theorem zsu {c:List UInt8} {m:Nat} (hO:∀ m' ≤ m,RRow c m'):zsO c m:=by
 intro i s l hp hm;have hp':=hp;obtain ⟨i0,i1,c1,s0,s1,q1⟩:=hp;rw [zgW,zjh];unfold zbk zbL;rcases hO m (Nat.le_refl _) i s l hp' hm with ⟨a1,b1,i',l',e1,e2,g1,g2,g3,g4,g5,_,gs⟩ | ⟨cd,b1,i',l',e1,e2,g1,g2,g3,g4⟩
 ·simp only [e1,e2,zfc,Option.bind_some];rcases zqi m (fun m' h=>hO m' (by omega)) [a1] [b1] i' s l' ⟨by omega,g2,c1,s0,s1,by omega⟩ (.cons _ _ _ _ g5 .nil) (by simp) (by simp;omega) (by omega) with
   ⟨a2,b2,i2,l2,z1,z2,y1,y2,y3,y4,y5,y6,ys⟩ | ⟨cd,b2,i2,l2,z1,z2,y1,y2,y3,y4⟩
  ·exact .inl ⟨a2,b2,i2,l2,z1,z2,by omega,y2,by omega,g4.trans y4,y5,fun _=>y6,by simp only [tszL] at ys;omega⟩
  ·exact .inr ⟨cd,b2,i2,l2,z1,z2,y1,by omega,y3,by omega⟩
 ·simp only [e1,e2,zcL,Option.bind_some];rw [zpd g1 (by omega) (by omega)]
  exact .inr ⟨cd,_,i',_,rfl,rfl,g1,g2,g3,by simp;omega⟩
theorem ztl {c:List UInt8} {m:Nat} (hW:∀ m' < m,zsO c m'):Part c m:=by
 intro i s l hp hm;have hp':=hp;obtain ⟨i0,i1,c1,s0,s1,q1⟩:=hp;unfold zbl zb4;rw [zp4 i0 i1,r_ok,zlT i0];simp only [Option.bind_some,decide_true,Bool.not_true,Bool.false_eq_true,if_false];have es:s+1 - 1=s:=by omega
 have fs:fits s:=zfT (by omega) (by omega)
 have leaf:∀ (x:NR),wfN x->x.2.2.1=[]->i < c.length->Sm 2 0 false c i s l (some (.inl (Tr.mk (x.1,x.2.1,()) [],c,i+1,s))) (some ((l.length:Int),c,i+1,s,l++[x],0,0)):=by
  intro x hw hk hlt;exact .inl ⟨_,_,_,_,rfl,rfl,by omega,by omega,by simp;omega,Ext.snoc l _,Stn.put hw (by rw [hk];exact .nil),fun h=>(by cases h),by simp only [tsz,tszL,List.length_append,List.length_singleton];omega⟩
 by_cases h48:nowT c i=48
 ·have hlt:i < c.length:=zj6 (by rw [h48];decide)
  have fi:fits (i+1):=zfT (by omega) (by omega)
  simp only [h48,decide_true,if_true,zat fi];rw [znX (by omega)]
  exact leaf (0,0,[],()) (.inl ⟨rfl,rfl⟩) rfl hlt
 ·simp only [h48,decide_false,Bool.false_eq_true,if_false];by_cases h49:nowT c i=49
  ·have hlt:i < c.length:=zj6 (by rw [h49];decide)
   have fi:fits (i+1):=zfT (by omega) (by omega)
   simp only [h49,decide_true,if_true,zat fi];rw [znX (by omega)]
   exact leaf (1,0,[],()) (.inr (.inl ⟨rfl,rfl⟩)) rfl hlt
  ·simp only [h49,decide_false,Bool.false_eq_true,if_false];have j5:∀ t,(t=true->97<=nowT c i/\nowT c i<=100)->Sm 2 0 false c i s l (za0 zaw c i s (nowT c i) t) (zbq zau c i s 0 0 l (nowT c i) t):=by
    intro t ht;unfold za0 zbq
    cases t with
    | true=>
     obtain ⟨h1,h2⟩:=ht rfl;have hlt:i < c.length:=zj6 (by omega)
     have fi:fits (i+1):=zfT (by omega) (by omega)
     simp only [if_true,zat fi];rw [znX (by omega)]
     have e:IntKind.wrap .i64 (IntKind.wrap .u8 (nowT c i - 97))=nowT c i - 97:=by rw [wr8 (by omega) (by omega),wr64 (by omega) (by omega)]
     rw [e];exact leaf (2,nowT c i - 97,[],()) (.inr (.inr (.inl ⟨rfl,by show 0<=nowT c i - 97;omega,by show nowT c i - 97<=3;omega,rfl⟩))) rfl hlt
    | false=>
     simp only [Bool.false_eq_true,if_false];by_cases h40:nowT c i=40
     ·have hlt:i < c.length:=zj6 (by rw [h40];decide)
      simp only [h40,not_true_eq_false,decide_false,Bool.false_eq_true,if_false,decide_true,if_true];by_cases hs:s=40
      ·simp only [hs,decide_true,if_true,zpt,zcL,zmj,Option.bind_some];exact .inr ⟨7,_,i,_,rfl,rfl,by decide,by omega,by omega,by omega⟩
      ·simp only [hs,decide_false,Bool.false_eq_true,if_false];unfold za6;have f1:fits (s+1):=zfT (by omega) (by omega)
       have f2:fits (i+1):=zfT (by omega) (by omega)
       simp only [zat f1,zat f2];rcases hW (((c.length:Int) - (i+1)).toNat) (by omega) (i+1) (s+1) l ⟨by omega,by omega,c1,by omega,by omega,by omega⟩ (Nat.le_refl _) with
        ⟨a1,b1,i',l',e1,e2,g1,g2,g3,g4,g5,_,gs⟩ | ⟨cd,b1,i',l',e1,e2,g1,g2,g3,g4⟩
       ·simp only [e1,e2,zfc,Option.bind_some];rw [zp4 (by omega) g2,zlT (by omega)]
        simp only [Option.bind_some];unfold zbU;by_cases h41:nowT c i'=41
        ·have hlt3:i' < c.length:=zj6 (by rw [h41];decide)
         have f3:fits (i'+1):=zfT (by omega) (by omega)
         simp only [h41,not_true_eq_false,decide_false,Bool.false_eq_true,if_false];rw [r_ok];simp only [Option.bind_some,decide_true,if_true,es,zat fs,zat f3];exact .inl ⟨_,_,_,_,rfl,rfl,by omega,by omega,by omega,g4,g5,fun h=>(by cases h),gs⟩
        ·simp only [h41,not_false_eq_true,decide_true,if_true,zpt,zcL,zmj,Option.bind_some];rw [r_ok];simp only [Option.bind_some,Int.reduceEq,decide_false,Bool.false_eq_true,if_false,es,zat fs];exact .inr ⟨4,_,i',_,rfl,rfl,by decide,by omega,by omega,by omega⟩
       ·simp only [e1,e2,zcL,Option.bind_some];rw [zlT (by omega)]
        simp only [Option.bind_some];have key:Sm 2 0 false c i s l (some (.inr (cd,i'))) (zbU b1 c i' (s+1) cd i' l'):=by
         unfold zbU;rw [r_ok];simp only [Option.bind_some,g1,decide_false,Bool.false_eq_true,if_false,es,zat fs];exact .inr ⟨cd,_,i',_,rfl,rfl,g1,by omega,by omega,by omega⟩
        by_cases h41:nowT c i'=41
        ·simpa [h41] using key
        ·simpa [h41,zmj,g1] using key
     ·simp only [h40,not_false_eq_true,decide_true,if_true,decide_false,Bool.false_eq_true,if_false,zpt,zcL,zmj,Option.bind_some];exact .inr ⟨4,_,i,_,rfl,rfl,by decide,by omega,by omega,by omega⟩
   by_cases h97:97<=nowT c i
   ·have:=j5 (decide (nowT c i<=100)) (fun h=>⟨h97,of_decide_eq_true h⟩)
    simpa [h97] using this
   ·have:=j5 false (fun h=>by cases h)
    simpa [h97] using this
theorem ztS {c:List UInt8}:∀ m:Nat,zsO c m:=by
 intro m
 induction m using Nat.strongRecOn with
 | ind m ih=>
  have hP:∀ m' ≤ m,Part c m':=fun m' h=>ztl fun m'' h'=>ih m'' (by omega)
  exact zsu fun m' h=>zue fun m'' h'=>zt8 (hP m'' (by omega))
theorem zp5 (c:List UInt8):(∃ a l,zcx c=some (a,(0,(0,())))/\zjf c=some ((0,(0,())),l)/\(l.length:Int)<=3 * c.length/\Stn l a (l.length - 1)/\c.length<=4000/\tsz a<=l.length)
  \/(∃ cd pl,zcx c=some (Tr.nil,(cd,(pl,())))/\zjf c=some ((cd,(pl,())),[])/\cd≠0):=by
 unfold zcx zjf;by_cases hc:(4000:Int) < c.length
 ·simp only [hc,decide_true,if_true];exact .inr ⟨1,0,rfl,rfl,by decide⟩
 ·simp only [hc,decide_false,Bool.false_eq_true,if_false];rcases ztS (c:=c) (((c.length:Int) - 0).toNat) 0 0 [] ⟨by omega,by omega,by omega,by omega,by omega,by simp⟩ (Nat.le_refl _) with
   ⟨a1,b1,i',l',e1,e2,g1,g2,g3,g4,g5,g6,gs⟩ | ⟨cd,b1,i',l',e1,e2,g1,g2,g3,g4⟩
  ·simp only [e1,e2,zfc,Option.bind_some];by_cases hi:i' < (c.length:Int)
   ·simp only [hi,decide_true,if_true,zpt,zcL,zmj,Option.bind_some,Int.reduceEq,not_false_eq_true];exact .inr ⟨4,i',rfl,rfl,by decide⟩
   ·simp only [hi,decide_false,Bool.false_eq_true,if_false,not_true_eq_false,Option.bind_some];have:=g6 rfl;refine .inl ⟨a1,l',rfl,rfl,by simp at g3;omega,?_,by omega,by simp at gs;omega⟩
    rw [show (l'.length:Int) - 1=b1 by omega];exact g5
  ·simp only [e1,e2,zcL,Option.bind_some];by_cases hi:i' < (c.length:Int)
   ·simp only [hi,decide_true,if_true,zmj,g1,if_false,not_false_eq_true,Option.bind_some];exact .inr ⟨cd,i',rfl,rfl,g1⟩
   ·simp only [hi,decide_false,Bool.false_eq_true,if_false,g1,not_false_eq_true,decide_true,if_true,Option.bind_some];exact .inr ⟨cd,i',rfl,rfl,g1⟩
inductive St (P:List Int->Prop):List Int->Prop
 | nil:St P []
 | cons (u w:List Int) (hu:P u) (hw:St P w):St P (u++w)
mutual
def Lg:Tr ND->List Int->Prop
 | .nil=>fun _=>False
 | .mk v K=>fun w=>if v.1=1 then w=[] else if v.1=2 then w=[v.2.1] else if v.1=3 then LgA K w else if v.1=4 then LgS K w else if v.1=5 then LgT K w else False
def LgA:List (Tr ND)->List Int->Prop
 | []=>fun _=>False
 | k::K=>fun w=>Lg k w\/LgA K w
def LgS:List (Tr ND)->List Int->Prop
 | []=>fun w=>w=[]
 | k::K=>fun w=>∃ u x,w=u++x/\Lg k u/\LgS K x
def LgT:List (Tr ND)->List Int->Prop
 | []=>fun w=>w=[]
 | k::_=>fun w=>St (Lg k) w
end
theorem zoc:∀ (K:List (Tr ND)) (w:List Int),LgA K w↔∃ k∈K,Lg k w
 | [],w=>by simp [LgA]
 | k::K,w=>by
  show (Lg k w\/LgA K w)↔_;rw [zoc K w];simp
theorem zkp {a b:Int} {K:List (Tr ND)} {x:List Int}:Lg (Tr.mk (a,b,()) K) x=(if a=1 then x=[] else if a=2 then x=[b] else if a=3 then LgA K x else if a=4 then LgS K x else if a=5 then LgT K x else False):=by rw [Lg]
theorem ziN:∀ (K:List (Tr ND)) (k:Tr ND) (w:List Int),LgS (K++[k]) w↔∃ u x,w=u++x/\LgS K u/\Lg k x
 | [],k,w=>by
  rw [List.nil_append,LgS];constructor
  ·rintro ⟨u,x,rfl,h,h2⟩;have h2:x=[]:=h2;subst h2;exact ⟨[],u,by simp,rfl,h⟩
  ·rintro ⟨u,x,rfl,h,h2⟩;have h:u=[]:=h;subst h;exact ⟨x,[],by simp,h2,rfl⟩
 | a::K,k,w=>by
  rw [List.cons_append,LgS];constructor
  ·rintro ⟨u,x,rfl,h,h2⟩;obtain ⟨u2,x2,rfl,h3,h4⟩:=(ziN K k x).1 h2;exact ⟨u++u2,x2,by simp,⟨u,u2,rfl,h,h3⟩,h4⟩
  ·rintro ⟨u,x,rfl,⟨u2,x2,rfl,h3,h4⟩,h5⟩;exact ⟨u2,x2++x,by simp,h3,(ziN K k _).2 ⟨x2,x,rfl,h4,h5⟩⟩
theorem zsK {α:Type} {f g:α->Nat}:∀ {U:List α},(∀ x∈U,f x<=g x)->(U.map f).sum<=(U.map g).sum
 | [],_=>Nat.le_refl _
 | a::U,h=>by
  have h1:=h a (by simp)
  have h2:=zsK (U:=U) (fun x hx=>h x (by simp [hx]))
  simp only [List.map_cons,List.sum_cons];omega
theorem zsL {α:Type} {f g:α->Nat}:∀ {U:List α},(∀ x∈U,f x<=g x)->(∃ x∈U,f x < g x)->(U.map f).sum < (U.map g).sum
 | [],_,h=>by obtain ⟨x,hx,_⟩:=h;cases hx
 | a::U,h,⟨x,hx,hlt⟩=>by
  have h1:=h a (by simp)
  have h2:=zsK (U:=U) (fun x hx=>h x (by simp [hx]))
  simp only [List.map_cons,List.sum_cons];rcases List.mem_cons.1 hx with rfl | hx
  ·omega
  ·have:=zsL (U:=U) (fun x hx=>h x (by simp [hx])) ⟨x,hx,hlt⟩
   omega
theorem StnL.get {l:L5}:∀ {K:List (Tr ND)} {ks:List Int},StnL l K ks->∀ j:Int,0<=j->j < K.length->Stn l (ix K j) (ix ks j)
 | _,_,.nil,j,h0,h1=>by simp at h1;omega
 | _,_,.cons t k K ks h hs,j,h0,h1=>by
  by_cases e:j=0
  ·subst e;exact h
  ·obtain ⟨i,rfl⟩:∃ i,j=i+1:=⟨j - 1,by omega⟩
   have:=hs.get i (by omega) (by rw [List.length_cons] at h1;omega)
   have e1:ix (t::K) (i+1)=ix K i:=by rw [zj5 (by omega)];congr 1;omega
   have e2:ix (k::ks) (i+1)=ix ks i:=by rw [zj5 (by omega)];congr 1;omega
   rw [e1,e2];exact this
theorem zni:∀ {K:List (Tr ND)} {t:Tr ND},t∈K->tsz t<=tszL K
 | k::K,t,h=>by
  rw [tszL];rcases List.mem_cons.1 h with rfl | h
  ·omega
  ·have:=zni h;omega
theorem zkJ:∀ (K:List (Tr ND)),(∀ t∈K,1<=tsz t)->K.length<=tszL K
 | [],_=>Nat.le_refl _
 | k::K,h=>by
  rw [tszL,List.length_cons];have:=h k (by simp)
  have:=zkJ K (fun t ht=>h t (by simp [ht]))
  omega
theorem Stn.pos {l:L5} {t:Tr ND} {k:Int} (h:Stn l t k):1<=tsz t:=by
 cases h with
 | mk k K h0 h1 hw ha=>rw [tsz];omega
theorem StnL.pos {l:L5}:∀ {K:List (Tr ND)} {ks:List Int},StnL l K ks->∀ t∈K,1<=tsz t
 | _,_,.nil,t,h=>by cases h
 | _,_,.cons t k K ks h hs,x,hx=>by
  rcases List.mem_cons.1 hx with rfl | hx
  ·exact h.pos
  ·exact hs.pos x hx
theorem zsN {P:List Int->Prop} {u x:List Int} (h:St P u) (hx:P x):St P (u++x):=by
 induction h with
 | nil=>have:=St.cons x [] hx .nil;rw [List.append_nil] at this;exact this
 | cons a b ha hb ih=>rw [List.append_assoc];exact .cons a _ ha ih
section
variable {l:L5} {w:List Int}
def sub (w:List Int) (i j:Nat):List Int:=(w.drop i).take (j - i)
theorem zo0 {i m j:Nat} (h1:i<=m) (h2:m<=j):sub w i m++sub w m j=sub w i j:=by
 unfold sub;have e:j - i=(m - i)+(j - m):=by omega
 rw [e,List.take_add,List.drop_drop,show i+(m - i)=m by omega]
theorem zn2 {i j:Nat} (h:i<=j) (hj:j<=w.length) {u x:List Int} (e:sub w i j=u++x):i+u.length<=j/\u=sub w i (i+u.length)/\x=sub w (i+u.length) j:=by
 have hl:(sub w i j).length=j - i:=by unfold sub;rw [List.length_take,List.length_drop];omega
 have hl2:=hl;rw [e,List.length_append] at hl2;have h1:i+u.length<=j:=by omega
 have h3:=zo0 (w:=w) (i:=i) (m:=i+u.length) (j:=j) (by omega) h1
 rw [e] at h3;have hlu:(sub w i (i+u.length)).length=u.length:=by unfold sub;rw [List.length_take,List.length_drop];omega
 obtain ⟨a,b⟩:=List.append_inj h3 hlu;exact ⟨h1,a.symm,b.symm⟩
theorem sub_self {i:Nat}:sub w i i=[]:=by unfold sub;simp
def En (w:List Int) (P:List Int->Prop) (f:List Bool) (j:Nat):Prop:=∃ i,i<=j/\ix f (i:Int)=true/\P (sub w i j)
def EOut (w:List Int) (P:List Int->Prop) (f out:List Bool):Prop:=out.length=w.length+1/\∀ j:Nat,j<=w.length->(ix out (j:Int)=true↔En w P f j)
theorem J34 (o:List Bool):zdw o=some o:=rfl
theorem zrS {f:List Bool}:f.take (List.replicate ((f.length:Int)).toNat (false:Bool)).length++(List.replicate ((f.length:Int)).toNat (false:Bool)).drop f.length=f:=by simp
theorem zrV (hw:w.length<=100) {k:Int} (h2:(ix l k).2.1=(ix l k).2.1) {f:List Bool} (hf:f.length=w.length+1):∃ out,ze3 l k w f 0 (List.replicate ((f.length:Int)).toNat (false:Bool))=some out/\EOut w (fun x=>x=[(ix l k).2.1]) f out:=by
 have key:∀ (m i:Nat) (out:List Bool),w.length - i=m->i<=w.length->out.length=w.length+1->(∀ j:Nat,j<=w.length->(ix out (j:Int)=true↔j<=i/\En w (fun x=>x=[(ix l k).2.1]) f j))->
   ∃ out',ze3 l k w f (i:Int) out=some out'/\EOut w (fun x=>x=[(ix l k).2.1]) f out':=by
  intro m
  induction m with
  | zero=>
   intro i out hm hi hl h;refine ⟨out,?_,hl,fun j hj => ?_⟩
   ·rw [zjp];unfold zcS;rw [if_neg (by simp;omega)]
    rfl
   ·rw [h j hj];exact ⟨fun h=>h.2,fun h=>⟨by omega,h⟩⟩
  | succ m ih=>
   intro i out hm hi hl h;have hE:En w (fun x=>x=[(ix l k).2.1]) f (i+1)↔ix f (i:Int)=true/\ix w (i:Int)=(ix l k).2.1:=by
    have e1:∀ i',i'<=i+1->sub w i' (i+1)=[(ix l k).2.1]->i'=i:=fun i' h1 h2=>by
     have:=congrArg List.length h2;unfold sub at this;rw [List.length_take,List.length_drop,List.length_singleton] at this;omega
    have e2:sub w i (i+1)=[ix w (i:Int)]:=by
     have h3:i < w.length:=by omega
     unfold sub;rw [zli (l:=w) (i:=(i:Int)) (by omega) (by omega),List.drop_eq_getElem_cons h3,show i+1 - i=0+1 by omega,List.take_succ_cons,List.take_zero]
     rfl
    constructor
    ·rintro ⟨i',h1,h2,h3⟩;obtain rfl:=e1 i' h1 h3;have h3:sub w i' (i'+1)=_:=h3;rw [e2] at h3;exact ⟨h2,by simpa using h3⟩
    ·rintro ⟨h1,h2⟩;exact ⟨i,by omega,h1,by show sub w i (i+1)=_;rw [e2,h2]⟩
   have st:∀ b:Bool,(b=true↔ix f (i:Int)=true/\ix w (i:Int)=(ix l k).2.1)->∃ out',ze3 l k w f ((i:Int)+1) (out.set ((i:Int)+1).toNat b)=some out'/\EOut w (fun x=>x=[(ix l k).2.1]) f out':=fun b hb=>by
    refine ih (i+1) _ (by omega) (by omega) (by rw [List.length_set];exact hl) (fun j hj => ?_)
    by_cases c:j=i+1
    ·subst c;rw [show ((i:Int)+1).toNat=(((i+1:Nat):Int)).toNat by omega,zce (by omega) (by rw [hl];omega),hb,hE]
     exact ⟨fun h=>⟨by omega,h⟩,fun h=>h.2⟩
    ·rw [zcJ (by omega) (by omega) (by omega),h j hj]
     exact ⟨fun h=>⟨by omega,h.2⟩,fun h=>⟨by omega,h.2⟩⟩
   rw [zjp];unfold zcS;rw [if_pos (by simp;omega),zat (by unfold fits;omega),zat (by omega)]
   by_cases c:ix f (i:Int)=true
   ·rw [if_pos c,zat (by omega),zat (by omega),zat (by omega),zat (by unfold fits;omega)]
    exact st _ (by simp [c])
   ·rw [if_neg c,zat (by omega),zat (by omega),zat (by unfold fits;omega)]
    exact st _ (by simp [c])
 refine key _ 0 _ rfl (by omega) (by simp;omega) (fun j hj => ?_)
 rw [zcI (by omega) (by omega)]
 constructor
 ·intro h;cases h
 ·rintro ⟨h1,i,h2,h3,h4⟩;obtain rfl:j=0:=by omega
  obtain rfl:i=0:=by omega
  have h4:sub w 0 0=_:=h4;rw [sub_self] at h4;cases h4
theorem zrT {j:Int} (hj:0<=j/\j<=100000) {r13} {y:List Bool} (hy:y.length<=1000):∀ (m i:Nat) (out:List Bool),y.length - i=m->i<=y.length->out.length=y.length->
  ∃ out',zcR j r13 y (i:Int) out=r13 (j+1) out'/\out'.length=y.length/\∀ q:Int,0<=q->q < y.length->(ix out' q=true↔ix out q=true\/((i:Int)<=q/\ix y q=true)):=by
 intro m
 induction m with
 | zero=>
  intro i out hm hi hl;refine ⟨out,?_,hl,fun q q0 q1=>⟨.inl,fun h=>h.elim id (fun h=>by omega)⟩⟩
  rw [zir];unfold zci;rw [if_neg (by simp;omega)]
  exact G_to (by unfold fits;omega) rfl
 | succ m ih=>
  intro i out hm hi hl;have st:∀ b:Bool,(b=true↔ix out (i:Int)=true\/ix y (i:Int)=true)->∃ out',zcR j r13 y ((i:Int)+1) (out.set ((i:Int)).toNat b)=r13 (j+1) out'/\out'.length=y.length/\∀ q:Int,0<=q->q < y.length->(ix out' q=true↔ix out q=true\/((i:Int)<=q/\ix y q=true)):=fun b hb=>by
   obtain ⟨out',e1,e2,e3⟩:=ih (i+1) (out.set ((i:Int)).toNat b) (by omega) (by omega) (by rw [List.length_set];exact hl)
   refine ⟨out',e1,e2,fun q q0 q1 => ?_⟩
   rw [e3 q q0 q1];by_cases c:q=i
   ·subst c;rw [zce (by omega) (by omega),hb]
    constructor
    ·rintro (h | ⟨h,_⟩)
     ·exact h.imp id (fun h=>⟨by omega,h⟩)
     ·omega
    ·rintro (h | ⟨_,h⟩)
     ·exact .inl (.inl h)
     ·exact .inl (.inr h)
   ·rw [zcJ (by omega) q0 (by omega)]
    exact or_congr Iff.rfl (and_congr (by omega) Iff.rfl)
  rw [zir];unfold zci;rw [if_pos (by simp;omega),zat (by omega),zat (by omega)]
  by_cases c:ix out (i:Int)=true
  ·rw [if_pos c,zat (by omega),zat (by omega),zat (by unfold fits;omega)]
   exact st true (by simp [c])
  ·rw [if_neg c,zat (by omega),zat (by omega),zat (by omega),zat (by omega),zat (by unfold fits;omega)]
   exact st (ix y (i:Int)) (by simp [c])
theorem zrU {r29} {y:List Bool} (hy:y.length<=1000):∀ (m i:Nat) (again:Bool) (out:List Bool),y.length - i=m->i<=y.length->out.length=y.length->
  ∃ out' again',zcl r29 y again (i:Int) out=r29 again' out'/\out'.length=y.length/\(∀ q:Int,0<=q->q < y.length->(ix out' q=true↔ix out q=true\/((i:Int)<=q/\ix y q=true)))/\
   (again'=true↔again=true\/∃ q:Int,(i:Int)<=q/\q < y.length/\ix y q=true/\ix out q=false):=by
 intro m
 induction m with
 | zero=>
  intro i again out hm hi hl;refine ⟨out,again,?_,hl,fun q q0 q1=>⟨.inl,fun h=>h.elim id (fun h=>by omega)⟩,⟨.inl,fun h=>h.elim id (fun ⟨q,a,b,_⟩=>by omega)⟩⟩
  rw [ziv];unfold zcm;rw [if_neg (by simp;omega)]
 | succ m ih=>
  intro i again out hm hi hl;have st:∀ b ag:Bool,(b=true↔ix out (i:Int)=true\/ix y (i:Int)=true)->(ag=true↔again=true\/(ix y (i:Int)=true/\ix out (i:Int)=false))->∃ out' again',zcl r29 y ag ((i:Int)+1) (out.set ((i:Int)).toNat b)=r29 again' out'/\out'.length=y.length/\(∀ q:Int,0<=q->q < y.length->(ix out' q=true↔ix out q=true\/((i:Int)<=q/\ix y q=true)))/\
   (again'=true↔again=true\/∃ q:Int,(i:Int)<=q/\q < y.length/\ix y q=true/\ix out q=false):=fun b ag hb hag=>by
   obtain ⟨out',ag',e1,e2,e3,e4⟩:=ih (i+1) ag (out.set ((i:Int)).toNat b) (by omega) (by omega) (by rw [List.length_set];exact hl)
   refine ⟨out',ag',e1,e2,fun q q0 q1 => ?_,?_⟩
   ·rw [e3 q q0 q1];by_cases c:q=i
    ·subst c;rw [zce (by omega) (by omega),hb]
     constructor
     ·rintro (h | ⟨h,_⟩)
      ·exact h.imp id (fun h=>⟨by omega,h⟩)
      ·omega
     ·rintro (h | ⟨_,h⟩)
      ·exact .inl (.inl h)
      ·exact .inl (.inr h)
    ·rw [zcJ (by omega) q0 (by omega)]
     exact or_congr Iff.rfl (and_congr (by omega) Iff.rfl)
   ·rw [e4,hag];constructor
    ·rintro ((h | ⟨h1,h2⟩) | ⟨q,q0,q1,q2,q3⟩)
     ·exact .inl h
     ·exact .inr ⟨i,by omega,by omega,h1,h2⟩
     ·rw [zcJ (by omega) (by omega) (by omega)] at q3
      exact .inr ⟨q,by omega,q1,q2,q3⟩
    ·rintro (h | ⟨q,q0,q1,q2,q3⟩)
     ·exact .inl (.inl h)
     ·by_cases c:q=i
      ·subst c;exact .inl (.inr ⟨q2,q3⟩)
      ·refine .inr ⟨q,by omega,q1,q2,?_⟩
       rw [zcJ (by omega) (by omega) (by omega)];exact q3
  have J:∀ ag:Bool,(ag=true↔again=true\/(ix y (i:Int)=true/\ix out (i:Int)=false))->∃ out' again',zcP y (i:Int) out (zcl r29 y) ag=r29 again' out'/\out'.length=y.length/\(∀ q:Int,0<=q->q < y.length->(ix out' q=true↔ix out q=true\/((i:Int)<=q/\ix y q=true)))/\
   (again'=true↔again=true\/∃ q:Int,(i:Int)<=q/\q < y.length/\ix y q=true/\ix out q=false):=fun ag hag=>by
   unfold zcP;rw [zat (by omega),zat (by omega)]
   by_cases c:ix out (i:Int)=true
   ·rw [if_pos c,zat (by omega),zat (by omega),zat (by unfold fits;omega)]
    exact st true ag (by simp [c]) hag
   ·rw [if_neg c,zat (by omega),zat (by omega),zat (by omega),zat (by omega),zat (by unfold fits;omega)]
    exact st (ix y (i:Int)) ag (by simp [c]) hag
  rw [ziv];unfold zcm;rw [if_pos (by simp;omega)]
  by_cases ca:again=true
  ·rw [if_pos ca];exact J true (by simp [ca])
  ·rw [if_neg ca,zat (by omega),zat (by omega)]
   by_cases cy:ix y (i:Int)=true
   ·rw [if_pos cy,zat (by omega),zat (by omega)]
    exact J _ (by simp [ca,cy])
   ·rw [if_neg cy];exact J false (by simp [ca,cy])
theorem zqL (hw:w.length<=100) (hlen:l.length<=100000):∀ (n:Nat) (t:Tr ND) (k:Int) (f:List Bool),n<=100000->tsz t<=n->Stn l t k->f.length=w.length+1->∃ out,zfe l k w f=some out/\EOut w (Lg t) f out:=by
 intro n
 induction n with
 | zero=>
  intro t k f hn0 hn hs hf
  cases hs with
  | mk k K h0 h1 hw ha=>rw [tsz] at hn;omega
 | succ n ih=>
  intro t k f hn0 hn hs hf
  cases hs with
  | mk k K h0 h1 hwf ha=>
  have hKl:=ha.len;have hkn:∀ j:Int,0<=j->j < K.length->tsz (ix K j)<=n:=fun j j0 j1=>by
   have:=zni (zge j0 j1);rw [tsz] at hn;omega
  rw [zp9];unfold zgr;rw [zat ⟨h0,h1⟩,zat (by unfold mkOK;omega),zrS]
  by_cases c1:(ix l k).1=1
  ·rw [if_pos (by simpa using c1)]
   refine ⟨f,rfl,hf,fun j hj => ?_⟩
   have e:∀ x,Lg (Tr.mk ((ix l k).1,(ix l k).2.1,()) K) x↔x=[]:=fun x=>by rw [zkp,if_pos c1]
   constructor
   ·intro h;exact ⟨j,Nat.le_refl _,h,by rw [sub_self,e]⟩
   ·rintro ⟨i,h1,h2,h3⟩;rw [e] at h3;have:=congrArg List.length h3;unfold sub at this;rw [List.length_take,List.length_drop,List.length_nil] at this;obtain rfl:i=j:=by omega
    exact h2
  rw [if_neg (by simpa using c1)]
  by_cases c2:(ix l k).1=2
  ·rw [if_pos (by simpa using c2)]
   obtain ⟨out,o1,o2⟩:=zrV (l:=l) hw (k:=k) rfl hf;have e:Lg (Tr.mk ((ix l k).1,(ix l k).2.1,()) K)=fun x=>x=[(ix l k).2.1]:=by funext x;rw [zkp,if_neg c1,if_pos c2]
   exact ⟨out,o1,by rw [e];exact o2⟩
  rw [if_neg (by simpa using c2)]
  by_cases c3:(ix l k).1=3
  ·rw [if_pos (by simpa using c3)]
   have e:∀ x,Lg (Tr.mk ((ix l k).1,(ix l k).2.1,()) K) x↔∃ q∈K,Lg q x:=fun x=>by rw [zkp,if_neg c1,if_neg c2,if_pos c3,zoc]
   have key:∀ (m j:Nat) (out:List Bool),K.length - j=m->j<=K.length->out.length=w.length+1->(∀ q:Nat,q<=w.length->(ix out (q:Int)=true↔∃ t∈K.take j,En w (Lg t) f q))->
     ∃ out',zcQ zfe l k w f (j:Int) out=some out'/\EOut w (Lg (Tr.mk ((ix l k).1,(ix l k).2.1,()) K)) f out':=by
    intro m
    induction m with
    | zero=>
     intro j out hm hj hl h;obtain rfl:j=K.length:=by omega
     rw [List.take_length] at h;refine ⟨out,?_,hl,fun q hq => ?_⟩
     ·rw [ziq];unfold zch;rw [if_neg (by simp;omega)]
      rfl
     ·rw [h q hq];constructor
      ·rintro ⟨t,ht,i,i1,i2,i3⟩;exact ⟨i,i1,i2,(e _).2 ⟨t,ht,i3⟩⟩
      ·rintro ⟨i,i1,i2,i3⟩;obtain ⟨t,ht,i4⟩:=(e _).1 i3;exact ⟨t,ht,i,i1,i2,i4⟩
    | succ m ihm=>
     intro j out hm hj hl h;obtain ⟨y,y1,y2,y3⟩:=ih _ _ f (by omega) (hkn (j:Int) (by omega) (by omega)) (ha.get (j:Int) (by omega) (by omega)) hf
     have hjj:(j:Int)<=100000:=by
      have:tszL K<=n:=by rw [tsz] at hn;omega
      have:=zkJ K ha.pos;omega
     obtain ⟨out',e1,e2,e3⟩:=zrT (j:=(j:Int)) ⟨by omega,hjj⟩ (r13:=zcQ zfe l k w f) (y:=y) (by omega) _ 0 out rfl (by omega) (by omega)
     have et:=zoJ (l:=K) (i:=(j:Int)) (by omega) (by omega)
     rw [Int.toNat_natCast,show ((j:Int)+1).toNat=j+1 from by omega] at et
     obtain ⟨o2,f1,f2⟩:=ihm (j+1) out' (by omega) (by omega) (by omega) (fun q hq=>by
      rw [e3 q (by omega) (by omega),h q hq,y3 q hq,et]
      constructor
      ·rintro (⟨t,ht,h⟩ | ⟨_,h⟩)
       ·exact ⟨t,List.mem_append_left _ ht,h⟩
       ·exact ⟨_,List.mem_append_right _ (List.mem_singleton.2 rfl),h⟩
      ·rintro ⟨t,ht,h⟩;rcases List.mem_append.1 ht with ht | ht
       ·exact .inl ⟨t,ht,h⟩
       ·rw [List.mem_singleton.1 ht] at h;exact .inr ⟨by omega,h⟩)
     refine ⟨o2,?_,f2⟩
     rw [ziq];unfold zch;rw [if_pos (by simp;omega),zat (by omega)]
     exact za5 y1 (e1.trans f1)
   exact key _ 0 _ rfl (by omega) (by simp;omega) (fun q hq=>by
    rw [zcI (by omega) (by omega)]
    constructor
    ·intro h;cases h
    ·rintro ⟨t,ht,_⟩;simp at ht)
  rw [if_neg (by simpa using c3)]
  by_cases c4:(ix l k).1=4
  ·rw [if_pos (by simpa using c4)]
   have e:∀ x,Lg (Tr.mk ((ix l k).1,(ix l k).2.1,()) K) x↔LgS K x:=fun x=>by rw [zkp,if_neg c1,if_neg c2,if_neg c3,if_pos c4]
   have key:∀ (m j:Nat) (out:List Bool),K.length - j=m->j<=K.length->EOut w (LgS (K.take j)) f out->
     ∃ out',zdx zfe l k w (j:Int) out=some out'/\EOut w (Lg (Tr.mk ((ix l k).1,(ix l k).2.1,()) K)) f out':=by
    intro m
    induction m with
    | zero=>
     intro j out hm hj h;obtain rfl:j=K.length:=by omega
     rw [List.take_length] at h;refine ⟨out,?_,h.1,fun q hq => ?_⟩
     ·rw [zis];unfold zcj;rw [if_neg (by simp;omega)]
      rfl
     ·rw [h.2 q hq];constructor
      ·rintro ⟨i,i1,i2,i3⟩;exact ⟨i,i1,i2,(e _).2 i3⟩
      ·rintro ⟨i,i1,i2,i3⟩;exact ⟨i,i1,i2,(e _).1 i3⟩
    | succ m ihm=>
     intro j out hm hj h;obtain ⟨y,y1,y2,y3⟩:=ih _ _ out (by omega) (hkn (j:Int) (by omega) (by omega)) (ha.get (j:Int) (by omega) (by omega)) h.1
     have et:=zoJ (l:=K) (i:=(j:Int)) (by omega) (by omega)
     rw [Int.toNat_natCast,show ((j:Int)+1).toNat=j+1 from by omega] at et
     obtain ⟨o2,f1,f2⟩:=ihm (j+1) y (by omega) (by omega) ⟨y2,fun q hq=>by
      rw [y3 q hq];constructor
      ·rintro ⟨i,i1,i2,i3⟩;obtain ⟨i0,j1,j2,j3⟩:=(h.2 i (by omega)).1 i2
       refine ⟨i0,by omega,j2,?_⟩
       rw [et,ziN];exact ⟨_,_,(zo0 j1 i1).symm,j3,i3⟩
      ·rintro ⟨i0,j1,j2,j3⟩;rw [et,ziN] at j3;obtain ⟨u,x,eq,k1,k2⟩:=j3;obtain ⟨s1,s2,s3⟩:=zn2 j1 hq eq;exact ⟨i0+u.length,s1,(h.2 _ (by omega)).2 ⟨i0,by omega,j2,by rw [<- s2];exact k1⟩,by rw [<- s3];exact k2⟩⟩
     have hjj:(j:Int)<=100000:=by
      have:tszL K<=n:=by rw [tsz] at hn;omega
      have:=zkJ K ha.pos;omega
     refine ⟨o2,?_,f2⟩
     rw [zis];unfold zcj;rw [if_pos (by simp;omega),zat (by omega)]
     exact za5 y1 (G_to (by unfold fits;omega) f1)
   exact key _ 0 f rfl (by omega) ⟨hf,fun q hq=>by
    constructor
    ·intro h;exact ⟨q,Nat.le_refl _,h,sub_self⟩
    ·rintro ⟨i,i1,i2,i3⟩;have i3:sub w i q=[]:=i3;have:=congrArg List.length i3;unfold sub at this;rw [List.length_take,List.length_drop,List.length_nil] at this;obtain rfl:i=q:=by omega
     exact i2⟩
  rw [if_neg (by simpa using c4)]
  by_cases c5:(ix l k).1=5
  ·rw [if_pos (by simpa using c5)]
   have hk1:(ix l k).2.2.1.length=1:=by
    unfold wfN at hwf;omega
   obtain ⟨t0,rfl⟩:∃ t0,K=[t0]:=by
    match K,hKl with
    | [t0],_=>exact ⟨t0,rfl⟩
    | [],h=>simp at h;omega
    | _::_::_,h=>simp at h;omega
   have e:∀ x,Lg (Tr.mk ((ix l k).1,(ix l k).2.1,()) [t0]) x↔St (Lg t0) x:=fun x=>by rw [zkp,if_neg c1,if_neg c2,if_neg c3,if_neg c4,if_pos c5];rfl
   have key:∀ (m:Nat) (out:List Bool),((List.range (w.length+1)).map (fun q:Nat=>if ix out (q:Int)=true then 0 else 1)).sum=m->out.length=w.length+1->(∀ q:Nat,q<=w.length->ix f (q:Int)=true->ix out (q:Int)=true)->(∀ q:Nat,q<=w.length->ix out (q:Int)=true->En w (St (Lg t0)) f q)->
     ∃ out',zb5 zfe l k w true out=some out'/\EOut w (Lg (Tr.mk ((ix l k).1,(ix l k).2.1,()) [t0])) f out':=by
    intro m
    induction m using Nat.strongRecOn with
    | ind m ihm=>
     intro out hm hl hlo hup;obtain ⟨y,y1,y2,y3⟩:=ih _ _ out (by omega) (hkn 0 (by omega) (by simp)) (ha.get 0 (by omega) (by simp)) hl
     have y3:∀ j:Nat,j<=w.length->(ix y (j:Int)=true↔En w (Lg t0) out j):=y3;obtain ⟨out',ag,e1,e2,e3,e4⟩:=zrU (r29:=zb5 zfe l k w) (y:=y) (by omega) _ 0 false out rfl (by omega) (by omega)
     have hup':∀ q:Nat,q<=w.length->ix out' (q:Int)=true->En w (St (Lg t0)) f q:=fun q hq h=>by
      rcases (e3 q (by omega) (by omega)).1 h with h | ⟨_,h⟩
      ·exact hup q hq h
      ·obtain ⟨i,i1,i2,i3⟩:=(y3 q hq).1 h;obtain ⟨i0,j1,j2,j3⟩:=hup i (by omega) i2
       refine ⟨i0,by omega,j2,?_⟩
       rw [<- zo0 j1 i1];exact zsN j3 i3
     have st:zb5 zfe l k w true out=zb5 zfe l k w ag out':=by
      conv=>lhs;rw [zit];unfold zck
      rw [if_pos rfl,zat (by omega)]
      exact za5 y1 e1
     cases ag with
     | true=>
      obtain ⟨q,q0,q1,q2,q3⟩:=(e4.1 rfl).resolve_left (by simp)
      have hlt:((List.range (w.length+1)).map (fun q:Nat=>if ix out' (q:Int)=true then 0 else 1)).sum < m:=by
       rw [<- hm];refine zsL (fun x hx => ?_) ⟨q.toNat,List.mem_range.2 (by omega),?_⟩
       ·have hx:=List.mem_range.1 hx;by_cases c:ix out (x:Int)=true
        ·rw [if_pos ((e3 x (by omega) (by omega)).2 (.inl c))];omega
        ·rw [if_neg c];split<;>omega
       ·have eq:((q.toNat:Nat):Int)=q:=by omega
        rw [eq,if_pos ((e3 q (by omega) (by omega)).2 (.inr ⟨by omega,q2⟩)),q3]
        simp
      obtain ⟨o2,f1,f2⟩:=ihm _ hlt out' rfl (by omega) (fun q hq h=>(e3 q (by omega) (by omega)).2 (.inl (hlo q hq h))) hup'
      exact ⟨o2,st.trans f1,f2⟩
     | false=>
      refine ⟨out',st.trans ?_,by omega,fun q hq => ?_⟩
      ·rw [zit];unfold zck;rw [if_neg (by simp)]
       rfl
      ·have hno:∀ q:Nat,q<=w.length->ix y (q:Int)=true->ix out (q:Int)=true:=fun q hq h=>by
        cases hc:ix out (q:Int) with
        | true=>rfl
        | false=>
         have:=e4.2 (.inr ⟨q,by omega,by omega,h,hc⟩)
         cases this
       constructor
       ·intro h;obtain ⟨i,i1,i2,i3⟩:=hup' q hq h;exact ⟨i,i1,i2,(e _).2 i3⟩
       ·rintro ⟨i,i1,i2,i3⟩;refine (e3 q (by omega) (by omega)).2 (.inl ?_)
        have i3:=(e _).1 i3;have cl:∀ x,St (Lg t0) x->∀ i:Nat,i<=q->x=sub w i q->ix out (i:Int)=true->ix out (q:Int)=true:=by
         intro x hx
         induction hx with
         | nil=>
          intro i hi hx h;have:=congrArg List.length hx;unfold sub at this;rw [List.length_take,List.length_drop,List.length_nil] at this;obtain rfl:i=q:=by omega
          exact h
         | cons u x hu hx ihx=>
          intro i hi hux h;obtain ⟨s1,s2,s3⟩:=zn2 hi hq hux.symm;refine ihx (i+u.length) s1 s3 ?_
          exact hno _ (by omega) ((y3 _ (by omega)).2 ⟨i,by omega,h,by rw [<- s2];exact hu⟩)
        exact cl _ i3 i i1 rfl (hlo i (by omega) i2)
   exact key _ f rfl hf (fun q _ h=>h) (fun q hq h=>⟨q,Nat.le_refl _,h,by rw [sub_self];exact .nil⟩)
  rw [if_neg (by simpa using c5)]
  refine ⟨_,rfl,by simp;omega,fun j hj => ?_⟩
  rw [zcI (by omega) (by omega)]
  constructor
  ·intro h;cases h
  ·rintro ⟨i,_,_,h3⟩;rw [zkp,if_neg c1,if_neg c2,if_neg c3,if_neg c4,if_neg c5] at h3;exact h3.elim
end
abbrev EN:=Bool×List Int×List Int×Unit
def Pt (L:List Int) (N:List (List Int)):Int->List Int->Int->Prop
 | p,[],q=>p=q
 | p,a::w,q=>∃ r∈ix N p,ix L r=a/\Pt L N r w q
def Ac (L:List Int) (N:List (List Int)) (f la:List Int) (w:List Int):Prop:=∃ a w',w=a::w'/\∃ p∈f,ix L p=a/\∃ q∈la,Pt L N p w' q
def LE (L:List Int) (N:List (List Int)) (e:EN) (w:List Int):Prop:=(w=[]/\e.1=true)\/Ac L N e.2.1 e.2.2.1 w
theorem Pt.rng {L:List Int} {N:List (List Int)} {n0 n1:Int} (hb:∀ p,n0<=p->p < n1->∀ q∈ix N p,n0<=q/\q < n1):∀ {w:List Int} {p q:Int},n0<=p/\p < n1->Pt L N p w q->n0<=q/\q < n1
 | [],p,q,hp,h=>by
  have h:p=q:=h;subst h;exact hp
 | a::w,p,q,hp,h=>by
  obtain ⟨r,hr,_,h2⟩:=h;exact Pt.rng hb (hb p hp.1 hp.2 r hr) h2
theorem Pt.cong {L L':List Int} {N N':List (List Int)} {n0 n1:Int} (hb:∀ p,n0<=p->p < n1->∀ q∈ix N p,n0<=q/\q < n1) (hN:∀ p,n0<=p->p < n1->ix N' p=ix N p) (hL:∀ p,n0<=p->p < n1->ix L' p=ix L p):∀ {w:List Int} {p q:Int},n0<=p/\p < n1->(Pt L' N' p w q↔Pt L N p w q)
 | [],p,q,hp=>Iff.rfl
 | a::w,p,q,hp=>by
  show (∃ r∈ix N' p,_)↔(∃ r∈ix N p,_);rw [hN p hp.1 hp.2];refine exists_congr fun r=>and_congr_right fun hr => ?_
  have hr2:=hb p hp.1 hp.2 r hr;rw [hL r hr2.1 hr2.2,Pt.cong hb hN hL hr2]
theorem LE.cong {L L':List Int} {N N':List (List Int)} {n0 n1:Int} {e:EN} (hf:∀ p∈e.2.1,n0<=p/\p < n1) (hb:∀ p,n0<=p->p < n1->∀ q∈ix N p,n0<=q/\q < n1) (hN:∀ p,n0<=p->p < n1->ix N' p=ix N p) (hL:∀ p,n0<=p->p < n1->ix L' p=ix L p) {w:List Int}:LE L' N' e w↔LE L N e w:=by
 unfold LE Ac;refine or_congr Iff.rfl (exists_congr fun a=>exists_congr fun w'=>and_congr_right fun _=>exists_congr fun p=>and_congr_right fun hp => ?_)
 have hp2:=hf p hp;rw [hL p hp2.1 hp2.2];refine and_congr_right fun _=>exists_congr fun q=>and_congr_right fun _=>Pt.cong hb hN hL hp2
theorem zpE {last first L:List Int} {N:List (List Int)} (hlast:∀ p∈last,0<=p/\p < N.length) (hl:last.length<=20000) (hf:first.length<=20000) (hN:∀ p∈last,(ix N p).length<=8000000000000):
  ∃ N',zcD last first L N=some (L,N')/\N'.length=N.length/\(∀ p q:Int,0<=p->p < N.length->(q∈ix N' p↔q∈ix N p\/(p∈last/\q∈first)))/\(∀ p:Int,0<=p->p < N.length->p∉last->ix N' p=ix N p)/\(∀ p:Int,0<=p->p < N.length->(ix N' p).length<=(ix N p).length+last.length * first.length):=by
 have key:∀ (f n:Nat) (M:List (List Int)),last.length - n=f->n<=last.length->M.length=N.length->(∀ p∈last,(ix M p).length+f * first.length<=9000000000000)->
   ∃ N',zaR last first (n:Int) L M=some (L,N')/\N'.length=M.length/\(∀ p q:Int,0<=p->p < M.length->(q∈ix N' p↔q∈ix M p\/(p∈last.drop n/\q∈first)))/\(∀ p:Int,0<=p->p < M.length->p∉last.drop n->ix N' p=ix M p)/\(∀ p:Int,0<=p->p < M.length->(ix N' p).length<=(ix M p).length+f * first.length):=by
  intro f
  induction f with
  | zero=>
   intro n M hf hn hM hb;obtain rfl:n=last.length:=by omega
   refine ⟨M,?_,rfl,fun p q _ _=>by simp,fun _ _ _ _=>rfl,fun p _ _=>by omega⟩
   rw [zdC];unfold zaV;rw [if_neg (by simp)]
  | succ f ih=>
   intro n M hf' hn hM hb;have hm:=zge (l:=last) (i:=(n:Int)) (by omega) (by omega)
   obtain ⟨a,ea⟩:∃ a,ix last (n:Int)=a:=⟨_,rfl⟩;rw [ea] at hm;have ha:=hlast a hm;have hba:=hb a hm;rw [Nat.succ_mul] at hba;have ed:last.drop n=a::last.drop (n+1):=by
    rw [<- ea,zli (l:=last) (i:=(n:Int)) (by omega) (by omega)]
    simp
   have hset:∀ p:Int,0<=p->p < M.length->ix (M.set a.toNat (ix M a++first)) p=if p=a then ix M a++first else ix M p:=fun p p0 p1=>by
    by_cases c:p=a
    ·subst c;rw [if_pos rfl,zce p0 p1]
    ·rw [if_neg c,zcJ ha.1 p0 (fun h=>c h.symm)]
   obtain ⟨N',e1,e2,e3,e4,e5⟩:=ih (n+1) (M.set a.toNat (ix M a++first)) (by omega) (by omega) (by rw [List.length_set];exact hM) (fun p hp=>by
    have hp2:=hlast p hp;have:=hb p hp;rw [Nat.succ_mul] at this;rw [hset p hp2.1 (by omega)]
    split
    ·rename_i h;subst h;rw [List.length_append];omega
    ·omega)
   rw [List.length_set] at e2 e3 e4 e5;have st:zaR last first (n:Int) L M=zaR last first ((n:Int)+1) L (M.set a.toNat (ix M a++first)):=by
    conv=>lhs;rw [zdC];unfold zaV
    rw [if_pos (by simp;omega),ea]
    refine G_to (by omega) (G_to (by omega) (G_to (by omega) ?_))
    have fin:G (a.toNat < M.length) (G (room (ix M a) first 8) (G (0<=a/\a < (M.length:Int)) (G (a.toNat=a.toNat) (za3 (n:Int) (zaR last first) L (M.set a.toNat (ix M a++first))))))=zaR last first ((n:Int)+1) L (M.set a.toNat (ix M a++first)):=by
     unfold za3;exact G_to (by omega) (G_to (by unfold room;omega) (G_to (by omega) (G_to rfl (G_to (by unfold fits;omega) rfl))))
    exact ze6 fin fin
   refine ⟨N',st.trans e1,e2,fun p q p0 p1 => ?_,fun p p0 p1 hp => ?_,fun p p0 p1 => ?_⟩
   ·rw [e3 p q p0 p1,hset p p0 p1,ed,List.mem_cons];by_cases c:p=a
    ·subst c;rw [if_pos rfl,List.mem_append];constructor
     ·rintro ((h | h) | ⟨_,h⟩)
      ·exact .inl h
      ·exact .inr ⟨.inl rfl,h⟩
      ·exact .inr ⟨.inl rfl,h⟩
     ·rintro (h | ⟨_,h⟩)
      ·exact .inl (.inl h)
      ·exact .inl (.inr h)
    ·rw [if_neg c];exact or_congr Iff.rfl (and_congr ⟨.inr,fun h=>h.resolve_left c⟩ Iff.rfl)
   ·rw [ed,List.mem_cons] at hp;rw [e4 p p0 p1 (fun h=>hp (.inr h)),hset p p0 p1,if_neg (fun h=>hp (.inl h))]
   ·have:=e5 p p0 p1;rw [hset p p0 p1] at this;rw [Nat.succ_mul]
    split at this
    ·rename_i h;subst h;rw [List.length_append] at this;omega
    ·omega
 have hmul:last.length * first.length<=20000 * 20000:=Nat.mul_le_mul hl hf;obtain ⟨N',e1,e2,e3,e4,e5⟩:=key _ 0 N rfl (by omega) rfl (fun p hp=>by have:=hN p hp;rw [Nat.sub_zero];omega)
 exact ⟨N',e1,e2,e3,e4,e5⟩
structure GL (P:List Int->Prop) (s:Nat) (L0:List Int) (N0:List (List Int)) (e:EN) (L1:List Int) (N1:List (List Int)):Prop where
 lp:∃ z,L1=L0++z
 ll:N1.length=L1.length
 sz:L1.length<=L0.length+s
 np:∀ p:Int,0<=p->p < L0.length->ix N1 p=ix N0 p
 fb:∀ p∈e.2.1,(L0.length:Int)<=p/\p < L1.length
 lb:∀ p∈e.2.2.1,(L0.length:Int)<=p/\p < L1.length
 fl:e.2.1.length<=s
 tl:e.2.2.1.length<=s
 nb:∀ p:Int,(L0.length:Int)<=p->p < L1.length->∀ q∈ix N1 p,(L0.length:Int)<=q/\q < L1.length
 nl:∀ p:Int,(L0.length:Int)<=p->p < L1.length->(ix N1 p).length<=400000000 * s
 lg:∀ w,P w↔LE L1 N1 e w
section
variable {P Q:List Int->Prop} {s s':Nat} {L0 L L':List Int} {N0 N N':List (List Int)} {e f:EN}
theorem GL.pre (h:GL P s L0 N0 e L N):(L0.length:Int)<=L.length/\∀ p:Int,0<=p->p < L0.length->ix L p=ix L0 p:=by
 obtain ⟨z,rfl⟩:=h.lp;exact ⟨by rw [List.length_append];omega,fun p p0 p1=>zeu p0 p1⟩
theorem GL.of (h:GL P s L0 N0 e L N) (hs:s<=s') (hq:∀ w,Q w↔P w):GL Q s' L0 N0 e L N:=
 ⟨h.lp,h.ll,by have:=h.sz;omega,h.np,h.fb,h.lb,by have:=h.fl;omega,by have:=h.tl;omega,h.nb,fun p a b=>by have:=h.nl p a b;have:=Nat.mul_le_mul_left 400000000 hs;omega,fun w=>(hq w).trans (h.lg w)⟩
theorem GL.alt (h:GL P s L0 N0 e L N) (k:GL Q s' L N f L' N'):GL (fun w=>P w\/Q w) (s+s') L0 N0 (e.1 || f.1,e.2.1++f.2.1,e.2.2.1++f.2.2.1,()) L' N':=by
 obtain ⟨h1,h2⟩:=h.pre;obtain ⟨k1,k2⟩:=k.pre;have hkn:∀ p:Int,(L0.length:Int)<=p->p < L.length->ix N' p=ix N p:=fun p a b=>k.np p (by omega) b
 have hkl:∀ p:Int,(L0.length:Int)<=p->p < L.length->ix L' p=ix L p:=fun p a b=>k2 p (by omega) b
 have m1:=Nat.mul_le_mul_left 400000000 (show s<=s+s' by omega)
 have m2:=Nat.mul_le_mul_left 400000000 (show s'<=s+s' by omega)
 refine ⟨?_,k.ll,by have:=h.sz;have:=k.sz;omega,fun p a b=>(k.np p a (by omega)).trans (h.np p a b),fun p hp => ?_,fun p hp => ?_,?_,?_,fun p a b q hq => ?_,fun p a b => ?_,fun w => ?_⟩
 ·obtain ⟨z,rfl⟩:=h.lp;obtain ⟨y,rfl⟩:=k.lp;exact ⟨z++y,by simp⟩
 ·rcases List.mem_append.1 hp with hp | hp
  ·have:=h.fb p hp;omega
  ·have:=k.fb p hp;omega
 ·rcases List.mem_append.1 hp with hp | hp
  ·have:=h.lb p hp;omega
  ·have:=k.lb p hp;omega
 ·show (e.2.1++f.2.1).length<=_;rw [List.length_append];have:=h.fl;have:=k.fl;omega
 ·show (e.2.2.1++f.2.2.1).length<=_;rw [List.length_append];have:=h.tl;have:=k.tl;omega
 ·by_cases c:p < L.length
  ·rw [hkn p a c] at hq;have:=h.nb p a c q hq;omega
  ·have:=k.nb p (by omega) b q hq;omega
 ·by_cases c:p < L.length
  ·rw [hkn p a c];have:=h.nl p a c;omega
  ·have:=k.nl p (by omega) b;omega
 ·rw [h.lg w,k.lg w,<- LE.cong h.fb h.nb hkn hkl (w:=w)];constructor
  ·rintro ((⟨h3,h4⟩ | ⟨a,w',h3,p,h4,h5,q,h6,h7⟩) | (⟨h3,h4⟩ | ⟨a,w',h3,p,h4,h5,q,h6,h7⟩))
   ·exact .inl ⟨h3,by show (e.1 || f.1)=true;rw [h4];rfl⟩
   ·exact .inr ⟨a,w',h3,p,List.mem_append_left _ h4,h5,q,List.mem_append_left _ h6,h7⟩
   ·exact .inl ⟨h3,by show (e.1 || f.1)=true;rw [h4];simp⟩
   ·exact .inr ⟨a,w',h3,p,List.mem_append_right _ h4,h5,q,List.mem_append_right _ h6,h7⟩
  ·rintro (⟨h3,h4⟩ | ⟨a,w',h3,p,h4,h5,q,h6,h7⟩)
   ·have h4:(e.1 || f.1)=true:=h4
    rw [Bool.or_eq_true] at h4;rcases h4 with h4 | h4
    ·exact .inl (.inl ⟨h3,h4⟩)
    ·exact .inr (.inl ⟨h3,h4⟩)
   ·rcases List.mem_append.1 h4 with h4 | h4
    ·have hp:=h.fb p h4;have hq:=Pt.rng h.nb hp ((Pt.cong h.nb hkn hkl hp).1 h7);rcases List.mem_append.1 h6 with h6 | h6
     ·exact .inl (.inr ⟨a,w',h3,p,h4,h5,q,h6,h7⟩)
     ·have:=k.lb q h6;omega
    ·have hp:=k.fb p h4;have hq:=Pt.rng k.nb hp h7;rcases List.mem_append.1 h6 with h6 | h6
     ·have:=h.lb q h6;omega
     ·exact .inr (.inr ⟨a,w',h3,p,h4,h5,q,h6,h7⟩)
theorem GL.row (h:GL P s L0 N0 e L N) (k:GL Q s' L N f L' N') (hs:s<=20000) (hs':s'<=20000) (hs1:1<=s') {N2:List (List Int)} (n1:N2.length=N'.length) (n2:∀ p q:Int,0<=p->p < N'.length->(q∈ix N2 p↔q∈ix N' p\/(p∈e.2.2.1/\q∈f.2.1))) (n3:∀ p:Int,0<=p->p < N'.length->p∉e.2.2.1->ix N2 p=ix N' p) (n4:∀ p:Int,0<=p->p < N'.length->(ix N2 p).length<=(ix N' p).length+e.2.2.1.length * f.2.1.length) {fi la:List Int} (hfi:∀ p,p∈fi↔p∈e.2.1\/(e.1=true/\p∈f.2.1)) (hla:∀ p,p∈la↔p∈f.2.2.1\/(f.1=true/\p∈e.2.2.1)) (lfi:fi.length<=s+s') (lla:la.length<=s+s'):
  GL (fun w=>∃ u x,w=u++x/\P u/\Q x) (s+s') L0 N0 (e.1 && f.1,fi,la,()) L' N2:=by
 obtain ⟨h1,h2⟩:=h.pre;obtain ⟨k1,k2⟩:=k.pre;have hll:=k.ll;have hkn:∀ p:Int,(L0.length:Int)<=p->p < L.length->ix N' p=ix N p:=fun p a b=>k.np p (by omega) b
 have hkl:∀ p:Int,(L0.length:Int)<=p->p < L.length->ix L' p=ix L p:=fun p a b=>k2 p (by omega) b
 have hk2:∀ p:Int,(L.length:Int)<=p->p < L'.length->ix N2 p=ix N' p:=fun p a b=>n3 p (by omega) (by omega) (fun hh=>by have:=h.lb p hh;omega)
 have hkc:∀ {w:List Int} {p q:Int},(L.length:Int)<=p/\p < L'.length->(Pt L' N2 p w q↔Pt L' N' p w q):=fun {w p q} hp=>Pt.cong k.nb hk2 (fun _ _ _=>rfl) hp
 have hmul:e.2.2.1.length * f.2.1.length<=20000 * 20000:=Nat.mul_le_mul (by have:=h.tl;omega) (by have:=k.fl;omega)
 have path:∀ (w:List Int) (p q:Int),(L0.length:Int)<=p/\p < L.length->(Pt L' N2 p w q↔Pt L N p w q\/∃ u a x pe pf,w=u++a::x/\pe∈e.2.2.1/\Pt L N p u pe/\pf∈f.2.1/\ix L' pf=a/\Pt L' N' pf x q):=by
  intro w
  induction w with
  | nil=>
   intro p q hp;constructor
   ·intro h;exact .inl h
   ·rintro (h | ⟨u,a,x,pe,pf,h,_⟩)
    ·exact h
    ·have:=congrArg List.length h;rw [List.length_append] at this;simp at this
  | cons a w ih=>
   intro p q hp;have hrow:∀ r,r∈ix N2 p↔r∈ix N p\/(p∈e.2.2.1/\r∈f.2.1):=fun r=>by rw [n2 p r (by omega) (by omega),hkn p hp.1 hp.2]
   constructor
   ·rintro ⟨r,h3,h4,h5⟩;rcases (hrow r).1 h3 with h3 | ⟨h3,h6⟩
    ·have hr:=h.nb p hp.1 hp.2 r h3;rw [hkl r hr.1 hr.2] at h4;rcases (ih r q hr).1 h5 with h5 | ⟨u,b,x,pe,pf,rfl,g1,g2,g3,g4,g5⟩
     ·exact .inl ⟨r,h3,h4,h5⟩
     ·exact .inr ⟨a::u,b,x,pe,pf,rfl,g1,⟨r,h3,h4,g2⟩,g3,g4,g5⟩
    ·exact .inr ⟨[],a,w,p,r,rfl,h3,rfl,h6,h4,(hkc (k.fb r h6)).1 h5⟩
   ·rintro (⟨r,h3,h4,h5⟩ | ⟨u,b,x,pe,pf,hw,g1,g2,g3,g4,g5⟩)
    ·have hr:=h.nb p hp.1 hp.2 r h3;exact ⟨r,(hrow r).2 (.inl h3),by rw [hkl r hr.1 hr.2];exact h4,(ih r q hr).2 (.inl h5)⟩
    ·cases u with
     | nil=>
      injection hw with hw1 hw2
      subst hw1 hw2;have g2:p=pe:=g2;subst g2;exact ⟨pf,(hrow pf).2 (.inr ⟨g1,g3⟩),g4,(hkc (k.fb pf g3)).2 g5⟩
     | cons c u=>
      injection hw with hw1 hw2
      subst hw1 hw2;obtain ⟨r,h3,h4,h5⟩:=g2;have hr:=h.nb p hp.1 hp.2 r h3;exact ⟨r,(hrow r).2 (.inl h3),by rw [hkl r hr.1 hr.2];exact h4,(ih r q hr).2 (.inr ⟨u,b,x,pe,pf,rfl,g1,h5,g3,g4,g5⟩)⟩
 refine ⟨?_,by omega,by have:=h.sz;have:=k.sz;omega,fun p a b => ?_,fun p hp => ?_,fun p hp => ?_,lfi,lla,fun p a b q hq => ?_,fun p a b => ?_,fun w => ?_⟩
 ·obtain ⟨z,rfl⟩:=h.lp;obtain ⟨y,rfl⟩:=k.lp;exact ⟨z++y,by simp⟩
 ·rw [n3 p a (by omega) (fun hh=>by have:=h.lb p hh;omega)]
  exact (k.np p a (by omega)).trans (h.np p a b)
 ·rcases (hfi p).1 hp with hp | ⟨_,hp⟩
  ·have:=h.fb p hp;omega
  ·have:=k.fb p hp;omega
 ·rcases (hla p).1 hp with hp | ⟨_,hp⟩
  ·have:=k.lb p hp;omega
  ·have:=h.lb p hp;omega
 ·rcases (n2 p q (by omega) (by omega)).1 hq with hq | ⟨_,hq⟩
  ·by_cases c:p < L.length
   ·rw [hkn p a c] at hq;have:=h.nb p a c q hq;omega
   ·have:=k.nb p (by omega) b q hq;omega
  ·have:=k.fb q hq;omega
 ·have h4:=n4 p (by omega) (by omega)
  by_cases c:p < L.length
  ·rw [hkn p a c] at h4;have:=h.nl p a c;omega
  ·rw [hk2 p (by omega) b]
   have:=k.nl p (by omega) b;omega
 ·have sp:(∃ u x,w=u++x/\P u/\Q x)↔∃ u x,w=u++x/\LE L N e u/\LE L' N' f x:=by
   refine exists_congr fun u=>exists_congr fun x=>and_congr_right fun _ => ?_
   rw [h.lg u,k.lg x]
  rw [sp];constructor
  ·rintro ⟨u,x,rfl,(⟨rfl,h4⟩ | ⟨a,u',rfl,p,h4,h5,q,h6,h7⟩),(⟨rfl,g4⟩ | ⟨b,x',rfl,p2,g4,g5,q2,g6,g7⟩)⟩
   ·exact .inl ⟨rfl,by show (e.1 && f.1)=true;rw [h4,g4];rfl⟩
   ·exact .inr ⟨b,x',rfl,p2,(hfi p2).2 (.inr ⟨h4,g4⟩),g5,q2,(hla q2).2 (.inl g6),(hkc (k.fb p2 g4)).2 g7⟩
   ·have hp:=h.fb p h4;rw [List.append_nil];exact .inr ⟨a,u',rfl,p,(hfi p).2 (.inl h4),by rw [hkl p hp.1 hp.2];exact h5,q,(hla q).2 (.inr ⟨g4,h6⟩),(path u' p q hp).2 (.inl h7)⟩
   ·have hp:=h.fb p h4;exact .inr ⟨a,u'++b::x',rfl,p,(hfi p).2 (.inl h4),by rw [hkl p hp.1 hp.2];exact h5,q2,(hla q2).2 (.inl g6),(path _ p q2 hp).2 (.inr ⟨u',b,x',q,p2,rfl,h6,h7,g4,g5,g7⟩)⟩
  ·rintro (⟨rfl,h4⟩ | ⟨a,w',rfl,p,h4,h5,q,h6,h7⟩)
   ·have h4:(e.1 && f.1)=true:=h4;rw [Bool.and_eq_true] at h4;obtain ⟨h4,h5⟩:=h4;exact ⟨[],[],rfl,.inl ⟨rfl,h4⟩,.inl ⟨rfl,h5⟩⟩
   ·rcases (hfi p).1 h4 with h4 | ⟨h4,h8⟩
    ·have hp:=h.fb p h4;rw [hkl p hp.1 hp.2] at h5;rcases (path w' p q hp).1 h7 with h7 | ⟨u,b,x,pe,pf,rfl,g1,g2,g3,g4,g5⟩
     ·have hq:=Pt.rng h.nb hp h7;rcases (hla q).1 h6 with h6 | ⟨h6,h9⟩
      ·have:=k.lb q h6;omega
      ·exact ⟨a::w',[],by simp,.inr ⟨a,w',rfl,p,h4,h5,q,h9,h7⟩,.inl ⟨rfl,h6⟩⟩
     ·have hq:=Pt.rng k.nb (k.fb pf g3) g5;rcases (hla q).1 h6 with h6 | ⟨h6,h9⟩
      ·exact ⟨a::u,b::x,by simp,.inr ⟨a,u,rfl,p,h4,h5,pe,g1,g2⟩,.inr ⟨b,x,rfl,pf,g3,g4,q,h6,g5⟩⟩
      ·have:=h.lb q h9;omega
    ·have hp:=k.fb p h8;have h7:=(hkc hp).1 h7;have hq:=Pt.rng k.nb hp h7;rcases (hla q).1 h6 with h6 | ⟨h6,h9⟩
     ·exact ⟨[],a::w',rfl,.inl ⟨rfl,h4⟩,.inr ⟨a,w',rfl,p,h8,h5,q,h6,h7⟩⟩
     ·have:=h.lb q h9;omega
theorem GL.star (h:GL P s L0 N0 e L N) (hs:s<=20000) {N2:List (List Int)} (n1:N2.length=N.length) (n2:∀ p q:Int,0<=p->p < N.length->(q∈ix N2 p↔q∈ix N p\/(p∈e.2.2.1/\q∈e.2.1))) (n3:∀ p:Int,0<=p->p < N.length->p∉e.2.2.1->ix N2 p=ix N p) (n4:∀ p:Int,0<=p->p < N.length->(ix N2 p).length<=(ix N p).length+e.2.2.1.length * e.2.1.length):
  GL (St P) (s+1) L0 N0 (true,e.2.1,e.2.2.1,()) L N2:=by
 obtain ⟨h1,h2⟩:=h.pre;have hll:=h.ll;have hmul:e.2.2.1.length * e.2.1.length<=20000 * 20000:=Nat.mul_le_mul (by have:=h.tl;omega) (by have:=h.fl;omega)
 have up:∀ (w:List Int) (p q:Int),(L0.length:Int)<=p/\p < L.length->Pt L N p w q->Pt L N2 p w q:=by
  intro w
  induction w with
  | nil=>intro p q _ h;exact h
  | cons a w ih=>
   rintro p q hp ⟨r,h3,h4,h5⟩;have hr:=h.nb p hp.1 hp.2 r h3;exact ⟨r,(n2 p r (by omega) (by omega)).2 (.inl h3),h4,ih r q hr h5⟩
 have join:∀ (w:List Int) (p q:Int) (b:Int) (x:List Int) (pf q2:Int),(L0.length:Int)<=p/\p < L.length->Pt L N p w q->q∈e.2.2.1->pf∈e.2.1->ix L pf=b->Pt L N2 pf x q2->Pt L N2 p (w++b::x) q2:=by
  intro w
  induction w with
  | nil=>
   intro p q b x pf q2 hp hq hq2 hpf hb hx;have hq:p=q:=hq;subst hq;exact ⟨pf,(n2 p pf (by omega) (by omega)).2 (.inr ⟨hq2,hpf⟩),hb,hx⟩
  | cons a w ih=>
   rintro p q b x pf q2 hp ⟨r,h3,h4,h5⟩ hq2 hpf hb hx;have hr:=h.nb p hp.1 hp.2 r h3;exact ⟨r,(n2 p r (by omega) (by omega)).2 (.inl h3),h4,ih r q b x pf q2 hr h5 hq2 hpf hb hx⟩
 have cut:∀ (w:List Int) (p q:Int),(L0.length:Int)<=p/\p < L.length->q∈e.2.2.1->Pt L N2 p w q->∃ u x pe,w=u++x/\pe∈e.2.2.1/\Pt L N p u pe/\St P x:=by
  intro w
  induction w with
  | nil=>
   intro p q hp hq h3;have h3:p=q:=h3;subst h3;exact ⟨[],[],p,rfl,hq,rfl,.nil⟩
  | cons a w ih=>
   rintro p q hp hq ⟨r,h3,h4,h5⟩;rcases (n2 p r (by omega) (by omega)).1 h3 with h3 | ⟨h3,h6⟩
   ·obtain ⟨u,x,pe,rfl,g1,g2,g3⟩:=ih r q (h.nb p hp.1 hp.2 r h3) hq h5;exact ⟨a::u,x,pe,rfl,g1,⟨r,h3,h4,g2⟩,g3⟩
   ·obtain ⟨u,x,pe,rfl,g1,g2,g3⟩:=ih r q (h.fb r h6) hq h5;exact ⟨[],a::(u++x),p,rfl,h3,rfl,St.cons (a::u) x ((h.lg _).2 (.inr ⟨a,u,rfl,r,h6,h4,pe,g1,g2⟩)) g3⟩
 refine ⟨h.lp,by omega,by have:=h.sz;omega,fun p a b => ?_,h.fb,h.lb,?_,?_,fun p a b q hq => ?_,fun p a b => ?_,fun w => ?_⟩
 ·rw [n3 p a (by omega) (fun hh=>by have:=h.lb p hh;omega)]
  exact h.np p a b
 ·show e.2.1.length<=_;have:=h.fl;omega
 ·show e.2.2.1.length<=_;have:=h.tl;omega
 ·rcases (n2 p q (by omega) (by omega)).1 hq with hq | ⟨_,hq⟩
  ·exact h.nb p a b q hq
  ·exact h.fb q hq
 ·have h4:=n4 p (by omega) (by omega)
  have:=h.nl p a b;omega
 ·constructor
  ·intro hw;have key:∀ w,St P w->w=[]\/Ac L N2 e.2.1 e.2.2.1 w:=by
    intro w hw
    induction hw with
    | nil=>exact .inl rfl
    | cons u x hu hx ih=>
     rcases (h.lg u).1 hu with ⟨rfl,_⟩ | ⟨a,u',rfl,p,h4,h5,q,h6,h7⟩
     ·exact ih
     ·right
      have hp:=h.fb p h4;rcases ih with rfl | ⟨b,x',rfl,p2,g4,g5,q2,g6,g7⟩
      ·rw [List.append_nil];exact ⟨a,u',rfl,p,h4,h5,q,h6,up u' p q hp h7⟩
      ·exact ⟨a,u'++b::x',rfl,p,h4,h5,q2,g6,join u' p q b x' p2 q2 hp h7 h6 g4 g5 g7⟩
   exact (key w hw).imp (fun h=>⟨h,rfl⟩) id
  ·rintro (⟨rfl,_⟩ | ⟨a,w',rfl,p,h4,h5,q,h6,h7⟩)
   ·exact .nil
   ·obtain ⟨u,x,pe,rfl,g1,g2,g3⟩:=cut w' p q (h.fb p h4) h6 h7;exact St.cons (a::u) x ((h.lg _).2 (.inr ⟨a,u,rfl,p,h4,h5,pe,g1,g2⟩)) g3
end
theorem GL.none (L0:List Int) (N0:List (List Int)) (hl:N0.length=L0.length):GL (fun _=>False) 0 L0 N0 (false,[],[],()) L0 N0:=
 ⟨⟨[],by simp⟩,hl,by omega,fun _ _ _=>rfl,fun p hp=>(by cases hp),fun p hp=>(by cases hp),by simp,by simp,fun p a b=>by omega,fun p a b=>by omega,fun w=>⟨fun h=>h.elim,fun h=>by
  rcases h with ⟨_,h⟩ | ⟨a,w',_,p,h,_⟩
  ·cases h
  ·cases h⟩⟩
theorem zoi {P Q:List Int->Prop} {s s':Nat} {L0 L L':List Int} {N0 N N':List (List Int)} {e f:EN} (h:GL P s L0 N0 e L N) (k:GL Q s' L N f L' N') (hs:s<=12001) (hs':s'<=12001) (hs1:1<=s'):∃ g N2,zbC e f L' N'=some (g,L',N2)/\GL (fun w=>∃ u x,w=u++x/\P u/\Q x) (s+s') L0 N0 g L' N2:=by
 have hfl:=h.fl;have htl:=h.tl;have kfl:=k.fl;have ktl:=k.tl;have kll:=k.ll;obtain ⟨h1,h2⟩:=h.pre;obtain ⟨k1,k2⟩:=k.pre;obtain ⟨N2,e1,e2,e3,e4,e5⟩:=zpE (last:=e.2.2.1) (first:=f.2.1) (L:=L') (N:=N') (fun p hp=>by have:=h.lb p hp;omega) (by omega) (by omega) (fun p hp=>by
  have hp2:=h.lb p hp;rw [k.np p (by omega) hp2.2]
  have:=h.nl p hp2.1 hp2.2;have:400000000 * s<=400000000 * 12001:=Nat.mul_le_mul_left _ hs;omega)
 have hc1:za4 e.2.1=some e.2.1:=zgI (by omega)
 have hc2:za4 f.2.2.1=some f.2.2.1:=zgI (by omega)
 have fin:∀ (b:Bool),b=(e.1 && f.1)->∃ g,zap e f L' N2 b e.2.1 f.2.2.1=some (g,L',N2)/\GL (fun w=>∃ u x,w=u++x/\P u/\Q x) (s+s') L0 N0 g L' N2:=fun b hb=>by
  subst hb;have row:∀ fi la:List Int,(∀ p,p∈fi↔p∈e.2.1\/(e.1=true/\p∈f.2.1))->(∀ p,p∈la↔p∈f.2.2.1\/(f.1=true/\p∈e.2.2.1))->fi.length<=s+s'->la.length<=s+s'->GL (fun w=>∃ u x,w=u++x/\P u/\Q x) (s+s') L0 N0 (e.1 && f.1,fi,la,()) L' N2:=fun fi la a1 a2 a3 a4=>h.row k (by omega) (by omega) hs1 e2 e3 e4 e5 a1 a2 a3 a4
  unfold zap;by_cases ce:e.1=true
  ·rw [if_pos ce,zat (by unfold room;omega)]
   unfold zbE;by_cases cf:f.1=true
   ·rw [if_pos cf,zat (by unfold room;omega)]
    exact ⟨_,rfl,row _ _ (fun p=>by simp [ce]) (fun p=>by simp [cf]) (by rw [List.length_append];omega) (by rw [List.length_append];omega)⟩
   ·rw [if_neg cf];exact ⟨_,rfl,row _ _ (fun p=>by simp [ce]) (fun p=>by simp [cf]) (by rw [List.length_append];omega) (by omega)⟩
  ·rw [if_neg ce];unfold zbE;by_cases cf:f.1=true
   ·rw [if_pos cf,zat (by unfold room;omega)]
    exact ⟨_,rfl,row _ _ (fun p=>by simp [ce]) (fun p=>by simp [cf]) (by omega) (by rw [List.length_append];omega)⟩
   ·rw [if_neg cf];exact ⟨_,rfl,row _ _ (fun p=>by simp [ce]) (fun p=>by simp [cf]) (by omega) (by omega)⟩
 obtain ⟨g,g1,g2⟩:=fin _ rfl;refine ⟨g,N2,?_,g2⟩
 unfold zbC;refine za5 e1 ?_
 by_cases ce:e.1=true
 ·have g1':zap e f L' N2 f.1 e.2.1 f.2.2.1=some (g,L',N2):=by rw [ce,Bool.true_and] at g1;exact g1
  rw [if_pos ce]
  repeat' first | exact g1' | (with_reducible refine ze6 ?_ ?_) | (with_reducible refine za5 hc1 ?_) | (with_reducible refine za5 hc2 ?_)
 ·have ce':e.1=false:=by simpa using ce
  have g1':zap e f L' N2 false e.2.1 f.2.2.1=some (g,L',N2):=by rw [ce',Bool.false_and] at g1;exact g1
  rw [if_neg ce]
  repeat' first | exact g1' | (with_reducible refine ze6 ?_ ?_) | (with_reducible refine za5 hc1 ?_) | (with_reducible refine za5 hc2 ?_)
theorem zfQ:∀ (K:List (Tr ND)) (j:Nat),tszL (K.take j)<=tszL K
 | [],j=>by simp [tszL]
 | k::K,0=>by simp [tszL]
 | k::K,j+1=>by rw [List.take_succ_cons,tszL,tszL];have:=zfQ K j;omega
theorem zri {l:L5}:∀ (n:Nat) (t:Tr ND) (k:Int),n<=12001->tsz t<=n->Stn l t k->∀ (L0:List Int) (N0:List (List Int)),N0.length=L0.length->L0.length+tsz t<=12001->∃ e L1 N1,zaJ t L0 N0=some (e,L1,N1)/\GL (Lg t) (tsz t) L0 N0 e L1 N1:=by
 intro n
 induction n with
 | zero=>
  intro t k _ hn hs;have:=hs.pos;omega
 | succ n ih=>
  intro t k hn0 hn hs L0 N0 hl hsz
  cases hs with
  | mk k K h0 h1 hwf ha=>
  have hKl:=ha.len;have hts:tsz (Tr.mk ((ix l k).1,(ix l k).2.1,()) K)=tszL K+1:=by rw [tsz]
  rw [hts] at hn hsz ⊢;have hlenK:=zkJ K ha.pos;rw [zhj];unfold zbo;have eM:(Tr.mk ((ix l k).1,(ix l k).2.1,()) K).isMk=true:=rfl;have eV:(Tr.mk ((ix l k).1,(ix l k).2.1,()) K).val (0,(0,()))=((ix l k).1,(ix l k).2.1,()):=rfl;have eK:(Tr.mk ((ix l k).1,(ix l k).2.1,()) K).kids=K:=rfl;rw [zat eM,eV,eK];dsimp only;have kid:∀ j:Int,0<=j->j < K.length->∀ (L:List Int) (N:List (List Int)),N.length=L.length->L.length+tsz (ix K j)<=12001->∃ e L1 N1,zaJ (ix K j) L N=some (e,L1,N1)/\GL (Lg (ix K j)) (tsz (ix K j)) L N e L1 N1:=fun j j0 j1=>by
   have:=zni (zge j0 j1);exact ih _ _ (by omega) (by omega) (ha.get j j0 j1)
  have tk:∀ j:Nat,j < K.length->K.take (j+1)=K.take j++[ix K (j:Int)]:=fun j hj=>by
   have et:=zoJ (l:=K) (i:=(j:Int)) (by omega) (by omega)
   rw [Int.toNat_natCast,show ((j:Int)+1).toNat=j+1 from by omega] at et
   exact et
  by_cases c0:(ix l k).1=0
  ·rw [if_pos (by simpa using c0)]
   have hno:∀ w,Lg (Tr.mk ((ix l k).1,(ix l k).2.1,()) K) w↔False:=fun w=>by
    rw [zkp,if_neg (by omega),if_neg (by omega),if_neg (by omega),if_neg (by omega),if_neg (by omega)]
   exact ⟨_,_,_,rfl,(GL.none L0 N0 hl).of (by omega) hno⟩
  rw [if_neg (by simpa using c0)]
  by_cases c1:(ix l k).1=1
  ·rw [if_pos (by simpa using c1)]
   have he:∀ w,Lg (Tr.mk ((ix l k).1,(ix l k).2.1,()) K) w↔w=[]:=fun w=>by rw [zkp,if_pos c1]
   have g:=GL.none L0 N0 hl;refine ⟨_,_,_,rfl,⟨g.lp,g.ll,by omega,g.np,fun p hp=>(by cases hp),fun p hp=>(by cases hp),by simp,by simp,g.nb,fun p a b=>by omega,fun w => ?_⟩⟩
   rw [he];constructor
   ·intro h;exact .inl ⟨h,rfl⟩
   ·rintro (⟨h,_⟩ | ⟨a,w',_,p,h,_⟩)
    ·exact h
    ·cases h
  rw [if_neg (by simpa using c1)]
  by_cases c2:(ix l k).1=2
  ·rw [if_pos (by simpa using c2),zat eM,zat (by unfold room;simp;omega),zat (by unfold room;simp;omega),zat (by unfold fits;simp;omega)]
   have he:∀ w,Lg (Tr.mk ((ix l k).1,(ix l k).2.1,()) K) w↔w=[(ix l k).2.1]:=fun w=>by rw [zkp,if_neg c1,if_pos c2]
   have en:((L0++[(ix l k).2.1]).length:Int) - 1=L0.length:=by rw [List.length_append,List.length_singleton];omega
   rw [en];have hrow:ix (N0++[([]:List Int)]) (L0.length:Int)=[]:=by rw [<- hl,zc7]
   have hlt:((L0++[(ix l k).2.1]).length:Int)=L0.length+1:=by rw [List.length_append,List.length_singleton];omega
   refine ⟨_,_,_,rfl,⟨⟨_,rfl⟩,by simp [hl],by rw [List.length_append,List.length_singleton];omega,fun p a b=>zeu a (by omega),fun p hp => ?_,fun p hp => ?_,by simp,by simp,fun p a b q hq => ?_,fun p a b => ?_,fun w => ?_⟩⟩
   ·rw [List.mem_singleton.1 hp];omega
   ·rw [List.mem_singleton.1 hp];omega
   ·obtain rfl:p=L0.length:=by omega
    rw [hrow] at hq;cases hq
   ·obtain rfl:p=L0.length:=by omega
    rw [hrow];simp
   ·rw [he];have hpt:∀ w' q,Pt (L0++[(ix l k).2.1]) (N0++[[]]) (L0.length:Int) w' q->w'=[]:=fun w' q h=>by
     cases w' with
     | nil=>rfl
     | cons a w'=>
      obtain ⟨r,hr,_⟩:=h;rw [hrow] at hr;cases hr
    constructor
    ·rintro rfl;exact .inr ⟨_,[],rfl,_,List.mem_singleton.2 rfl,zc7,_,List.mem_singleton.2 rfl,rfl⟩
    ·rintro (⟨_,h⟩ | ⟨a,w',rfl,p,h,h3,q,h4,h5⟩)
     ·cases h
     ·have h:p∈[(L0.length:Int)]:=h;rw [List.mem_singleton.1 h] at h3 h5;rw [zc7] at h3;rw [hpt w' q h5,h3]
  rw [if_neg (by simpa using c2)]
  by_cases c3:(ix l k).1=3
  ·rw [if_pos (by simpa using c3),zat eM]
   have he:∀ w,Lg (Tr.mk ((ix l k).1,(ix l k).2.1,()) K) w↔∃ x∈K,Lg x w:=fun w=>by rw [zkp,if_neg c1,if_neg c2,if_pos c3,zoc]
   have key:∀ (m j:Nat) (e:EN) (L:List Int) (N:List (List Int)),K.length - j=m->j<=K.length->GL (fun w=>∃ x∈K.take j,Lg x w) (tszL (K.take j)) L0 N0 e L N->
     ∃ e' L1 N1,zaF zaJ (Tr.mk ((ix l k).1,(ix l k).2.1,()) K) (j:Int) e.1 L N e.2.1 e.2.2.1=some (e',L1,N1)/\GL (fun w=>∃ x∈K,Lg x w) (tszL K) L0 N0 e' L1 N1:=by
    intro m
    induction m with
    | zero=>
     intro j e L N hm hj h;obtain rfl:j=K.length:=by omega
     rw [List.take_length] at h;refine ⟨_,_,_,?_,h⟩
     rw [zc0];unfold zaM;rw [eK,if_neg (by simp)]
    | succ m ihm=>
     intro j e L N hm hj h;have hle:=zfQ K (j+1);rw [tk j (by omega),zfl] at hle
     have hsz2:=h.sz;obtain ⟨f,L',N',f1,f2⟩:=kid (j:Int) (by omega) (by omega) L N h.ll (by omega)
     have hg:=(h.alt f2).of (s':=tszL (K.take (j+1))) (Q:=fun w=>∃ x∈K.take (j+1),Lg x w) (by rw [tk j (by omega),zfl];omega) (fun w=>by
      rw [tk j (by omega)]
      constructor
      ·rintro ⟨x,hx,h⟩;rcases List.mem_append.1 hx with hx | hx
       ·exact .inl ⟨x,hx,h⟩
       ·rw [List.mem_singleton.1 hx] at h;exact .inr h
      ·rintro (⟨x,hx,h⟩ | h)
       ·exact ⟨x,List.mem_append_left _ hx,h⟩
       ·exact ⟨_,List.mem_append_right _ (List.mem_singleton.2 rfl),h⟩)
     obtain ⟨e',L1,N1,g1,g2⟩:=ihm (j+1) _ L' N' (by omega) (by omega) hg
     refine ⟨e',L1,N1,?_,g2⟩
     have hfl:=h.fl;have htl:=h.tl;have ffl:=f2.fl;have ftl:=f2.tl;have r1:room e.2.1 f.2.1 8:=by unfold room;omega
     have r2:room e.2.2.1 f.2.2.1 8:=by unfold room;omega
     have hJ:∀ b:Bool,b=(e.1 || f.1)->zaT (j:Int) (zaF zaJ (Tr.mk ((ix l k).1,(ix l k).2.1,()) K)) f L' N' b e.2.1 e.2.2.1=some (e',L1,N1):=fun b hb=>by
      subst hb;have g1':zaE (j:Int) (zaF zaJ (Tr.mk ((ix l k).1,(ix l k).2.1,()) K)) (e.1 || f.1) L' N' (e.2.1++f.2.1) (e.2.2.1++f.2.2.1)=some (e',L1,N1):=by
       unfold zaE;exact G_to (by unfold fits;omega) g1
      unfold zaT
      repeat' first | exact g1' | (with_reducible refine ze6 ?_ ?_) | (with_reducible refine G_to r1 ?_) | (with_reducible refine G_to r2 ?_)
     rw [zc0];unfold zaM;rw [eK,if_pos (by simp;omega),zat (by omega)]
     refine za5 f1 ?_
     by_cases ce:e.1=true
     ·rw [if_pos ce];exact hJ _ (by rw [ce];rfl)
     ·rw [if_neg ce];exact hJ _ (by simp [ce])
   obtain ⟨e',L1,N1,g1,g2⟩:=key _ 0 (false,[],[],()) L0 N0 rfl (by omega) ((GL.none L0 N0 hl).of (by simp) (fun w=>by simp))
   exact ⟨e',L1,N1,g1,g2.of (by omega) he⟩
  rw [if_neg (by simpa using c3)]
  by_cases c4:(ix l k).1=4
  ·rw [if_pos (by simpa using c4),zat eM]
   have hne:(ix l k).2.2.1≠[]:=by
    unfold wfN at hwf;rcases hwf with h | h | h | h | h | h
    ·omega
    ·omega
    ·omega
    ·omega
    ·exact h.2
    ·omega
   have hKp:0 < K.length:=by rw [hKl];exact List.length_pos_iff.2 hne
   have he:∀ w,Lg (Tr.mk ((ix l k).1,(ix l k).2.1,()) K) w↔LgS K w:=fun w=>by rw [zkp,if_neg c1,if_neg c2,if_neg c3,if_pos c4]
   have ecut:cut K 1 (K.length:Int)=K.drop 1:=by
    unfold cut;rw [Int.toNat_natCast,List.take_length];rfl
   have key:∀ (m j:Nat) (e:EN) (L:List Int) (N:List (List Int)),K.length - 1 - j=m->j+1<=K.length->GL (LgS (K.take (j+1))) (tszL (K.take (j+1))) L0 N0 e L N->
     ∃ e' L1 N1,zaK zaJ (Tr.mk ((ix l k).1,(ix l k).2.1,()) K) (j:Int) e.1 e.2.1 e.2.2.1 L N=some (e',L1,N1)/\GL (LgS K) (tszL K) L0 N0 e' L1 N1:=by
    intro m
    induction m with
    | zero=>
     intro j e L N hm hj h;have hjK:j+1=K.length:=by omega
     rw [show K.take (j+1)=K from List.take_of_length_le (by omega)] at h
     refine ⟨_,_,_,?_,h⟩
     rw [zc1];unfold zaN;rw [eK,ecut,if_neg (by rw [decide_eq_true_iff,List.length_drop];omega)]
    | succ m ihm=>
     intro j e L N hm hj h;have hle:=zfQ K (j+1+1);rw [tk (j+1) (by omega),zfl] at hle
     have hsz2:=h.sz;have eix:ix (K.drop 1) (j:Int)=ix K ((j+1:Nat):Int):=by
      rw [zli (l:=K.drop 1) (i:=(j:Int)) (by omega) (by rw [List.length_drop];omega),zli (l:=K) (i:=((j+1:Nat):Int)) (by omega) (by omega)]
      simp [Nat.add_comm]
     obtain ⟨f,L',N',f1,f2⟩:=kid ((j+1:Nat):Int) (by omega) (by omega) L N h.ll (by omega)
     have hpos:=ha.pos _ (zge (l:=K) (i:=((j+1:Nat):Int)) (by omega) (by omega))
     obtain ⟨g,N2,b1,b2⟩:=zoi h f2 (by omega) (by omega) hpos
     have hg:=b2.of (s':=tszL (K.take (j+1+1))) (Q:=LgS (K.take (j+1+1))) (by rw [tk (j+1) (by omega),zfl];omega) (fun w=>by rw [tk (j+1) (by omega),ziN])
     obtain ⟨e',L1,N1,g1,g2⟩:=ihm (j+1) _ L' N2 (by omega) (by omega) hg
     refine ⟨e',L1,N1,?_,g2⟩
     have hJ:zaU (j:Int) (zaK zaJ (Tr.mk ((ix l k).1,(ix l k).2.1,()) K)) g.1 g.2.1 g.2.2.1 L' N2=some (e',L1,N1):=by
      unfold zaU;exact G_to (by unfold fits;omega) g1
     rw [zc1];unfold zaN;rw [eK,ecut,eix,if_pos (by rw [decide_eq_true_iff,List.length_drop];omega),zat (by rw [List.length_drop];omega)]
     exact ze6 (za5 f1 (za5 b1 hJ)) (za5 f1 (za5 b1 hJ))
   have t1:K.take 1=[ix K 0]:=by have:=tk 0 hKp;simpa using this
   have hle:=zfQ K 1;have hz1:tszL (K.take 1)=tsz (ix K 0):=by rw [t1];simp [tszL]
   obtain ⟨f,L',N',f1,f2⟩:=kid 0 (by omega) (by omega) L0 N0 hl (by omega)
   have hg:=f2.of (s':=tszL (K.take (0+1))) (Q:=LgS (K.take (0+1))) (by show _<=tszL (K.take 1);omega) (fun w=>by
    rw [Nat.zero_add,t1];constructor
    ·rintro ⟨u,x,rfl,h,h2⟩;have h2:x=[]:=h2;rw [h2,List.append_nil];exact h
    ·intro h;exact ⟨w,[],by simp,h,rfl⟩)
   obtain ⟨e',L1,N1,g1,g2⟩:=key _ 0 f L' N' rfl (by omega) hg
   refine ⟨e',L1,N1,?_,g2.of (by omega) he⟩
   rw [zat (by omega)]
   exact za5 f1 (G_to eM (G_to (by omega) g1))
  rw [if_neg (by simpa using c4),zat eM]
  have c5:(ix l k).1=5/\(ix l k).2.2.1.length=1:=by
   unfold wfN at hwf;rcases hwf with h | h | h | h | h | h
   ·omega
   ·omega
   ·omega
   ·omega
   ·omega
   ·exact h
  obtain ⟨t0,rfl⟩:∃ t0,K=[t0]:=by
   match K,hKl with
   | [t0],_=>exact ⟨t0,rfl⟩
   | [],h=>simp at h;omega
   | _::_::_,h=>simp at h;omega
  have he:∀ w,Lg (Tr.mk ((ix l k).1,(ix l k).2.1,()) [t0]) w↔St (Lg t0) w:=fun w=>by rw [zkp,if_neg c1,if_neg c2,if_neg c3,if_neg c4,if_pos c5.1];rfl
  have hz1:tszL [t0]=tsz t0:=by simp [tszL]
  obtain ⟨f,L',N',f1,f2⟩:=kid 0 (by omega) (by simp) L0 N0 hl (by show L0.length+tsz t0<=_;omega)
  have f1:zaJ t0 L0 N0=some (f,L',N'):=f1;have f2:GL (Lg t0) (tsz t0) L0 N0 f L' N':=f2;have hfl:=f2.fl;have htl:=f2.tl;have hll:=f2.ll;obtain ⟨N2,e1,e2,e3,e4,e5⟩:=zpE (last:=f.2.2.1) (first:=f.2.1) (L:=L') (N:=N') (fun p hp=>by have:=f2.lb p hp;omega) (by omega) (by omega) (fun p hp=>by
   have hp2:=f2.lb p hp;have:=f2.nl p hp2.1 hp2.2;have:400000000 * tsz t0<=400000000 * 12001:=Nat.mul_le_mul_left _ (by omega)
   omega)
  refine ⟨_,L',N2,?_,(f2.star (by omega) e2 e3 e4 e5).of (by omega) he⟩
  rw [zat (by simp)]
  exact za5 f1 (za5 e1 rfl)
theorem znO {l:L5} {a:Tr ND} {k:Int} (hz:tsz a<=12001) (hs:Stn l a k):
  ∃ e L N good,zdS a=some ((L,(N++[e.2.1],())),good)/\GL (Lg a) (tsz a) [] [] e L N/\good.length=L.length+1/\(∀ p:Int,0<=p->p < L.length->(ix good p=true↔p∈e.2.2.1))/\ix good (L.length:Int)=e.1:=by
 obtain ⟨e,L,N,h1,h2⟩:=zri (tsz a) a k (by omega) (Nat.le_refl _) hs [] [] rfl (by simpa using hz)
 have hsz:=h2.sz;have hll:=h2.ll;have htl:=h2.tl;have hfl:=h2.fl;rw [List.length_nil,Nat.zero_add] at hsz;have hlb:∀ p∈e.2.2.1,0<=p/\p < L.length:=fun p hp=>by have:=h2.lb p hp;simpa using this
 obtain ⟨g,⟨g1,g2⟩,g3⟩:=zq3 (len:=(e.2.2.1.length:Int)) (L:=zcA e L N) (f:=fun t (s:List Bool)=>s.set (ix e.2.2.1 t).toNat true) (lo:=0)
  (I:=fun t (s:List Bool)=>s.length=L.length+1/\∀ p:Int,0<=p->p < L.length->(ix s p=true↔∃ j:Int,0<=j/\j < t/\ix e.2.2.1 j=p)) (s:=List.replicate ((L.length:Int)+(1:Int)).toNat (false:Bool)) (by omega)
  ⟨by rw [List.length_replicate];omega,fun p p0 p1=>by
   rw [zcI p0 (by omega)]
   constructor
   ·intro h;cases h
   ·rintro ⟨j,j0,j1,_⟩;omega⟩ (fun t s t0 t1 ⟨i1,i2⟩=>by
   have hm:=hlb _ (zge (l:=e.2.2.1) (i:=t) t0 t1);refine ⟨?_,by rw [List.length_set];exact i1,fun p p0 p1 => ?_⟩
   ·rw [zeD];unfold zbb;rw [if_pos (by simpa using t1),zat ⟨t0,t1⟩,zat (by omega),zat (by omega),zat (by unfold fits;omega)]
   ·by_cases c:p=ix e.2.2.1 t
    ·subst c;rw [zce p0 (by omega)]
     exact ⟨fun _=>⟨t,t0,by omega,rfl⟩,fun _=>rfl⟩
    ·rw [zcJ hm.1 p0 (fun h=>c h.symm),i2 p p0 p1]
     constructor
     ·rintro ⟨j,j0,j1,rfl⟩;exact ⟨j,j0,by omega,rfl⟩
     ·rintro ⟨j,j0,j1,rfl⟩;refine ⟨j,j0,?_,rfl⟩
      by_cases c2:j=t
      ·subst c2;exact absurd rfl c
      ·omega)
 refine ⟨e,L,N,g.set (L.length:Int).toNat e.1,?_,h2,by rw [List.length_set];exact g1,fun p p0 p1 => ?_,zce (by omega) (by omega)⟩
 ·unfold zdS;refine za5 h1 ?_
  refine G_to (by unfold fits;dsimp only;omega) (G_to (by unfold mkOK;dsimp only;omega) ?_)
  refine Eq.trans g3 ?_
  rw [zeD];unfold zbb;rw [if_neg (by simp),zat (by omega),zat (by omega),zat (by unfold room;simp only [List.length_singleton];omega)]
 ·rw [zcJ (by omega) p0 (by omega),g2 p p0 p1]
  constructor
  ·rintro ⟨j,j0,j1,rfl⟩;exact zge j0 j1
  ·intro h;obtain ⟨i,i0,i1,h⟩:=(zrZ (P:=fun x=>x=p)).1 ⟨p,h,rfl⟩;exact ⟨i,i0,i1,h⟩
theorem Pt.snoc {L:List Int} {N:List (List Int)}:∀ {w:List Int} {p a q:Int},Pt L N p (w++[a]) q↔∃ r,Pt L N p w r/\q∈ix N r/\ix L q=a
 | [],p,a,q=>by
  show (∃ r∈ix N p,ix L r=a/\r=q)↔∃ r,p=r/\_;constructor
  ·rintro ⟨r,h1,h2,rfl⟩;exact ⟨p,rfl,h1,h2⟩
  ·rintro ⟨r,rfl,h1,h2⟩;exact ⟨q,h1,h2,rfl⟩
 | b::w,p,a,q=>by
  show (∃ r∈ix N p,ix L r=b/\Pt L N r (w++[a]) q)↔∃ r,(∃ s∈ix N p,ix L s=b/\Pt L N s w r)/\_;constructor
  ·rintro ⟨r,h1,h2,h3⟩;obtain ⟨s,h4,h5⟩:=Pt.snoc.1 h3;exact ⟨s,⟨r,h1,h2,h4⟩,h5⟩
  ·rintro ⟨s,⟨r,h1,h2,h4⟩,h5⟩;exact ⟨r,h1,h2,Pt.snoc.2 ⟨s,h4,h5⟩⟩
section
variable {w L:List Int} {M:List (List Int)} {n:Nat}
theorem ztb (hL:L.length=n) (hM:M.length=n+1) (hn:n<=12001) (hb:∀ p:Int,0<=p->p<=n->∀ q∈ix M p,0<=q/\q < n) (hrow:∀ p:Int,0<=p->p<=n->(ix M p).length<=9000000000000) {t p:Int} {r15} (p0:0<=p) (p1:p<=n) {s:List Bool} (hs:s.length=n+1):
  ∃ s',s'.length=n+1/\(∀ q:Int,0<=q->q<=n->(ix s' q=true↔ix s q=true\/(q∈ix M p/\ix L q=ix w t)))/\zbB w (L,(M,())) t p r15 0 s=r15 (p+1) s':=by
 have hr:=hrow p p0 p1;obtain ⟨g,⟨g1,g2⟩,g3⟩:=zq3 (len:=((ix M p).length:Int)) (L:=zbB w (L,(M,())) t p r15) (f:=fun j (s:List Bool)=>if ix L (ix (ix M p) j)=ix w t then s.set (ix (ix M p) j).toNat true else s) (lo:=0)
  (I:=fun j (s':List Bool)=>s'.length=n+1/\∀ q:Int,0<=q->q<=n->(ix s' q=true↔ix s q=true\/((∃ i:Int,0<=i/\i < j/\ix (ix M p) i=q)/\ix L q=ix w t))) (s:=s) (by omega)
  ⟨hs,fun q q0 q1=>⟨.inl,fun h=>h.elim id (by rintro ⟨⟨i,i0,i1,_⟩,_⟩;omega)⟩⟩ (fun j s2 j0 j1 ⟨i1,i2⟩=>by
   have hm:=hb p p0 p1 _ (zge (l:=ix M p) (i:=j) j0 j1);have hlt:∀ q:Int,(∃ i:Int,0<=i/\i < j+1/\ix (ix M p) i=q)↔(∃ i:Int,0<=i/\i < j/\ix (ix M p) i=q)\/ix (ix M p) j=q:=fun q=>by
    constructor
    ·rintro ⟨i,a,b,h⟩;by_cases c:i=j
     ·subst c;exact .inr h
     ·exact .inl ⟨i,a,by omega,h⟩
    ·rintro (⟨i,a,b,h⟩ | h)
     ·exact ⟨i,a,by omega,h⟩
     ·exact ⟨j,j0,by omega,h⟩
   refine ⟨?_,?_,fun q q0 q1 => ?_⟩
   ·rw [zfJ];unfold zbx;dsimp only;rw [if_pos (by simpa using j1),zat ⟨j0,j1⟩,zat (by omega)]
    by_cases c:ix L (ix (ix M p) j)=ix w t
    ·rw [if_pos (by simpa using c),if_pos c,zat (by omega),zat (by omega),zat (by unfold fits;omega)]
    ·rw [if_neg (by simpa using c),if_neg c,zat (by unfold fits;omega)]
   ·split
    ·rw [List.length_set];exact i1
    ·exact i1
   ·rw [hlt q];by_cases c:ix L (ix (ix M p) j)=ix w t
    ·rw [if_pos c];by_cases c2:ix (ix M p) j=q
     ·subst c2;rw [zce q0 (by omega)]
      exact ⟨fun _ => .inr ⟨.inr rfl,c⟩,fun _=>rfl⟩
     ·rw [zcJ hm.1 q0 c2,i2 q q0 q1];exact or_congr Iff.rfl (and_congr ⟨.inl,fun h=>h.resolve_right c2⟩ Iff.rfl)
    ·rw [if_neg c,i2 q q0 q1];refine or_congr Iff.rfl ⟨fun h=>⟨.inl h.1,h.2⟩,fun h=>⟨h.1.resolve_right (fun h2 => ?_),h.2⟩⟩
     rw [<- h2] at h;exact c h.2)
 refine ⟨g,g1,fun q q0 q1 => ?_,?_⟩
 ·rw [g2 q q0 q1];refine or_congr Iff.rfl (and_congr ?_ Iff.rfl)
  constructor
  ·rintro ⟨j,j0,j1,rfl⟩;exact zge j0 j1
  ·intro h;obtain ⟨i,i0,i1,h⟩:=(zrZ (P:=fun x=>x=q)).1 ⟨q,h,rfl⟩;exact ⟨i,i0,i1,h⟩
 ·refine Eq.trans g3 ?_
  rw [zfJ];unfold zbx;dsimp only;rw [if_neg (by simp),zat (by unfold fits;omega)]
theorem zta (hL:L.length=n) (hM:M.length=n+1) (hn:n<=12001) (hb:∀ p:Int,0<=p->p<=n->∀ q∈ix M p,0<=q/\q < n) (hrow:∀ p:Int,0<=p->p<=n->(ix M p).length<=9000000000000) {t:Int} (t0:0<=t) (t1:t<=1000) {r11} {now:List Bool} (hnow:now.length=n+1):
  ∃ s',s'.length=n+1/\(∀ q:Int,0<=q->q<=n->(ix s' q=true↔∃ p:Int,0<=p/\p<=n/\ix now p=true/\q∈ix M p/\ix L q=ix w t))/\zbr w (L,(M,())) t now r11 0 (List.replicate (((n+1:Nat):Int)).toNat (false:Bool))=r11 (t+1) s':=by
 have key:∀ (m:Nat) (i:Int) (s:List Bool),0<=i->i<=n+1->((n:Int)+1 - i).toNat=m->s.length=n+1->
   ∃ s',s'.length=n+1/\(∀ q:Int,0<=q->q<=n->(ix s' q=true↔ix s q=true\/∃ p:Int,i<=p/\p<=n/\ix now p=true/\q∈ix M p/\ix L q=ix w t))/\zbr w (L,(M,())) t now r11 i s=r11 (t+1) s':=by
  intro m
  induction m with
  | zero=>
   intro i s i0 i1 hm hs;refine ⟨s,hs,fun q _ _=>⟨.inl,fun h=>h.elim id (by rintro ⟨p,a,b,_⟩;omega)⟩,?_⟩
   rw [zdO];unfold zbm;rw [if_neg (by rw [decide_eq_true_iff];omega),zat (by unfold fits;omega)]
  | succ m ih=>
   intro i s i0 i1 hm hs;have hsplit:∀ P:Int->Prop,(∃ p:Int,i<=p/\p<=n/\P p)↔P i\/∃ p:Int,i+1<=p/\p<=n/\P p:=fun P=>by
    constructor
    ·rintro ⟨p,a,b,h⟩;by_cases c:p=i
     ·subst c;exact .inl h
     ·exact .inr ⟨p,by omega,b,h⟩
    ·rintro (h | ⟨p,a,b,h⟩)
     ·exact ⟨i,by omega,by omega,h⟩
     ·exact ⟨p,by omega,b,h⟩
   by_cases c:ix now i=true
   ·obtain ⟨s1,h1,h2,h3⟩:=ztb (w:=w) (t:=t) (r15:=zbr w (L,(M,())) t now r11) hL hM hn hb hrow i0 (by omega) hs
    obtain ⟨s',e1,e2,e3⟩:=ih (i+1) s1 (by omega) (by omega) (by omega) h1
    refine ⟨s',e1,fun q q0 q1 => ?_,?_⟩
    ·rw [e2 q q0 q1,h2 q q0 q1,hsplit,or_assoc];exact or_congr Iff.rfl (or_congr ⟨fun h=>⟨c,h⟩,fun h=>h.2⟩ Iff.rfl)
    ·rw [zdO];unfold zbm;dsimp only;rw [if_pos (by rw [decide_eq_true_iff];omega),zat (by omega),zat (by omega),if_neg (by simp [c]),zat (by omega)]
     exact h3.trans e3
   ·obtain ⟨s',e1,e2,e3⟩:=ih (i+1) s (by omega) (by omega) (by omega) hs
    refine ⟨s',e1,fun q q0 q1 => ?_,?_⟩
    ·rw [e2 q q0 q1,hsplit];refine or_congr Iff.rfl ⟨.inr,fun h=>h.resolve_left (fun h2=>c h2.1)⟩
    ·rw [zdO];unfold zbm;rw [if_pos (by rw [decide_eq_true_iff];omega),zat (by omega),zat (by omega),if_pos (by simpa using c),zat (by unfold fits;omega)]
     exact e3
 obtain ⟨s',e1,e2,e3⟩:=key _ 0 (List.replicate (((n+1:Nat):Int)).toNat (false:Bool)) (by omega) (by omega) rfl (by simp)
 refine ⟨s',e1,fun q q0 q1 => ?_,e3⟩
 rw [e2 q q0 q1,zcI q0 (by omega)]
 simp
theorem ztc {good now:List Bool} (hg:good.length=n+1) (hn:n<=12001) (hnow:now.length=n+1):∃ b,zbM good now 0=some (b,0)/\(b=true↔∃ k:Int,0<=k/\k<=n/\ix now k=true/\ix good k=true):=by
 have st:∀ t:Int,0<=t->t < ((n+1:Nat):Int)->((ix now t=true/\ix good t=true)->zbM good now t=some (true,0))/\(¬ (ix now t=true/\ix good t=true)->zbM good now t=zbM good now (t+1)):=fun t t0 t1=>by
  constructor
  ·rintro ⟨h1,h2⟩;rw [zdR];unfold zbn;rw [if_pos (by rw [decide_eq_true_iff];omega),zat (by omega),zat (by omega),if_pos h1,zat (by omega),zat (by omega),if_pos h2]
  ·intro h
   conv=>lhs;rw [zdR];unfold zbn
   rw [if_pos (by rw [decide_eq_true_iff];omega),zat (by omega),zat (by omega)]
   by_cases c:ix now t=true
   ·rw [if_pos c,zat (by omega),zat (by omega),if_neg (fun h2=>h ⟨c,h2⟩),zat (by unfold fits;omega)]
   ·rw [if_neg c,zat (by unfold fits;omega)]
 by_cases c:∃ k:Int,0<=k/\k<=n/\ix now k=true/\ix good k=true
 ·refine ⟨true,?_,by simpa using c⟩
  refine zrE (len:=((n+1:Nat):Int)) (lo:=0) (bad:=fun t=>ix now t=true/\ix good t=true) (by omega) st (fun h => ?_)
  obtain ⟨k,k0,k1,h2⟩:=c;exact absurd h2 (h k k0 (by omega))
 ·refine ⟨false,?_,by simpa using c⟩
  refine zrE (len:=((n+1:Nat):Int)) (lo:=0) (bad:=fun t=>ix now t=true/\ix good t=true) (by omega) (fun t t0 t1=>⟨fun h=>absurd ⟨t,t0,by omega,h⟩ c,(st t t0 t1).2⟩) (fun h => ?_)
  rw [zdR];unfold zbn;rw [if_neg (by rw [decide_eq_true_iff];omega)]
theorem zs9 (hL:L.length=n) (hM:M.length=n+1) (hn:n<=12001) (hw:w.length<=100) (hb:∀ p:Int,0<=p->p<=n->∀ q∈ix M p,0<=q/\q < n) (hrow:∀ p:Int,0<=p->p<=n->(ix M p).length<=9000000000000) {good:List Bool} (hg:good.length=n+1):∀ (m t:Nat) (now:List Bool),w.length - t=m->t<=w.length->now.length=n+1->(∀ q:Int,0<=q->q<=n->(ix now q=true↔Pt L M n (w.take t) q))->
  ∃ b,zcU w (L,(M,())) good (t:Int) now=some (b,0)/\(b=true↔∃ k:Int,0<=k/\k<=n/\Pt L M n w k/\ix good k=true):=by
 intro m
 induction m with
 | zero=>
  intro t now hm ht hnow hI;rw [List.take_of_length_le (by omega)] at hI
  obtain ⟨b,h1,h2⟩:=ztc hg hn hnow;refine ⟨b,?_,h2.trans (exists_congr fun k=>and_congr_right fun k0=>and_congr_right fun k1=>and_congr (hI k k0 k1) Iff.rfl)⟩
  rw [zfH];unfold zbw;rw [if_neg (by rw [decide_eq_true_iff];omega)]
  exact h1
 | succ m ih=>
  intro t now hm ht hnow hI;obtain ⟨s',e1,e2,e3⟩:=zta (w:=w) (t:=(t:Int)) (r11:=zcU w (L,(M,())) good) hL hM hn hb hrow (by omega) (by omega) hnow
  have hix:ix w (t:Int)=w[t]'(by omega):=by rw [zli (by omega) (by omega)];simp
  have htk:w.take (t+1)=w.take t++[ix w (t:Int)]:=by
   rw [hix,List.take_append_getElem]
  obtain ⟨b,h1,h2⟩:=ih (t+1) s' (by omega) (by omega) e1 (fun q q0 q1=>by
   rw [e2 q q0 q1,htk,Pt.snoc];constructor
   ·rintro ⟨p,p0,p1,h,h2⟩;exact ⟨p,(hI p p0 p1).1 h,h2⟩
   ·rintro ⟨p,h,h2⟩;have hr:0<=p/\p < (n:Int)+1:=Pt.rng (n0:=0) (n1:=(n:Int)+1) (fun p p0 p1 q hq=>by have:=hb p p0 (by omega) q hq;omega) ⟨by omega,by omega⟩ h
    exact ⟨p,hr.1,by omega,(hI p hr.1 (by omega)).2 h,h2⟩)
  refine ⟨b,?_,h2⟩
  rw [zfH];unfold zbw;rw [if_pos (by rw [decide_eq_true_iff];omega),zat (by omega),zat (by unfold mkOK;omega),hg]
  exact e3.trans h1
end
theorem zoQ {l:L5} {a:Tr ND} {k:Int} {c:List UInt8} {w:List Int} (hp:zcx c=some (a,(0,(0,())))) (hz:tsz a<=12001) (hs:Stn l a k) (hm:mayE 4 w=0) (hw:w.length<=60):
  ∃ b,zcT c w=some (b,0)/\(b=true↔Lg a w):=by
 obtain ⟨e,L,N,good,h1,h2,h3,h4,h5⟩:=znO hz hs;obtain ⟨n,hn⟩:∃ n,L.length=n:=⟨_,rfl⟩;have hsz:=h2.sz;have hll:=h2.ll;have hfl:=h2.fl;rw [List.length_nil,Nat.zero_add] at hsz;rw [hn] at h3 h4 h5 hsz hll;have hMl:∀ p:Int,0<=p->p < n->ix (N++[e.2.1]) p=ix N p:=fun p p0 p1=>zeu p0 (by omega)
 have hMn:ix (N++[e.2.1]) (n:Int)=e.2.1:=by rw [<- hll];exact zc7
 have hnb:∀ p:Int,0<=p->p < n->∀ q∈ix N p,0<=q/\q < n:=fun p p0 p1 q hq=>by
  have:=h2.nb p (by simpa using p0) (by omega) q hq
  rw [hn] at this;simpa using this
 have hfb:∀ q∈e.2.1,0<=q/\q < n:=fun q hq=>by
  have:=h2.fb q hq;rw [hn] at this;simpa using this
 have hlb:∀ q∈e.2.2.1,0<=q/\q < n:=fun q hq=>by
  have:=h2.lb q hq;rw [hn] at this;simpa using this
 have hb:∀ p:Int,0<=p->p<=n->∀ q∈ix (N++[e.2.1]) p,0<=q/\q < n:=fun p p0 p1 q hq=>by
  by_cases c:p=n
  ·subst c;rw [hMn] at hq;exact hfb q hq
  ·rw [hMl p p0 (by omega)] at hq;exact hnb p p0 (by omega) q hq
 have hrow:∀ p:Int,0<=p->p<=n->(ix (N++[e.2.1]) p).length<=9000000000000:=fun p p0 p1=>by
  by_cases c:p=n
  ·subst c;rw [hMn];omega
  ·rw [hMl p p0 (by omega)]
   have:=h2.nl p (by simpa using p0) (by omega)
   have:400000000 * tsz a<=400000000 * 12001:=Nat.mul_le_mul_left _ hz;omega
 have hnow:∀ q:Int,0<=q->q<=n->(ix ((List.replicate (((n+1:Nat):Int)).toNat (false:Bool)).set (((n+1:Nat):Int) - (1:Int)).toNat true) q=true↔Pt L (N++[e.2.1]) n (w.take 0) q):=fun q q0 q1=>by
  rw [List.take_zero];show _↔(n:Int)=q;have e1:(((n+1:Nat):Int) - 1)=(n:Int):=by omega
  rw [e1];by_cases c:q=n
  ·subst c;rw [zce (by omega) (by rw [List.length_replicate];omega)];simp
  ·rw [zcJ (by omega) q0 (by omega),zcI q0 (by omega)]
   constructor
   ·intro h;cases h
   ·intro h;omega
 obtain ⟨b,g1,g2⟩:=zs9 (w:=w) hn (M:=N++[e.2.1]) (by simp [hll]) (by omega) (by omega) hb hrow h3 _ 0 _ rfl (by omega) (by simp) hnow
 refine ⟨b,?_,g2.trans ?_⟩
 ·unfold zcT;refine za5 hp ?_
  rw [if_neg (by simp)]
  refine za5 zjw ?_
  rw [if_neg (by simp [hm])]
  refine za5 h1 ?_
  dsimp only;rw [h3];refine G_to (by unfold mkOK;omega) (G_to (by unfold fits;omega) (G_to (by simp;omega) (G_to (by simp) ?_)))
  exact g1
 ·rw [h2.lg w]
  cases w with
  | nil=>
   constructor
   ·rintro ⟨k,k0,k1,h,h6⟩;have h:(n:Int)=k:=h;subst h;exact .inl ⟨rfl,by rw [<- h5];exact h6⟩
   ·rintro (⟨_,h⟩ | ⟨a,w',h,_⟩)
    ·exact ⟨n,by omega,by omega,rfl,by rw [h5];exact h⟩
    ·cases h
  | cons x w=>
   have hpt:∀ k:Int,Pt L (N++[e.2.1]) n (x::w) k↔∃ p∈e.2.1,ix L p=x/\Pt L N p w k:=fun k=>by
    show (∃ r∈ix (N++[e.2.1]) n,_)↔_;rw [hMn];refine exists_congr fun r=>and_congr_right fun hr=>and_congr_right fun _ => ?_
    exact Pt.cong (n0:=0) (n1:=n) (fun p p0 p1=>hnb p p0 p1) hMl (fun _ _ _=>rfl) (hfb r hr)
   constructor
   ·rintro ⟨k,k0,k1,h,h6⟩;obtain ⟨p,hp,h7,h8⟩:=(hpt k).1 h;have hk:=Pt.rng (n0:=0) (n1:=n) (fun p p0 p1=>hnb p p0 p1) (hfb p hp) h8
    exact .inr ⟨x,w,rfl,p,hp,h7,k,(h4 k k0 hk.2).1 h6,h8⟩
   ·rintro (⟨h,_⟩ | ⟨a,w',h,p,hp,h7,q,hq,h8⟩)
    ·cases h
    ·injection h with h9 h10
     subst h9 h10;have hq2:=hlb q hq;exact ⟨q,hq2.1,by omega,(hpt q).2 ⟨p,hp,h7,h8⟩,(h4 q hq2.1 hq2.2).2 hq⟩
theorem zp7 {l:L5} {a:Tr ND} {w:List Int} (hl:l.length<=12001) (hz:tsz a<=12001) (hs:Stn l a (l.length - 1)) (hw:w.length<=60):∃ b,zpx l w=some b/\(b=true↔Lg a w):=by
 have hf:((List.replicate ((w.length:Int)+(1:Int)).toNat (false:Bool)).set ((0:Int)).toNat true).length=w.length+1:=by rw [List.length_set,List.length_replicate];omega
 obtain ⟨out,h1,h2,h3⟩:=zqL (w:=w) (l:=l) (by omega) (by omega) (tsz a) a (l.length - 1) _ (by omega) (Nat.le_refl _) hs hf
 refine ⟨ix out (w.length:Int),?_,?_⟩
 ·unfold zpx;refine G_to (by unfold fits;omega) (G_to (by unfold mkOK;omega) (G_to (by rw [List.length_replicate];omega) (G_to (by rw [List.length_replicate];omega) (G_to (by unfold fits;omega) (za5 h1 (G_to (by omega) (G_to (by omega) rfl)))))))
 ·rw [h3 w.length (Nat.le_refl _)];have h0:∀ i:Nat,i<=w.length->(ix ((List.replicate ((w.length:Int)+(1:Int)).toNat (false:Bool)).set ((0:Int)).toNat true) (i:Int)=true↔i=0):=fun i hi=>by
   by_cases c:i=0
   ·subst c;rw [show ((0:Nat):Int)=0 from rfl,zce (by omega) (by rw [List.length_replicate];omega)];simp
   ·rw [zcJ (by omega) (by omega) (by omega),zcI (by omega) (by omega)];simp [c]
  have e0:sub w 0 w.length=w:=by unfold sub;simp
  constructor
  ·rintro ⟨i,hi,h4,h5⟩;rw [h0 i hi] at h4;subst h4;rw [e0] at h5;exact h5
  ·intro h;exact ⟨0,by omega,(h0 0 (by omega)).2 rfl,by rw [e0];exact h⟩
theorem law_true (text:List UInt8) (w:List Int):zc8 text w=some true:=by
 rcases zp5 text with ⟨a,l,h1,h2,h3,h4,h5,h6⟩ | ⟨cd,pl,h1,h2,h3⟩
 ·have hl:l.length<=12001:=by omega
  by_cases hm:mayE 4 w=0
  ·have hw:w.length<=60:=by
    by_cases c:w.length<=60
    ·exact c
    ·rw [zlm (by omega) (by omega)] at hm;cases hm
   obtain ⟨b,g1,g2⟩:=zoQ h1 (by omega) h4 hm hw
   obtain ⟨b',g3,g4⟩:=zp7 hl (by omega) h4 hw
   obtain rfl:b=b':=by rw [Bool.eq_iff_iff,g2,g4]
   unfold zc8;refine za5 g1 (za5 h2 ?_)
   rw [if_neg (by simp)]
   refine za5 zlu ?_
   rw [if_neg (by simp [hm])]
   refine za5 g3 ?_
   simp
  ·have g1:zcT text w=some (false,mayE 4 w):=by
    unfold zcT;refine za5 h1 ?_
    rw [if_neg (by simp)]
    refine za5 zjw ?_
    rw [if_pos (by simpa using hm)]
   unfold zc8;refine za5 g1 (za5 h2 ?_)
   rw [if_neg (by simp)]
   refine za5 zlu ?_
   rw [if_pos (by simpa using hm)]
   simp
 ·have g1:zcT text w=some (false,4):=by
   unfold zcT;refine za5 h1 ?_
   rw [if_pos (by simpa using h3)]
  unfold zc8;refine za5 g1 (za5 h2 ?_)
  rw [if_pos (by simpa using h3)]
  simp
end Go.Proofs.Ytdobgbjlgcnehaa.regularHasW
