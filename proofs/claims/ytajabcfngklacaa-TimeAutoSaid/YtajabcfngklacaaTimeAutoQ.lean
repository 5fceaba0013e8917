import Derived.Test.YtajabcfngklacaaTimeAutoP
set_option maxHeartbeats 1000000
set_option maxRecDepth 20000
set_option linter.unusedSimpArgs false
set_option linter.unusedVariables false
set_option linter.unusedSectionVars false
namespace Go.Proofs.Ytajabcfngklacaa.timeAutoW
open Go Go.Ab
noncomputable section
theorem zzL {s:List Stp} (Q:s.length<=1000000000) (p:∀ x y,ltS x y=false->ltS y x=false->x=y) (C:s.Pairwise (fun x y=>ltS y x=false)) {k:Nat} (R:0 < k) (D:k < s.length):
  ∀ (n a b:Nat) (d:List Stp),s.length - k - a=n->1<=a->k+a<=s.length->0 < b->b+1<=k+a->d.length=s.length->(∀ i:Nat,b<=i->d[i]? =s[i]?)->
   (∀ x,x∈d.take b↔x∈s.take (k+a))->(d.take b).Pairwise (fun x y=>ltS x y=true)->
   ∃ r,zfU s (k:Nat) (b:Nat) (a:Nat) d=some r/\(∀ x,x∈r↔x∈s)/\r.Pairwise (fun x y=>ltS x y=true)/\r.length<=s.length:=by
 intro n;induction n with
 | zero=>
  intro a b d H I J t L u f g j;rw [ziX];unfold zb9;simp only [Int.toNat_natCast];rw [if_neg (by simp only [decide_eq_true_eq];omega),zae (by omega),zae (by omega),zae (by simp;omega)];refine ⟨_,rfl,?_,?_,by simp;omega⟩
  ·intro x;rw [List.append_assoc,List.take_append_of_le_length (by simp;omega),List.take_take,Nat.min_self,g,show k+a=s.length by omega,List.take_length]
  ·rw [List.append_assoc,List.take_append_of_le_length (by simp;omega),List.take_take,Nat.min_self];exact j
 | succ n B=>
  intro a b d H I J t L u f g j;have l:k+a < s.length:=by omega
  rw [ziX];unfold zb9;rw [show (a:Int) - 1=((a - 1:Nat):Int) by omega];rw [if_pos (by simp only [decide_eq_true_eq];omega),zae (by omega),zae (by omega),zae (by unfold fits;omega),zae (by omega),zae (by omega)];have m:ix d (((k:Int).toNat+(a:Int).toNat:Nat):Int)=s[k+a]:=by
   rw [Int.toNat_natCast,Int.toNat_natCast,zy8,List.getD_eq_getElem?_getD,f (k+a) (by omega),List.getElem?_eq_getElem l];rfl
  have v:ix d (((k:Int).toNat+((a - 1:Nat):Int).toNat:Nat):Int)=s[k+(a - 1)]'(by omega):=by
   rw [Int.toNat_natCast,Int.toNat_natCast,zy8,List.getD_eq_getElem?_getD,f (k+(a - 1)) (by omega),List.getElem?_eq_getElem (by omega)];rfl
  have w:s.take (k+(a+1))=s.take (k+a)++[s[k+a]]:=by
   rw [<- Nat.add_assoc,List.take_add_one,List.getElem?_eq_getElem l];rfl
  have M:s[k+(a - 1)]'(by omega)∈s.take (k+a):=by
   rw [List.mem_take_iff_getElem];exact ⟨k+(a - 1),by omega,rfl⟩
  by_cases c:s[k+a]=s[k+(a - 1)]'(by omega)
  ·rw [if_neg (zDp (m.trans (c.trans v.symm))),zae (by unfold fits;omega)];exact B (a+1) b d (by omega) (by omega) (by omega) t (by omega) u f (fun x=>by
    rw [g,w,List.mem_append,List.mem_singleton];refine ⟨.inl,fun h=>h.elim id fun h => ?_⟩;rw [h,c];exact M) j
  ·rw [if_pos (zDq (fun h=>c (m.symm.trans (h.trans v)))),zae (by omega),zae (by omega),zae (by omega),zae (by omega),zae (by unfold fits;omega),zae (by unfold fits;omega),m,Int.toNat_natCast b];have e:(d.set b s[k+a]).take (b+1)=d.take b++[s[k+a]]:=by
    rw [List.take_add_one,List.take_set_of_le (Nat.le_refl _),List.getElem?_set_self (by omega)];rfl
   refine B (a+1) (b+1) (d.set b s[k+a]) (by omega) (by omega) (by omega) (by omega) (by omega) (by simp;omega) (fun i E=>by
    rw [List.getElem?_set_ne (by omega)];exact f i (by omega)) (fun x=>by
    rw [e,w,List.mem_append,List.mem_append,g]) ?_
   rw [e,List.pairwise_append];refine ⟨j,List.pairwise_singleton _ _,fun x q y F => ?_⟩;rw [List.mem_singleton.1 F];rw [g,List.mem_take_iff_getElem] at q;obtain ⟨i,E,rfl⟩:=q;have o:=List.pairwise_iff_getElem.1 C;cases O:ltS s[i] s[k+a] with
   | true=>rfl
   | false=>
    exfalso;have z:=p _ _ O (o i (k+a) (by omega) l (by omega));apply c;by_cases P:i=k+(a - 1)
    ·subst P;exact z.symm
    ·have A:=o i (k+(a - 1)) (by omega) (by omega) (by omega);have N:=o (k+(a - 1)) (k+a) (by omega) l (by omega);rw [z] at A;exact p _ _ N A
theorem zAB {s:List Stp} (B:s.length<=1000000000) (M:∀ x,ltS x x=false) (l:∀ x y,ltS x y=false->ltS y x=false->x=y) (q:s.Pairwise (fun x y=>ltS y x=false)):
  ∃ r,zf5 s=some r/\(∀ x,x∈r↔x∈s)/\r.Pairwise (fun x y=>ltS x y=true)/\r.length<=s.length:=by
 have o:=List.pairwise_iff_getElem.1 q;have str:∀ k:Nat,k<=s.length->(∀ i:Nat,0 < i->i < k->∀ h:i < s.length,¬ s[i]=s[i - 1]'(by omega))->(s.take k).Pairwise (fun x y=>ltS x y=true):=fun k N h=>by
  rw [List.pairwise_iff_getElem];intro i j C D m;simp only [List.length_take] at C D;rw [List.getElem_take,List.getElem_take];cases I:ltS (s[i]'(by omega)) (s[j]'(by omega)) with
  | true=>rfl
  | false=>
   exfalso;have v:=l _ _ I (o i j (by omega) (by omega) m);apply h j (by omega) (by omega) (by omega);by_cases J:i=j - 1
   ·subst J;exact v.symm
   ·have w:=o i (j - 1) (by omega) (by omega) (by omega);have F:=o (j - 1) j (by omega) (by omega) (by omega);rw [v] at w;exact l _ _ F w
 unfold zf5;by_cases c:s.length < 2
 ·rw [if_pos (by simp only [decide_eq_true_eq];omega)];have:=str s.length (Nat.le_refl _) (fun i t u h=>by omega);rw [List.take_length] at this;exact ⟨s,rfl,fun _=>Iff.rfl,this,Nat.le_refl _⟩
 ·rw [if_neg (by simp only [decide_eq_true_eq];omega)];have p:∀ (n k:Nat),s.length - k=n->1<=k->k<=s.length->(∀ i:Nat,0 < i->i < k->∀ h:i < s.length,¬ s[i]=s[i - 1]'(by omega))->∃ r,zfT s (k:Nat)=some r/\(∀ x,x∈r↔x∈s)/\r.Pairwise (fun x y=>ltS x y=true)/\r.length<=s.length:=by
   intro n;induction n with
   | zero=>
    intro k E t u f;rw [ziW];unfold zb8;rw [if_neg (by simp only [decide_eq_true_eq];omega)];have:=str s.length (Nat.le_refl _) (fun i a b h=>f i a (by omega) h);rw [List.take_length] at this;exact ⟨s,rfl,fun _=>Iff.rfl,this,Nat.le_refl _⟩
   | succ n L=>
    intro k E t u f;have d:k < s.length:=by omega
    rw [ziW];unfold zb8;rw [show (k:Int) - 1=((k - 1:Nat):Int) by omega];simp only [Int.toNat_natCast];rw [if_pos (by simp only [decide_eq_true_eq];omega),zae (by omega),zae (by omega),zae (by unfold fits;omega),zae (by omega),zae (by omega)];have z:ix s (k:Int)=s[k]:=by rw [zoo (by omega) (by omega)];simp
    have A:ix s ((k - 1:Nat):Int)=s[k - 1]'(by omega):=by rw [zoo (by omega) (by omega)];simp
    by_cases g:s[k]=s[k - 1]'(by omega)
    ·rw [if_pos (zB9 (z.trans (g.trans A.symm))),zae (by omega)];have H:s[k - 1]'(by omega)∈s.take k:=by
      rw [List.mem_take_iff_getElem];exact ⟨k - 1,by omega,rfl⟩
     have:=zzL B l q (by omega:0 < k) d (s.length - k - 1) 1 k s rfl (Nat.le_refl _) (by omega) (by omega) (Nat.le_refl _) rfl (fun _ _=>rfl) (fun x=>by
      rw [show s.take (k+1)=s.take k++[s[k]] by rw [List.take_add_one,List.getElem?_eq_getElem d];rfl,List.mem_append,List.mem_singleton];refine ⟨.inl,fun h=>h.elim id fun h => ?_⟩;rw [h,g];exact H) (str k (by omega) f)
     exact this
    ·rw [if_neg (zB8 (fun h=>g (z.symm.trans (h.trans A)))),zae (by unfold fits;omega)];exact L (k+1) (by omega) (by omega) (by omega) (fun i a b h=>by
      by_cases e:i=k
      ·subst e;exact g
      ·exact f i a (by omega) h)
  exact p _ 1 rfl (Nat.le_refl _) (by omega) (fun i a b h=>by omega)
theorem zBR (x:Stp):x=(x.1,x.2.1,x.2.2.1,()):=rfl
theorem zFh {l:List Int} (d:l.length<=1000000000) (c:l.Pairwise (· < ·)):∃ l1 r,zjc l=some l1/\zgj l1=some r/\(∀ x,x∈r↔x∈l)/\r.Pairwise (· < ·)/\r.length<=l.length:=by
 obtain ⟨r,e,f,g,i⟩:=zDo (s:=l) (by omega) swoI.irrefl (fun x y a b=>by unfold Go.Sort.ltInt at a b;simp at a b;omega) (c.imp fun h=>by unfold Go.Sort.ltInt;simp;omega);exact ⟨l,r,zEy (up_of d c),e,f,g.imp fun h=>by unfold Go.Sort.ltInt at h;simpa using h,by omega⟩
theorem sortS {l:List Stp} (f:l.length<=1000000000):∃ l1 r,ziB l=some l1/\zf5 l1=some r/\(∀ x,x∈r↔x∈l)/\r.Pairwise zjr/\r.length<=l.length:=by
 obtain ⟨v,e,b⟩:=ztu (x:=(l.length:Int)) (by omega) (by omega);obtain ⟨l1,j,c,d⟩:=zwy swoS l f b;have g:=c.length_eq;obtain ⟨r,k,m,n,o⟩:=zAB (s:=l1) (by omega) swoS.irrefl (fun x y a b=>by
  rw [zBk] at a b;unfold zjr at a b;rw [zBR x,zBR y];have c:x.1=y.1:=by omega
  have d:x.2.1=y.2.1:=by omega
  have i:x.2.2.1=y.2.2.1:=by omega
  rw [c,d,i]) d
 refine ⟨l1,r,?_,k,fun x=>(m x).trans c.mem_iff,n.imp fun h=>zyi.1 h,by omega⟩;unfold ziB;rw [zr2 (by omega) (by omega),e];show (zam 0 _ v l).bind _=_;rw [j];rfl
theorem zBM {l:List Int} (h:l.Pairwise (· < ·)) : ¬ zzz l:=fun ⟨i,i0,i1,hh⟩=>by
 have:=List.pairwise_iff_getElem.1 h (i - 1).toNat i.toNat (by omega) (by omega) (by omega);rw [zoo (by omega) i1,zoo (by omega) (by omega)] at hh;omega
theorem zCI {l:List Stp} (h:l.Pairwise zjr) : ¬ zEB l:=fun ⟨i,i0,i1,hh⟩=>by
 have:=List.pairwise_iff_getElem.1 h (i - 1).toNat i.toNat (by omega) (by omega) (by omega);rw [zoo (by omega) i1,zoo (by omega) (by omega)] at hh;exact hh this
theorem zDj {a:Au} (l1:1<=a.1/\a.1<=4) (g:1<=a.2.1/\a.2.1<=300) (sl:a.2.2.2.1.length<=40000) (hs:∀ q∈a.2.2.1,0<=q/\q < a.2.1) (b:∀ q∈a.2.2.2.2.1,0<=q/\q < a.2.1)
  (c:∀ x∈a.2.2.2.1,(0<=x.1/\x.1 < a.2.1)/\(0<=x.2.1/\x.2.1 < a.1)/\(0<=x.2.2.1/\x.2.2.1 < a.2.1)) (d:a.2.2.1.Pairwise (· < ·)) (e:a.2.2.2.2.1.Pairwise (· < ·)) (f:a.2.2.2.1.Pairwise zjr):autE a=0:=by
 unfold autE;rw [if_neg (by omega),if_neg (by unfold zxH;omega),if_neg,if_neg]
 ·rintro (h | h | h)
  ·exact zBM d h
  ·exact zBM e h
  ·exact zCI f h
 ·rintro (⟨q,hq,h⟩ | ⟨q,hq,h⟩ | ⟨x,hq,h⟩)
  ·have:=hs q hq;unfold noS at h;omega
  ·have:=b q hq;unfold noS at h;omega
  ·have:=c x hq;unfold badX noS at h;omega
structure Srt (o:Au) (c c1:Int) (l:List Int) (l1:List Stp) (l2:List Int):Prop where
 c:o.1=c
 c1:o.2.1=c1
 m:∀ x,x∈o.2.2.1↔x∈l
 m1:∀ x,x∈o.2.2.2.1↔x∈l1
 m2:∀ x,x∈o.2.2.2.2.1↔x∈l2
 p:o.2.2.1.Pairwise (· < ·)
 p1:o.2.2.2.1.Pairwise zjr
 p2:o.2.2.2.2.1.Pairwise (· < ·)
 n1:o.2.2.2.1.length<=l1.length
theorem zyJ {c c1:Int} {l:List Int} {l1:List Stp} {l2:List Int} (h:l.length<=1000000000) (j:l1.length<=1000000000) (k:l2.length<=1000000000) (m:l.Pairwise (· < ·)) (d:l2.Pairwise (· < ·)):∃ o,zhZ c c1 l l1 l2=some o/\Srt o c c1 l l1 l2:=by
 obtain ⟨a,r,n,p,s,t,_⟩:=zFh h m;obtain ⟨A,u,e,f,g,i,_⟩:=zFh k d;obtain ⟨b,q,v,w,x,y,z⟩:=sortS j;refine ⟨(c,c1,r,q,u,()),?_,rfl,rfl,s,x,g,t,y,i,z⟩;unfold zhZ zn8;simp only [n,e,v,p,f,w,Option.bind_some]
theorem Srt.autE {o:Au} {c c1:Int} {l:List Int} {l1:List Stp} {l2:List Int} (h:Srt o c c1 l l1 l2) (lt:1<=c/\c<=4) (g:1<=c1/\c1<=300) (sl:l1.length<=40000) (hs:∀ q∈l,0<=q/\q < c1) (d:∀ q∈l2,0<=q/\q < c1)
  (e:∀ x∈l1,(0<=x.1/\x.1 < c1)/\(0<=x.2.1/\x.2.1 < c)/\(0<=x.2.2.1/\x.2.2.1 < c1)):autE o=0:=by
 have f:=h.c;have a:=h.c1;have:=h.n1;refine zDj (by omega) (by omega) (by omega) (fun q b => ?_) (fun q b => ?_) (fun x b => ?_) h.p h.p2 h.p1
 ·rw [a];exact hs q ((h.m q).1 b)
 ·rw [a];exact d q ((h.m2 q).1 b)
 ·rw [f,a];exact e x ((h.m1 x).1 b)
abbrev L3:=List (Int×Int×Int×Unit)
def tm (b:Int):Bool:=decide (b=88\/b=70\/b=71\/b=85\/b=82)
def tt (t b:Int):Int:=if tm b=true then t+1 else t
def bad (n t b:Int):Bool:=decide (30 < n+1) || (tm b && decide (5 < t+1))
def nowT (c:List UInt8) (i:Int):Int:=if i < c.length then bAt c i else 0
theorem zBu (b:Int):znv b=some (tm b):=by
 unfold znv tm;by_cases a:b=88
 ·simp [a]
 ·by_cases c:b=70
  ·simp [c]
  ·by_cases d:b=71
   ·simp [d]
   ·by_cases e:b=85
    ·simp [e]
    ·simp [a,c,d,e]
section
variable {c:List UInt8} {i n t s:Int} {l:L3}
theorem zp9 (b:0<=i) (d:i<=c.length):zcQ (c,(i,(n,(t,(s,(l,()))))))=some (nowT c i):=by
 unfold zcQ nowT;by_cases h:i=(c.length:Int)
 ·simp [h]
 ·have a:i < c.length:=by omega
  simp only [h,decide_false,Bool.false_eq_true,if_false,if_pos a];exact zae ⟨b,a⟩
theorem znp {f a:Int} (d:0<=i):zeI (c,(i,(n,(t,(s,(l,((f,(a,())),())))))))=some (nowT c i):=by
 unfold zeI nowT;by_cases h:(c.length:Int)<=i
 ·have : ¬ i < (c.length:Int):=by omega
  simp [h,this]
 ·have b:i < c.length:=by omega
  simp only [h,decide_false,Bool.false_eq_true,if_false,if_pos b];exact zae ⟨d,b⟩
theorem r_ok {f a:Int}:zh2 (c,(i,(n,(t,(s,(l,((f,(a,())),())))))))=some (decide (f=0)):=rfl
theorem zsC {f a k:Int}:zeh k c i n t s f a l=if f=0 then some (c,i,n,t,s,l,k,i) else some (c,i,n,t,s,l,f,a):=by
 unfold zeh;by_cases h:f=0<;>simp [h]
theorem zvq {k:Int}:zdT (c,(i,(n,(t,(s,(l,())))))) k=some (.inr (k,i)):=rfl
theorem zf1 (e:0<=i) (j:i < c.length) (k:c.length<=4000) (m:0<=n/\n<=30) (o:0<=t/\t<=5):
  zaG c i n t s l=if bad n t (nowT c i)=true then some (.inr (7,i)) else some (.inl (c,i+1,n+1,tt t (nowT c i),s,l)):=by
 have f:fits (n+1):=za4 (by omega) (by omega);have g:fits (t+1):=za4 (by omega) (by omega);have b:fits (i+1):=za4 (by omega) (by omega);unfold zaG;rw [zae f,zp9 e (by omega)];simp only [Option.bind_some,zBu];unfold tt bad zgq zeB;cases h:tm (nowT c i) with
 | true=>
  simp only [if_true,zae g,zvq,zbh,zae b,Bool.true_and];by_cases a:(30:Int) < n+1
  ·simp [a]
  ·by_cases d:(5:Int) < t+1
   ·simp [a,d]
   ·simp [a,d]
 | false=>
  simp only [Bool.false_eq_true,if_false,zvq,zbh,zae b,Bool.false_and,Bool.or_false];by_cases a:(30:Int) < n+1
  ·simp [a]
  ·simp [a]
theorem zf4 (o:0<=i) (g:i < c.length) (p:c.length<=4000) (q:0<=n/\n<=30) (r:0<=t/\t<=5) {b:Int}:
  zaH b c i n t s 0 0 l=if bad n t b=true then some (c,i+1,n+1,tt t b,s,l,7,i) else some (c,i+1,n+1,tt t b,s,l,0,0):=by
 have j:fits (n+1):=za4 (by omega) (by omega);have k:fits (t+1):=za4 (by omega) (by omega);have d:fits (i+1):=za4 (by omega) (by omega);have e:zaH b c i n t s 0 0 l=zcg c i n t s 0 0 l (tm b):=by
  unfold zaH tm;by_cases g:b=88
  ·simp [g]
  ·by_cases a:b=70
   ·simp [a]
   ·by_cases f:b=71
    ·simp [f]
    ·by_cases h:b=85
     ·simp [h]
     ·simp [g,a,f,h]
 rw [e];unfold zcg;rw [zae j];unfold tt bad zhi zfj;cases m:tm b with
 | true=>
  simp only [if_true,zae k,zsC,Option.bind_some,zae d,Bool.true_and];by_cases a:(30:Int) < n+1
  ·simp [a,zae d]
  ·by_cases f:(5:Int) < t+1
   ·simp [a,f,zae d]
   ·simp [a,f,zae d]
 | false=>
  simp only [Bool.false_eq_true,if_false,zsC,if_true,Option.bind_some,zae d,Bool.false_and,Bool.or_false]
theorem zsP (h:l.length<=1000) {k a b:Int}:zbq (k,(a,(b,()))) c i n t s l=some ((l.length:Int),c,i,n,t,s,l++[(k,a,b,())]):=by
 unfold zbq;have e:(((l++[(k,(a,(b,())))]).length:Int) - 1)=(l.length:Int):=by simp
 rw [zae (znq (by simp;omega))];simp only [e];rw [zae (za4 (by omega) (by omega))]
theorem zhw (h:l.length<=1000) {k a b f d:Int}:zbH k a b c i n t s f d l=some ((l.length:Int),c,i,n,t,s,l++[(k,a,b,())],f,d):=by
 unfold zbH;have e:(((l++[(k,(a,(b,())))]).length:Int) - 1)=(l.length:Int):=by simp
 rw [zae (znq (by simp;omega))];simp only [e];rw [zae (za4 (by omega) (by omega))]
theorem p_no (h:l.length<=1000) {a:Int}:zcE a c i n t s l=some ((l.length:Int),c,i,n,t,s,l++[(3,a,0,())]):=by
 unfold zcE;rw [zsP h];rfl
theorem zwv (h:l.length<=900):∃ a,zdK c i n t s l=some ((l.length:Int)+1,c,i,n,t,s,a)/\a.length=l.length+2/\a=(l++[(0,0,0,())])++[(3,(l.length:Int),0,())]:=by
 unfold zdK;rw [zsP (by omega)];simp only [Option.bind_some];rw [p_no (by simp;omega)];refine ⟨_,by simp;rfl,by simp,by simp⟩
end
section
variable {c:List UInt8} {i n t s cd pl:Int} {l:L3}
theorem zAZ (F:List UInt8->Int->Int->Int->Int->Int->Int->L3->Option (Int×List UInt8×Int×Int×Int×Int×L3×Int×Int)) (h:cd≠0):za5 F c i n t s cd pl l=some (0,c,i,n,t,s,l,cd,pl):=by
 rw [zbQ];unfold za9;rw [r_ok];simp [h]
theorem zyZ (F:List UInt8->Int->Int->Int->Int->Int->Int->L3->Option (Int×List UInt8×Int×Int×Int×Int×L3×Int×Int)) (h:cd≠0) (a:0<=i):zdt F c i n t s cd pl l=some (0,c,i,n,t,s,l,cd,pl):=by
 rw [zmM];unfold zdS;rw [zAZ F h];simp only [Option.bind_some];rw [znp a,r_ok];simp [h]
theorem zv8 (F:List UInt8->Int->Int->Int->Int->Int->Int->L3->Option (Int×List UInt8×Int×Int×Int×Int×L3×Int×Int)) (h:cd≠0) (b:0<=i) (a:Int):zcv F a c i n t s cd pl l=some (a,c,i,n,t,s,l,cd,pl):=by
 rw [zj4];unfold zcq;rw [znp b];simp only [Option.bind_some];rw [r_ok];simp [h]
theorem zEV (F:List UInt8->Int->Int->Int->Int->Int->Int->L3->Option (Int×List UInt8×Int×Int×Int×Int×L3×Int×Int)) (h:cd≠0) (a:0<=i):zcD F c i n t s cd pl l=some (0,c,i,n,t,s,l,cd,pl):=by
 unfold zcD;rw [zyZ F h a];simp only [Option.bind_some];exact zv8 F h a 0
theorem zyb (F:List UInt8->Int->Int->Int->Int->Int->Int->L3->Option (Int×List UInt8×Int×Int×Int×Int×L3×Int×Int)) (h:cd≠0) (b:0<=i) (a:Int):zbW F a c i n t s cd pl l=some (a,c,i,n,t,s,l,cd,pl):=by
 rw [zix];unfold zbY;rw [znp b];simp only [Option.bind_some];rw [r_ok];simp [h]
end
abbrev N3:=Int×Int×Int×Unit
inductive Fm where
 | zero | one | p | q
 | neg (a:Fm) | conj (a b:Fm) | disj (a b:Fm) | nx (a:Fm) | fin (a:Fm) | glob (a:Fm) | til (a b:Fm) | rel (a b:Fm)
def dz:Fm->Fm
 | .zero => .zero
 | .one => .neg .zero
 | .p => .p
 | .q => .q
 | .neg a => .neg (dz a)
 | .conj a b => .conj (dz a) (dz b)
 | .disj a b => .disj (dz a) (dz b)
 | .nx a => .nx (dz a)
 | .fin a => .til (.neg .zero) (dz a)
 | .glob a => .neg (.til (.neg .zero) (.neg (dz a)))
 | .til a b => .til (dz a) (dz b)
 | .rel a b => .neg (.til (.neg (dz a)) (.neg (dz b)))
inductive PS (l:L3):Int->Fm->Prop
 | zero (k:Int) (h0:0<=k) (h1:k < l.length) (hk:(ix l k).1=0):PS l k .zero
 | p (k:Int) (h0:0<=k) (h1:k < l.length) (hk:(ix l k).1=1):PS l k .p
 | q (k:Int) (h0:0<=k) (h1:k < l.length) (hk:(ix l k).1=2):PS l k .q
 | neg (k:Int) (a:Fm) (h0:0<=k) (h1:k < l.length) (hk:(ix l k).1=3) (ha:PS l (ix l k).2.1 a):PS l k (.neg a)
 | conj (k:Int) (a b:Fm) (h0:0<=k) (h1:k < l.length) (hk:(ix l k).1=4) (ha:PS l (ix l k).2.1 a) (hb:PS l (ix l k).2.2.1 b):PS l k (.conj a b)
 | disj (k:Int) (a b:Fm) (h0:0<=k) (h1:k < l.length) (hk:(ix l k).1=5) (ha:PS l (ix l k).2.1 a) (hb:PS l (ix l k).2.2.1 b):PS l k (.disj a b)
 | nx (k:Int) (a:Fm) (h0:0<=k) (h1:k < l.length) (hk:(ix l k).1=6) (ha:PS l (ix l k).2.1 a):PS l k (.nx a)
 | til (k:Int) (a b:Fm) (h0:0<=k) (h1:k < l.length) (hk:(ix l k).1=7) (ha:PS l (ix l k).2.1 a) (hb:PS l (ix l k).2.2.1 b):PS l k (.til a b)
inductive RS (l:L3):Int->Fm->Prop
 | zero (k:Int) (h0:0<=k) (h1:k < l.length) (hk:(ix l k).1=48):RS l k .zero
 | one (k:Int) (h0:0<=k) (h1:k < l.length) (hk:(ix l k).1=49):RS l k .one
 | p (k:Int) (h0:0<=k) (h1:k < l.length) (hk:(ix l k).1=112):RS l k .p
 | q (k:Int) (h0:0<=k) (h1:k < l.length) (hk:(ix l k).1=113):RS l k .q
 | neg (k:Int) (a:Fm) (h0:0<=k) (h1:k < l.length) (hk:(ix l k).1=33) (ha:RS l (ix l k).2.1 a):RS l k (.neg a)
 | nx (k:Int) (a:Fm) (h0:0<=k) (h1:k < l.length) (hk:(ix l k).1=88) (ha:RS l (ix l k).2.1 a):RS l k (.nx a)
 | fin (k:Int) (a:Fm) (h0:0<=k) (h1:k < l.length) (hk:(ix l k).1=70) (ha:RS l (ix l k).2.1 a):RS l k (.fin a)
 | glob (k:Int) (a:Fm) (h0:0<=k) (h1:k < l.length) (hk:(ix l k).1=71) (ha:RS l (ix l k).2.1 a):RS l k (.glob a)
 | conj (k:Int) (a b:Fm) (h0:0<=k) (h1:k < l.length) (hk:(ix l k).1=38) (ha:RS l (ix l k).2.1 a) (hb:RS l (ix l k).2.2.1 b):RS l k (.conj a b)
 | disj (k:Int) (a b:Fm) (h0:0<=k) (h1:k < l.length) (hk:(ix l k).1=124) (ha:RS l (ix l k).2.1 a) (hb:RS l (ix l k).2.2.1 b):RS l k (.disj a b)
 | til (k:Int) (a b:Fm) (h0:0<=k) (h1:k < l.length) (hk:(ix l k).1=85) (ha:RS l (ix l k).2.1 a) (hb:RS l (ix l k).2.2.1 b):RS l k (.til a b)
 | rel (k:Int) (a b:Fm) (h0:0<=k) (h1:k < l.length) (hk:(ix l k).1=82) (ha:RS l (ix l k).2.1 a) (hb:RS l (ix l k).2.2.1 b):RS l k (.rel a b)
theorem PS.mono {l:L3} (m:L3) {k:Int} {f:Fm} (h:PS l k f):PS (l++m) k f:=by
 induction h with
 | zero k d j g=>
  have e:ix (l++m) k=ix l k:=zaq d j;rw [<- e] at g;exact .zero k d (by simp;omega) g
 | p k d j g=>
  have e:ix (l++m) k=ix l k:=zaq d j;rw [<- e] at g;exact .p k d (by simp;omega) g
 | q k d j g=>
  have e:ix (l++m) k=ix l k:=zaq d j;rw [<- e] at g;exact .q k d (by simp;omega) g
 | neg k a d j g n c=>
  have e:ix (l++m) k=ix l k:=zaq d j;rw [<- e] at g c;exact .neg k a d (by simp;omega) g c
 | conj k a b d j g n o c i=>
  have e:ix (l++m) k=ix l k:=zaq d j;rw [<- e] at g c i;exact .conj k a b d (by simp;omega) g c i
 | disj k a b d j g n o c i=>
  have e:ix (l++m) k=ix l k:=zaq d j;rw [<- e] at g c i;exact .disj k a b d (by simp;omega) g c i
 | nx k a d j g n c=>
  have e:ix (l++m) k=ix l k:=zaq d j;rw [<- e] at g c;exact .nx k a d (by simp;omega) g c
 | til k a b d j g n o c i=>
  have e:ix (l++m) k=ix l k:=zaq d j;rw [<- e] at g c i;exact .til k a b d (by simp;omega) g c i
theorem RS.mono {l:L3} (m:L3) {k:Int} {f:Fm} (h:RS l k f):RS (l++m) k f:=by
 induction h with
 | zero k d i g=>
  have e:ix (l++m) k=ix l k:=zaq d i;rw [<- e] at g;exact .zero k d (by simp;omega) g
 | one k d i g=>
  have e:ix (l++m) k=ix l k:=zaq d i;rw [<- e] at g;exact .one k d (by simp;omega) g
 | p k d i g=>
  have e:ix (l++m) k=ix l k:=zaq d i;rw [<- e] at g;exact .p k d (by simp;omega) g
 | q k d i g=>
  have e:ix (l++m) k=ix l k:=zaq d i;rw [<- e] at g;exact .q k d (by simp;omega) g
 | neg k a d i g n c=>
  have e:ix (l++m) k=ix l k:=zaq d i;rw [<- e] at g c;exact .neg k a d (by simp;omega) g c
 | nx k a d i g n c=>
  have e:ix (l++m) k=ix l k:=zaq d i;rw [<- e] at g c;exact .nx k a d (by simp;omega) g c
 | fin k a d i g n c=>
  have e:ix (l++m) k=ix l k:=zaq d i;rw [<- e] at g c;exact .fin k a d (by simp;omega) g c
 | glob k a d i g n c=>
  have e:ix (l++m) k=ix l k:=zaq d i;rw [<- e] at g c;exact .glob k a d (by simp;omega) g c
 | conj k a b d i g n o c j=>
  have e:ix (l++m) k=ix l k:=zaq d i;rw [<- e] at g c j;exact .conj k a b d (by simp;omega) g c j
 | disj k a b d i g n o c j=>
  have e:ix (l++m) k=ix l k:=zaq d i;rw [<- e] at g c j;exact .disj k a b d (by simp;omega) g c j
 | til k a b d i g n o c j=>
  have e:ix (l++m) k=ix l k:=zaq d i;rw [<- e] at g c j;exact .til k a b d (by simp;omega) g c j
 | rel k a b d i g n o c j=>
  have e:ix (l++m) k=ix l k:=zaq d i;rw [<- e] at g c j;exact .rel k a b d (by simp;omega) g c j
theorem PS.put_zero {l:L3} {A B:Int}:PS (l++[(0,A,B,())]) l.length .zero:=by
 have e:ix (l++[((0:Int),A,B,())]) (l.length:Int)=(0,A,B,()):=zas;exact .zero _ (by omega) (by simp;omega) (by rw [e])
theorem PS.put_p {l:L3} {A B:Int}:PS (l++[(1,A,B,())]) l.length .p:=by
 have e:ix (l++[((1:Int),A,B,())]) (l.length:Int)=(1,A,B,()):=zas;exact .p _ (by omega) (by simp;omega) (by rw [e])
theorem PS.put_q {l:L3} {A B:Int}:PS (l++[(2,A,B,())]) l.length .q:=by
 have e:ix (l++[((2:Int),A,B,())]) (l.length:Int)=(2,A,B,()):=zas;exact .q _ (by omega) (by simp;omega) (by rw [e])
theorem PS.put_neg {l:L3} {A B:Int} {a:Fm} (b:PS l A a):PS (l++[(3,A,B,())]) l.length (.neg a):=by
 have e:ix (l++[((3:Int),A,B,())]) (l.length:Int)=(3,A,B,()):=zas;exact .neg _ a (by omega) (by simp;omega) (by rw [e]) (by rw [e];exact b.mono _)
theorem PS.put_conj {l:L3} {A B:Int} {a b:Fm} (c:PS l A a) (d:PS l B b):PS (l++[(4,A,B,())]) l.length (.conj a b):=by
 have e:ix (l++[((4:Int),A,B,())]) (l.length:Int)=(4,A,B,()):=zas;exact .conj _ a b (by omega) (by simp;omega) (by rw [e]) (by rw [e];exact c.mono _) (by rw [e];exact d.mono _)
theorem PS.put_disj {l:L3} {A B:Int} {a b:Fm} (c:PS l A a) (d:PS l B b):PS (l++[(5,A,B,())]) l.length (.disj a b):=by
 have e:ix (l++[((5:Int),A,B,())]) (l.length:Int)=(5,A,B,()):=zas;exact .disj _ a b (by omega) (by simp;omega) (by rw [e]) (by rw [e];exact c.mono _) (by rw [e];exact d.mono _)
theorem PS.put_nx {l:L3} {A B:Int} {a:Fm} (b:PS l A a):PS (l++[(6,A,B,())]) l.length (.nx a):=by
 have e:ix (l++[((6:Int),A,B,())]) (l.length:Int)=(6,A,B,()):=zas;exact .nx _ a (by omega) (by simp;omega) (by rw [e]) (by rw [e];exact b.mono _)
theorem PS.put_til {l:L3} {A B:Int} {a b:Fm} (c:PS l A a) (d:PS l B b):PS (l++[(7,A,B,())]) l.length (.til a b):=by
 have e:ix (l++[((7:Int),A,B,())]) (l.length:Int)=(7,A,B,()):=zas;exact .til _ a b (by omega) (by simp;omega) (by rw [e]) (by rw [e];exact c.mono _) (by rw [e];exact d.mono _)
theorem RS.put_zero {l:L3} {A B:Int}:RS (l++[(48,A,B,())]) l.length .zero:=by
 have e:ix (l++[((48:Int),A,B,())]) (l.length:Int)=(48,A,B,()):=zas;exact .zero _ (by omega) (by simp;omega) (by rw [e])
theorem RS.put_one {l:L3} {A B:Int}:RS (l++[(49,A,B,())]) l.length .one:=by
 have e:ix (l++[((49:Int),A,B,())]) (l.length:Int)=(49,A,B,()):=zas;exact .one _ (by omega) (by simp;omega) (by rw [e])
theorem RS.put_p {l:L3} {A B:Int}:RS (l++[(112,A,B,())]) l.length .p:=by
 have e:ix (l++[((112:Int),A,B,())]) (l.length:Int)=(112,A,B,()):=zas;exact .p _ (by omega) (by simp;omega) (by rw [e])
theorem RS.put_q {l:L3} {A B:Int}:RS (l++[(113,A,B,())]) l.length .q:=by
 have e:ix (l++[((113:Int),A,B,())]) (l.length:Int)=(113,A,B,()):=zas;exact .q _ (by omega) (by simp;omega) (by rw [e])
theorem RS.put_neg {l:L3} {A B:Int} {a:Fm} (b:RS l A a):RS (l++[(33,A,B,())]) l.length (.neg a):=by
 have e:ix (l++[((33:Int),A,B,())]) (l.length:Int)=(33,A,B,()):=zas;exact .neg _ a (by omega) (by simp;omega) (by rw [e]) (by rw [e];exact b.mono _)
theorem RS.put_nx {l:L3} {A B:Int} {a:Fm} (b:RS l A a):RS (l++[(88,A,B,())]) l.length (.nx a):=by
 have e:ix (l++[((88:Int),A,B,())]) (l.length:Int)=(88,A,B,()):=zas;exact .nx _ a (by omega) (by simp;omega) (by rw [e]) (by rw [e];exact b.mono _)
theorem RS.put_fin {l:L3} {A B:Int} {a:Fm} (b:RS l A a):RS (l++[(70,A,B,())]) l.length (.fin a):=by
 have e:ix (l++[((70:Int),A,B,())]) (l.length:Int)=(70,A,B,()):=zas;exact .fin _ a (by omega) (by simp;omega) (by rw [e]) (by rw [e];exact b.mono _)
theorem RS.put_glob {l:L3} {A B:Int} {a:Fm} (b:RS l A a):RS (l++[(71,A,B,())]) l.length (.glob a):=by
 have e:ix (l++[((71:Int),A,B,())]) (l.length:Int)=(71,A,B,()):=zas;exact .glob _ a (by omega) (by simp;omega) (by rw [e]) (by rw [e];exact b.mono _)
theorem RS.put_conj {l:L3} {A B:Int} {a b:Fm} (c:RS l A a) (d:RS l B b):RS (l++[(38,A,B,())]) l.length (.conj a b):=by
 have e:ix (l++[((38:Int),A,B,())]) (l.length:Int)=(38,A,B,()):=zas;exact .conj _ a b (by omega) (by simp;omega) (by rw [e]) (by rw [e];exact c.mono _) (by rw [e];exact d.mono _)
theorem RS.put_disj {l:L3} {A B:Int} {a b:Fm} (c:RS l A a) (d:RS l B b):RS (l++[(124,A,B,())]) l.length (.disj a b):=by
 have e:ix (l++[((124:Int),A,B,())]) (l.length:Int)=(124,A,B,()):=zas;exact .disj _ a b (by omega) (by simp;omega) (by rw [e]) (by rw [e];exact c.mono _) (by rw [e];exact d.mono _)
theorem RS.put_til {l:L3} {A B:Int} {a b:Fm} (c:RS l A a) (d:RS l B b):RS (l++[(85,A,B,())]) l.length (.til a b):=by
 have e:ix (l++[((85:Int),A,B,())]) (l.length:Int)=(85,A,B,()):=zas;exact .til _ a b (by omega) (by simp;omega) (by rw [e]) (by rw [e];exact c.mono _) (by rw [e];exact d.mono _)
theorem RS.put_rel {l:L3} {A B:Int} {a b:Fm} (c:RS l A a) (d:RS l B b):RS (l++[(82,A,B,())]) l.length (.rel a b):=by
 have e:ix (l++[((82:Int),A,B,())]) (l.length:Int)=(82,A,B,()):=zas;exact .rel _ a b (by omega) (by simp;omega) (by rw [e]) (by rw [e];exact c.mono _) (by rw [e];exact d.mono _)
theorem PS.rng {l:L3} {k:Int} {f:Fm} (h:PS l k f):0<=k/\k < l.length:=by cases h<;>exact ⟨by assumption,by assumption⟩
theorem RS.rng {l:L3} {k:Int} {f:Fm} (h:RS l k f):0<=k/\k < l.length:=by cases h<;>exact ⟨by assumption,by assumption⟩
def WPn (k:Int) (x:N3):Prop:=x.1=0\/x.1=1\/x.1=2\/((x.1=3\/x.1=6)/\0<=x.2.1/\x.2.1 < k)\/((x.1=4\/x.1=5\/x.1=7)/\(0<=x.2.1/\x.2.1 < k)/\0<=x.2.2.1/\x.2.2.1 < k)
def WRn (k:Int) (x:N3):Prop:=x.1=48\/x.1=49\/x.1=112\/x.1=113\/((x.1=33\/x.1=88\/x.1=70\/x.1=71)/\0<=x.2.1/\x.2.1 < k)\/((x.1=38\/x.1=124\/x.1=85\/x.1=82)/\(0<=x.2.1/\x.2.1 < k)/\0<=x.2.2.1/\x.2.2.1 < k)
def WP (l:L3):Prop:=∀ k:Int,0<=k->k < l.length->WPn k (ix l k)
def WR (l:L3):Prop:=∀ k:Int,0<=k->k < l.length->WRn k (ix l k)
theorem WP.put {l:L3} {x:N3} (h:WP l) (b:WPn l.length x):WP (l++[x]):=by
 intro k a c;simp only [List.length_append,List.length_singleton] at c;by_cases e:k < l.length
 ·rw [zaq a e];exact h k a e
 ·have:k=l.length:=by omega
  rw [this,zas];exact b
theorem WR.put {l:L3} {x:N3} (h:WR l) (b:WRn l.length x):WR (l++[x]):=by
 intro k a c;simp only [List.length_append,List.length_singleton] at c;by_cases e:k < l.length
 ·rw [zaq a e];exact h k a e
 ·have:k=l.length:=by omega
  rw [this,zas];exact b
structure Ex (l l2 l' l2':L3):Prop where
 p:∃ m,l'=l++m
 r:∃ m,l2'=l2++m
 wp:WP l->WP l'
 wr:WR l2->WR l2'
def Sn (l l2:L3) (a b:Int):Prop:=∃ f,PS l a (dz f)/\RS l2 b f
theorem Ex.refl (l l2:L3):Ex l l2 l l2:=⟨⟨[],by simp⟩,⟨[],by simp⟩,id,id⟩
theorem Ex.trans {l l2 m a n b:L3} (h:Ex l l2 m a) (k:Ex m a n b):Ex l l2 n b:=by
 obtain ⟨⟨x,rfl⟩,⟨y,rfl⟩,h3,h4⟩:=h;obtain ⟨⟨c,rfl⟩,⟨y',rfl⟩,k3,k4⟩:=k;exact ⟨⟨x++c,by simp⟩,⟨y++y',by simp⟩,fun h=>k3 (h3 h),fun h=>k4 (h4 h)⟩
theorem Ex.pP {l l2 m a:L3} {x:N3} (h:Ex l l2 m a) (b:WPn m.length x):Ex l l2 (m++[x]) a:=
 h.trans ⟨⟨[x],rfl⟩,⟨[],by simp⟩,fun h=>h.put b,id⟩
theorem Ex.pR {l l2 m a:L3} {x:N3} (h:Ex l l2 m a) (b:WRn a.length x):Ex l l2 m (a++[x]):=
 h.trans ⟨⟨[],by simp⟩,⟨[x],rfl⟩,id,fun h=>h.put b⟩
theorem Ex.P {l l2 m b:L3} (h:Ex l l2 m b) {a:Int} {f:Fm} (k:PS l a f):PS m a f:=by obtain ⟨⟨x,rfl⟩,_⟩:=h;exact k.mono _
theorem Ex.R {l l2 m b:L3} (h:Ex l l2 m b) {a:Int} {f:Fm} (k:RS l2 a f):RS b a f:=by obtain ⟨_,⟨x,rfl⟩,_⟩:=h;exact k.mono _
theorem Ex.S {l l2 m c:L3} (h:Ex l l2 m c) {a b:Int} (k:Sn l l2 a b):Sn m c a b:=by obtain ⟨f,d,e⟩:=k;exact ⟨f,h.P d,h.R e⟩
theorem Sn.rng {l l2:L3} {a b:Int} (h:Sn l l2 a b):(0<=a/\a < l.length)/\0<=b/\b < l2.length:=by obtain ⟨f,c,d⟩:=h;exact ⟨c.rng,d.rng⟩
theorem zBX {l l2 m d:L3} {a b f g e c:Int} (k:e=4\/e=5\/e=7) (n:c=38\/c=124\/c=85) (h:Ex l l2 m d) (i:Sn m d a b) (j:Sn m d f g):Ex l l2 (m++[(e,a,f,())]) (d++[(c,b,g,())]):=
 (h.pP (.inr (.inr (.inr (.inr ⟨k,i.rng.1,j.rng.1⟩))))).pR (.inr (.inr (.inr (.inr (.inr ⟨by show c=38\/c=124\/c=85\/c=82;omega,i.rng.2,j.rng.2⟩)))))
theorem zC4 {l l2 m d:L3} {a b e c B C:Int} (g:e=3\/e=6) (i:c=33\/c=88\/c=70\/c=71) (h:Ex l l2 m d) (f:Sn m d a b):Ex l l2 (m++[(e,a,B,())]) (d++[(c,b,C,())]):=
 (h.pP (.inr (.inr (.inr (.inl ⟨g,f.rng.1⟩))))).pR (.inr (.inr (.inr (.inr (.inl ⟨i,f.rng.2⟩)))))
theorem zEL {l l2:L3} {a b c d:Int} (e:Sn l l2 a b) (h:Sn l l2 c d):Sn (l++[(4,a,c,())]) (l2++[(38,b,d,())]) l.length l2.length:=by
 obtain ⟨f,i,j⟩:=e;obtain ⟨g,k,m⟩:=h;exact ⟨.conj f g,.put_conj i k,.put_conj j m⟩
theorem or_sn {l l2:L3} {a b c d:Int} (e:Sn l l2 a b) (h:Sn l l2 c d):Sn (l++[(5,a,c,())]) (l2++[(124,b,d,())]) l.length l2.length:=by
 obtain ⟨f,i,j⟩:=e;obtain ⟨g,k,m⟩:=h;exact ⟨.disj f g,.put_disj i k,.put_disj j m⟩
theorem zFr {l l2:L3} {a b c d:Int} (e:Sn l l2 a b) (h:Sn l l2 c d):Sn (l++[(7,a,c,())]) (l2++[(85,b,d,())]) l.length l2.length:=by
 obtain ⟨f,i,j⟩:=e;obtain ⟨g,k,m⟩:=h;exact ⟨.til f g,.put_til i k,.put_til j m⟩
theorem zE7 {l l2:L3} {a b:Int} (c:Sn l l2 a b):Sn (l++[(3,a,0,())]) (l2++[(33,b,0,())]) l.length l2.length:=by
 obtain ⟨f,d,e⟩:=c;exact ⟨.neg f,.put_neg d,.put_neg e⟩
theorem nx_sn {l l2:L3} {a b:Int} (c:Sn l l2 a b):Sn (l++[(6,a,0,())]) (l2++[(88,b,0,())]) l.length l2.length:=by
 obtain ⟨f,d,e⟩:=c;exact ⟨.nx f,.put_nx d,.put_nx e⟩
def tmd (l:L3):Int:=((l.filter fun x=>decide (x.1=6\/x.1=7)).length:Int)
theorem zfm (l:L3) (x:N3):tmd (l++[x])=tmd l+if x.1=6\/x.1=7 then 1 else 0:=by
 unfold tmd;rw [List.filter_append,List.length_append];by_cases h:x.1=6\/x.1=7
 ·rw [if_pos h,List.filter_cons_of_pos (by simpa using h)];simp
 ·rw [if_neg h,List.filter_cons_of_neg (by simpa using h)];simp
theorem tt38 (t:Int):tt t 38=t:=by unfold tt tm;simp
theorem zqm (t:Int):tt t 124=t:=by unfold tt tm;simp
theorem tt33 (t:Int):tt t 33=t:=by unfold tt tm;simp
theorem zqk (t:Int):tt t 112=t:=by unfold tt tm;simp
theorem zql (t:Int):tt t 113=t:=by unfold tt tm;simp
theorem tt48 (t:Int):tt t 48=t:=by unfold tt tm;simp
theorem tt49 (t:Int):tt t 49=t:=by unfold tt tm;simp
theorem tt88 (t:Int):tt t 88=t+1:=by unfold tt tm;simp
theorem tt70 (t:Int):tt t 70=t+1:=by unfold tt tm;simp
theorem tt71 (t:Int):tt t 71=t+1:=by unfold tt tm;simp
theorem tt85 (t:Int):tt t 85=t+1:=by unfold tt tm;simp
theorem tt82 (t:Int):tt t 82=t+1:=by unfold tt tm;simp
structure Pre (c:List UInt8) (i n t s:Int) (l l2:L3):Prop where
 i0:0<=i
 i1:i<=c.length
 c1:c.length<=4000
 n0:0<=n
 n1:n<=30
 t0:0<=t
 t1:t<=5
 s0:0<=s
 s1:s<=40
 l1:(l.length:Int)<=5 * n
 l2:(l2.length:Int)<=n
def Sm (c:List UInt8) (i n t s:Int) (l l2:L3) (o:Option ((Int×List UInt8×Int×Int×Int×Int×L3)⊕(Int×Int))) (r:Option (Int×List UInt8×Int×Int×Int×Int×L3×Int×Int)):Prop:=
 (∃ a b f e t' g d,o=some (.inl (a,c,f,e,t',s,g))/\r=some (b,c,f,e,t',s,d,0,0)/\i<=f/\f<=c.length/\n<=e/\e<=30/\0<=t'/\(t'<=5/\tmd g+t<=tmd l+t')/\0<=a/\a+1=(g.length:Int)/\(g.length:Int)+5 * n<=l.length+5 * e/\(d.length:Int)+n<=l2.length+e/\Ex l l2 g d/\Sn g d a b)
 \/(∃ cd pl b f e t' d,o=some (.inr (cd,pl))/\r=some (b,c,f,e,t',s,d,cd,pl)/\cd≠0/\0<=f/\f<=c.length+40 - s/\e<=31/\(d.length:Int)+n<=l2.length+e)
def One (c:List UInt8) (m:Nat):Prop:=∀ i n t s l l2,Pre c i n t s l l2->((c.length:Int) - i).toNat<=m->Sm c i n t s l l2 (zey zbO c i n t s l) (za5 zar c i n t s 0 0 l2)
def Part (c:List UInt8) (m:Nat):Prop:=∀ i n t s l l2,Pre c i n t s l l2->((c.length:Int) - i).toNat<=m->Sm c i n t s l l2 (zcZ zbO c i n t s l) (zdt zar c i n t s 0 0 l2)
def Term (c:List UInt8) (m:Nat):Prop:=∀ i n t s l l2,Pre c i n t s l l2->((c.length:Int) - i).toNat<=m->Sm c i n t s l l2 (zc0 zbO c i n t s l) (zcD zar c i n t s 0 0 l2)
def Form (c:List UInt8) (m:Nat):Prop:=∀ i n t s l l2,Pre c i n t s l l2->((c.length:Int) - i).toNat<=m->Sm c i n t s l l2 (zbO c i n t s l) (zar c i n t s 0 0 l2)
theorem zlJ {c:List UInt8} {i:Int} (h:nowT c i≠0):i < c.length:=by
 unfold nowT at h;by_cases a:i < c.length
 ·exact a
 ·rw [if_neg a] at h;exact absurd rfl h
theorem zs8 {n t b:Int} (h : ¬ bad n t b=true) (c:0<=t) (d:t<=5):n+1<=30/\0<=tt t b/\tt t b<=5:=by
 unfold bad at h;unfold tt;simp only [Bool.or_eq_true,Bool.and_eq_true,decide_eq_true_eq,not_or,not_and] at h;refine ⟨by omega,?_,?_⟩
 ·split<;>omega
 ·split
  ·rename_i a;have:=h.2 a;omega
  ·omega
theorem zBW {c:List UInt8}:∀ m:Nat,(∀ o < m,Part c o)->∀ a b i n t s l l2,Pre c i n t s l l2->((c.length:Int) - i).toNat<=m->0<=a->a+1=(l.length:Int)->Sn l l2 a b->
  Sm c i n t s l l2 (zct zbO a c i n t s l) (zcv zar b c i n t s 0 0 l2):=by
 intro m;induction m using Nat.strongRecOn with
 | ind m D=>
  intro u a b i n t s l l2 z E p q e;obtain ⟨h,v,c1,w,r,j,k,s0,x,F,H⟩:=z;rw [zn4,zj4];unfold zcx zcq;rw [zp9 h v,znp h];simp only [Option.bind_some];rw [r_ok];by_cases g:nowT c i=38
  ·have f:i < c.length:=zlJ (by rw [g];decide);simp only [g,Option.bind_some,decide_true,not_true_eq_false,decide_false,Bool.not_true,Bool.false_eq_true,if_true,if_false];rw [zf1 h f c1 ⟨w,r⟩ ⟨j,k⟩,zf4 h f c1 ⟨w,r⟩ ⟨j,k⟩,g];by_cases d:bad n t 38=true
   ·simp only [d,if_true,zbh,Option.bind_some];rw [zyZ _ (by decide) (by omega)];simp only [Option.bind_some];rw [zhw (by omega)];simp only [Option.bind_some];rw [zv8 _ (by decide) (by omega)];exact .inr ⟨7,i,_,_,_,_,_,rfl,rfl,by decide,by omega,by omega,by omega,by (first | omega | (simp only [List.length_append,List.length_cons,List.length_nil] at *; omega) | (simp;done) | (simp;omega))⟩
   ·obtain ⟨A,B,C⟩:=zs8 d j k;simp only [d,Bool.false_eq_true,if_false,zbP,Option.bind_some];rcases u (((c.length:Int) - (i+1)).toNat) (by omega) (i+1) (n+1) (tt t 38) s l l2 ⟨by omega,by omega,c1,by omega,A,B,C,s0,x,by omega,by omega⟩ (Nat.le_refl _) with
     ⟨a1,b1,i',n',t',l',l2',e1,e2,g1,g2,g3,g4,g5,⟨g6,gT⟩,g7,g8,g9,g10,x1,y1⟩ | ⟨cd,pl,b1,i',n',t',l2',e1,e2,g1,g2,g3,g4,g5⟩
    ·simp only [e1,e2,zbP,Option.bind_some];rw [zsP (by omega),zhw (by omega)];simp only [Option.bind_some];rcases D (((c.length:Int) - i').toNat) (by omega) (fun o y=>u o (by omega)) (l'.length:Int) (l2'.length:Int) i' n' t' s (l'++[(4,a,a1,())]) (l2'++[(38,b,b1,())])
      ⟨by omega,g2,c1,by omega,g4,g5,g6,s0,x,by (first | omega | (simp only [List.length_append,List.length_cons,List.length_nil] at *; omega) | (simp;done) | (simp;omega)),by (first | omega | (simp only [List.length_append,List.length_cons,List.length_nil] at *; omega) | (simp;done) | (simp;omega))⟩ (Nat.le_refl _) (by omega) (by (first | omega | (simp only [List.length_append,List.length_cons,List.length_nil] at *; omega) | (simp;done) | (simp;omega))) (zEL (x1.S e) y1) with
      ⟨a2,b2,i2,n2,t2,l3,l4,w1,w2,w3,w4,w5,w6,w7,⟨w8,wT⟩,w9,w10,w11,w12,x2,y2⟩ | ⟨cd,pl,b2,i2,n2,t2,l4,w1,w2,w3,w4,w5,w6,w7⟩
     ·simp only [List.length_append,List.length_cons,List.length_nil] at w11 w12;exact .inl ⟨a2,b2,i2,n2,t2,l3,l4,w1,w2,by omega,w4,by omega,w6,w7,⟨w8,by (first | omega | (simp only [zfm,Int.reduceEq,or_true,true_or,or_self,if_true,if_false,tt38,zqm,tt33,tt88,tt70,tt71,tt85,tt82,zqk,zql,tt48,tt49] at *; omega))⟩,w9,w10,by omega,by omega,(zBX (by omega) (by omega) x1 (x1.S e) y1).trans x2,y2⟩
     ·simp only [List.length_append,List.length_cons,List.length_nil] at w7;exact .inr ⟨cd,pl,b2,i2,n2,t2,l4,w1,w2,w3,w4,w5,w6,by omega⟩
    ·simp only [e1,e2,zbh,Option.bind_some];rw [zhw (by omega)];simp only [Option.bind_some];rw [zv8 _ g1 g2];exact .inr ⟨cd,pl,_,_,_,_,_,rfl,rfl,g1,g2,g3,g4,by (first | omega | (simp only [List.length_append,List.length_cons,List.length_nil] at *; omega) | (simp;done) | (simp;omega))⟩
  ·simp only [g,Option.bind_some,decide_true,not_false_eq_true,decide_false,Bool.not_true,Bool.false_eq_true,if_true,if_false];exact .inl ⟨a,b,i,n,t,l,l2,rfl,rfl,by omega,v,by omega,r,j,⟨k,by omega⟩,p,q,by omega,by omega,Ex.refl _ _,e⟩
theorem zEv {c:List UInt8} {m:Nat} (d:∀ a ≤ m,Part c a):Term c m:=by
 intro i n t s l l2 e g;have b:=e;obtain ⟨j,k,c1,o,p,q,r,s0,h,u,v⟩:=e;unfold zc0 zcD;rcases d m (Nat.le_refl _) i n t s l l2 b g with
  ⟨a1,b1,i',n',t',l',l2',e1,e2,g1,g2,g3,g4,g5,⟨g6,gT⟩,g7,g8,g9,g10,x1,y1⟩ | ⟨cd,pl,b1,i',n',t',l2',e1,e2,g1,g2,g3,g4,g5⟩
 ·simp only [e1,e2,zbP,Option.bind_some];rcases zBW m (fun a f=>d a (by omega)) a1 b1 i' n' t' s l' l2' ⟨by omega,g2,c1,by omega,g4,g5,g6,s0,h,by omega,by omega⟩ (by omega) g7 g8 y1 with
   ⟨a2,b2,i2,n2,t2,l3,l4,w1,w2,w3,w4,w5,w6,w7,⟨w8,wT⟩,w9,w10,w11,w12,x2,y2⟩ | ⟨cd,pl,b2,i2,n2,t2,l4,w1,w2,w3,w4,w5,w6,w7⟩
  ·exact .inl ⟨a2,b2,i2,n2,t2,l3,l4,w1,w2,by omega,w4,by omega,w6,w7,⟨w8,by (first | omega | (simp only [zfm,Int.reduceEq,or_true,true_or,or_self,if_true,if_false,tt38,zqm,tt33,tt88,tt70,tt71,tt85,tt82,zqk,zql,tt48,tt49] at *; omega))⟩,w9,w10,by omega,by omega,x1.trans x2,y2⟩
  ·exact .inr ⟨cd,pl,b2,i2,n2,t2,l4,w1,w2,w3,w4,w5,w6,by omega⟩
 ·simp only [e1,e2,zbh,Option.bind_some];rw [zv8 _ g1 g2];exact .inr ⟨cd,pl,_,_,_,_,_,rfl,rfl,g1,g2,g3,g4,g5⟩
theorem zA4 {c:List UInt8}:∀ m:Nat,(∀ o < m,Term c o)->∀ a b i n t s l l2,Pre c i n t s l l2->((c.length:Int) - i).toNat<=m->0<=a->a+1=(l.length:Int)->Sn l l2 a b->
  Sm c i n t s l l2 (zb1 zbO a c i n t s l) (zbW zar b c i n t s 0 0 l2):=by
 intro m;induction m using Nat.strongRecOn with
 | ind m D=>
  intro u a b i n t s l l2 z E p q e;obtain ⟨h,v,c1,w,r,j,k,s0,x,F,H⟩:=z;rw [zmj,zix];unfold zb5 zbY;rw [zp9 h v,znp h];simp only [Option.bind_some];rw [r_ok];by_cases g:nowT c i=124
  ·have f:i < c.length:=zlJ (by rw [g];decide);simp only [g,Option.bind_some,decide_true,not_true_eq_false,decide_false,Bool.not_true,Bool.false_eq_true,if_true,if_false];rw [zf1 h f c1 ⟨w,r⟩ ⟨j,k⟩,zf4 h f c1 ⟨w,r⟩ ⟨j,k⟩,g];by_cases d:bad n t 124=true
   ·simp only [d,if_true,zbh,Option.bind_some];rw [zEV _ (by decide) (by omega)];simp only [Option.bind_some];rw [zhw (by omega)];simp only [Option.bind_some];rw [zyb _ (by decide) (by omega)];exact .inr ⟨7,i,_,_,_,_,_,rfl,rfl,by decide,by omega,by omega,by omega,by (first | omega | (simp only [List.length_append,List.length_cons,List.length_nil] at *; omega) | (simp;done) | (simp;omega))⟩
   ·obtain ⟨A,B,C⟩:=zs8 d j k;simp only [d,Bool.false_eq_true,if_false,zbP,Option.bind_some];rcases u (((c.length:Int) - (i+1)).toNat) (by omega) (i+1) (n+1) (tt t 124) s l l2 ⟨by omega,by omega,c1,by omega,A,B,C,s0,x,by omega,by omega⟩ (Nat.le_refl _) with
     ⟨a1,b1,i',n',t',l',l2',e1,e2,g1,g2,g3,g4,g5,⟨g6,gT⟩,g7,g8,g9,g10,x1,y1⟩ | ⟨cd,pl,b1,i',n',t',l2',e1,e2,g1,g2,g3,g4,g5⟩
    ·simp only [e1,e2,zbP,Option.bind_some];rw [zsP (by omega),zhw (by omega)];simp only [Option.bind_some];rcases D (((c.length:Int) - i').toNat) (by omega) (fun o y=>u o (by omega)) (l'.length:Int) (l2'.length:Int) i' n' t' s (l'++[(5,a,a1,())]) (l2'++[(124,b,b1,())])
      ⟨by omega,g2,c1,by omega,g4,g5,g6,s0,x,by (first | omega | (simp only [List.length_append,List.length_cons,List.length_nil] at *; omega) | (simp;done) | (simp;omega)),by (first | omega | (simp only [List.length_append,List.length_cons,List.length_nil] at *; omega) | (simp;done) | (simp;omega))⟩ (Nat.le_refl _) (by omega) (by (first | omega | (simp only [List.length_append,List.length_cons,List.length_nil] at *; omega) | (simp;done) | (simp;omega))) (or_sn (x1.S e) y1) with
      ⟨a2,b2,i2,n2,t2,l3,l4,w1,w2,w3,w4,w5,w6,w7,⟨w8,wT⟩,w9,w10,w11,w12,x2,y2⟩ | ⟨cd,pl,b2,i2,n2,t2,l4,w1,w2,w3,w4,w5,w6,w7⟩
     ·simp only [List.length_append,List.length_cons,List.length_nil] at w11 w12;exact .inl ⟨a2,b2,i2,n2,t2,l3,l4,w1,w2,by omega,w4,by omega,w6,w7,⟨w8,by (first | omega | (simp only [zfm,Int.reduceEq,or_true,true_or,or_self,if_true,if_false,tt38,zqm,tt33,tt88,tt70,tt71,tt85,tt82,zqk,zql,tt48,tt49] at *; omega))⟩,w9,w10,by omega,by omega,(zBX (by omega) (by omega) x1 (x1.S e) y1).trans x2,y2⟩
     ·simp only [List.length_append,List.length_cons,List.length_nil] at w7;exact .inr ⟨cd,pl,b2,i2,n2,t2,l4,w1,w2,w3,w4,w5,w6,by omega⟩
    ·simp only [e1,e2,zbh,Option.bind_some];rw [zhw (by omega)];simp only [Option.bind_some];rw [zyb _ g1 g2];exact .inr ⟨cd,pl,_,_,_,_,_,rfl,rfl,g1,g2,g3,g4,by (first | omega | (simp only [List.length_append,List.length_cons,List.length_nil] at *; omega) | (simp;done) | (simp;omega))⟩
  ·simp only [g,Option.bind_some,decide_true,not_false_eq_true,decide_false,Bool.not_true,Bool.false_eq_true,if_true,if_false];exact .inl ⟨a,b,i,n,t,l,l2,rfl,rfl,by omega,v,by omega,r,j,⟨k,by omega⟩,p,q,by omega,by omega,Ex.refl _ _,e⟩
theorem zDE {c:List UInt8} {m:Nat} (d:∀ a ≤ m,Term c a):Form c m:=by
 intro i n t s l l2 e g;have b:=e;obtain ⟨j,k,c1,o,p,q,r,s0,h,u,v⟩:=e;rw [zn0,zpq];unfold zcw zdg;rcases d m (Nat.le_refl _) i n t s l l2 b g with
  ⟨a1,b1,i',n',t',l',l2',e1,e2,g1,g2,g3,g4,g5,⟨g6,gT⟩,g7,g8,g9,g10,x1,y1⟩ | ⟨cd,pl,b1,i',n',t',l2',e1,e2,g1,g2,g3,g4,g5⟩
 ·simp only [e1,e2,zbP,Option.bind_some];rcases zA4 m (fun a f=>d a (by omega)) a1 b1 i' n' t' s l' l2' ⟨by omega,g2,c1,by omega,g4,g5,g6,s0,h,by omega,by omega⟩ (by omega) g7 g8 y1 with
   ⟨a2,b2,i2,n2,t2,l3,l4,w1,w2,w3,w4,w5,w6,w7,⟨w8,wT⟩,w9,w10,w11,w12,x2,y2⟩ | ⟨cd,pl,b2,i2,n2,t2,l4,w1,w2,w3,w4,w5,w6,w7⟩
  ·exact .inl ⟨a2,b2,i2,n2,t2,l3,l4,w1,w2,by omega,w4,by omega,w6,w7,⟨w8,by (first | omega | (simp only [zfm,Int.reduceEq,or_true,true_or,or_self,if_true,if_false,tt38,zqm,tt33,tt88,tt70,tt71,tt85,tt82,zqk,zql,tt48,tt49] at *; omega))⟩,w9,w10,by omega,by omega,x1.trans x2,y2⟩
  ·exact .inr ⟨cd,pl,b2,i2,n2,t2,l4,w1,w2,w3,w4,w5,w6,by omega⟩
 ·simp only [e1,e2,zbh,Option.bind_some];rw [zyb _ g1 g2];exact .inr ⟨cd,pl,_,_,_,_,_,rfl,rfl,g1,g2,g3,g4,g5⟩
theorem zDW {c:List UInt8} {m:Nat} (D:One c m) (u:∀ m' < m,Part c m'):Part c m:=by
 intro i n t s l l2 v E;have k:=v;obtain ⟨I,J,c1,L,M,N,O,s0,z,P,Q⟩:=v;rw [zqg,zmM];unfold zdM zdS;rcases D i n t s l l2 k E with
  ⟨a1,b1,i',n',t',l',l2',e1,e2,g1,g2,g3,g4,g5,⟨g6,gT⟩,g7,g8,g9,g10,x1,y1⟩ | ⟨cd,pl,b1,i',n',t',l2',e1,e2,g1,g2,g3,g4,g5⟩
 ·simp only [e1,e2,zbP,Option.bind_some];rw [zp9 (by omega) g2,znp (by omega)];simp only [Option.bind_some];rw [r_ok];by_cases d:nowT c i'=85
  ·have b:i' < c.length:=zlJ (by rw [d];decide);simp only [d,Option.bind_some,decide_true,not_true_eq_false,decide_false,Bool.not_true,Bool.false_eq_true,if_true,if_false];unfold zdh;rw [zf1 (by omega) b c1 ⟨by omega,g4⟩ ⟨g5,g6⟩,zf4 (by omega) b c1 ⟨by omega,g4⟩ ⟨g5,g6⟩,d];by_cases a:bad n' t' 85=true
   ·simp only [a,if_true,zbh,Option.bind_some];rw [zyZ _ (by decide) (by omega)];simp only [Option.bind_some];rw [zhw (by omega)];simp only [Option.bind_some];exact .inr ⟨7,i',_,_,_,_,_,rfl,rfl,by decide,by omega,by omega,by omega,by (first | omega | (simp only [List.length_append,List.length_cons,List.length_nil] at *; omega) | (simp;done) | (simp;omega))⟩
   ·obtain ⟨p,q,r⟩:=zs8 a g5 g6;simp only [a,Bool.false_eq_true,if_false,zbP,Option.bind_some];rcases u (((c.length:Int) - (i'+1)).toNat) (by omega) (i'+1) (n'+1) (tt t' 85) s l' l2' ⟨by omega,by omega,c1,by omega,p,q,r,s0,z,by omega,by omega⟩ (Nat.le_refl _) with
     ⟨a2,b2,i2,n2,t2,l3,l4,w1,w2,w3,w4,w5,w6,w7,⟨w8,wT⟩,w9,w10,w11,w12,x2,y2⟩ | ⟨cd,pl,b2,i2,n2,t2,l4,w1,w2,w3,w4,w5,w6,w7⟩
    ·simp only [w1,w2,zbP,Option.bind_some];rw [zsP (by omega),zhw (by omega)];simp only [Option.bind_some];exact .inl ⟨_,_,_,_,_,_,_,rfl,rfl,by omega,w4,by omega,w6,w7,⟨w8,by (first | omega | (simp only [zfm,Int.reduceEq,or_true,true_or,or_self,if_true,if_false,tt38,zqm,tt33,tt88,tt70,tt71,tt85,tt82,zqk,zql,tt48,tt49] at *; omega))⟩,by omega,by (first | omega | (simp only [List.length_append,List.length_cons,List.length_nil] at *; omega) | (simp;done) | (simp;omega)),by (first | omega | (simp only [List.length_append,List.length_cons,List.length_nil] at *; omega) | (simp;done) | (simp;omega)),by (first | omega | (simp only [List.length_append,List.length_cons,List.length_nil] at *; omega) | (simp;done) | (simp;omega)),zBX (by omega) (by omega) (x1.trans x2) (x2.S y1) y2,zFr (x2.S y1) y2⟩
    ·simp only [w1,w2,zbh,Option.bind_some];rw [zhw (by omega)];simp only [Option.bind_some];exact .inr ⟨cd,pl,_,_,_,_,_,rfl,rfl,w3,w4,w5,w6,by (first | omega | (simp only [List.length_append,List.length_cons,List.length_nil] at *; omega) | (simp;done) | (simp;omega))⟩
  ·by_cases e:nowT c i'=82
   ·have b:i' < c.length:=zlJ (by rw [e];decide);have o : ¬ (82:Int)=85:=by decide
    simp only [e,o,Option.bind_some,decide_true,not_true_eq_false,not_false_eq_true,decide_false,Bool.not_true,Bool.false_eq_true,if_true,if_false];unfold zdh;rw [zf1 (by omega) b c1 ⟨by omega,g4⟩ ⟨g5,g6⟩,zf4 (by omega) b c1 ⟨by omega,g4⟩ ⟨g5,g6⟩,e];by_cases a:bad n' t' 82=true
    ·simp only [a,if_true,zbh,Option.bind_some];rw [zyZ _ (by decide) (by omega)];simp only [Option.bind_some];rw [zhw (by omega)];simp only [Option.bind_some];exact .inr ⟨7,i',_,_,_,_,_,rfl,rfl,by decide,by omega,by omega,by omega,by (first | omega | (simp only [List.length_append,List.length_cons,List.length_nil] at *; omega) | (simp;done) | (simp;omega))⟩
    ·obtain ⟨p,q,r⟩:=zs8 a g5 g6;simp only [a,Bool.false_eq_true,if_false,zbP,Option.bind_some];rw [p_no (by omega)];simp only [Option.bind_some];rcases u (((c.length:Int) - (i'+1)).toNat) (by omega) (i'+1) (n'+1) (tt t' 82) s (l'++[(3,a1,0,())]) l2' ⟨by omega,by omega,c1,by omega,p,q,r,s0,z,by (first | omega | (simp only [List.length_append,List.length_cons,List.length_nil] at *; omega) | (simp;done) | (simp;omega)),by omega⟩ (Nat.le_refl _) with
      ⟨a2,b2,i2,n2,t2,l3,l4,w1,w2,w3,w4,w5,w6,w7,⟨w8,wT⟩,w9,w10,w11,w12,x2,y2⟩ | ⟨cd,pl,b2,i2,n2,t2,l4,w1,w2,w3,w4,w5,w6,w7⟩
     ·simp only [List.length_append,List.length_cons,List.length_nil] at w11;simp only [w1,w2,zbP,Option.bind_some];rw [p_no (by omega),zhw (by omega)];simp only [Option.bind_some];rw [zsP (by (first | omega | (simp only [List.length_append,List.length_cons,List.length_nil] at *; omega) | (simp;done) | (simp;omega)))];simp only [Option.bind_some];rw [p_no (by (first | omega | (simp only [List.length_append,List.length_cons,List.length_nil] at *; omega) | (simp;done) | (simp;omega)))];simp only [Option.bind_some];obtain ⟨f,A,C⟩:=y1;obtain ⟨g,h,j⟩:=y2;have F:PS (l'++[(3,a1,0,())]) l'.length (.neg (dz f)) := .put_neg A;have w:PS (l3++[(3,a2,0,())]) l3.length (.neg (dz g)) := .put_neg h;have x:PS (l3++[(3,a2,0,())]) l'.length (.neg (dz f)):=(x2.P F).mono _;have y:=PS.put_til x w;have H:=PS.put_neg (B:=0) y;refine .inl ⟨_,_,_,_,_,_,_,rfl,rfl,by omega,w4,by omega,w6,w7,⟨w8,by (first | omega | (simp only [zfm,Int.reduceEq,or_true,true_or,or_self,if_true,if_false,tt38,zqm,tt33,tt88,tt70,tt71,tt85,tt82,zqk,zql,tt48,tt49] at *; omega))⟩,by omega,by (first | omega | (simp only [List.length_append,List.length_cons,List.length_nil] at *; omega) | (simp;done) | (simp;omega)),by (first | omega | (simp only [List.length_append,List.length_cons,List.length_nil] at *; omega) | (simp;done) | (simp;omega)),by (first | omega | (simp only [List.length_append,List.length_cons,List.length_nil] at *; omega) | (simp;done) | (simp;omega)),?_,⟨.rel f g,H,.put_rel (x2.R C) j⟩⟩;exact (((((x1.pP (.inr (.inr (.inr (.inl ⟨.inl rfl,A.rng⟩))))).trans x2).pP (.inr (.inr (.inr (.inl ⟨.inl rfl,h.rng⟩))))).pP (.inr (.inr (.inr (.inr ⟨.inr (.inr rfl),x.rng,w.rng⟩))))).pP (.inr (.inr (.inr (.inl ⟨.inl rfl,y.rng⟩))))).pR (.inr (.inr (.inr (.inr (.inr ⟨by show (82:Int)=38\/(82:Int)=124\/(82:Int)=85\/(82:Int)=82;omega,(x2.R C).rng,j.rng⟩)))))
     ·simp only [w1,w2,zbh,Option.bind_some];rw [zhw (by omega)];simp only [Option.bind_some];exact .inr ⟨cd,pl,_,_,_,_,_,rfl,rfl,w3,w4,w5,w6,by (first | omega | (simp only [List.length_append,List.length_cons,List.length_nil] at *; omega) | (simp;done) | (simp;omega))⟩
   ·simp only [d,e,Option.bind_some,decide_true,not_false_eq_true,decide_false,Bool.not_true,Bool.false_eq_true,if_true,if_false];exact .inl ⟨a1,b1,i',n',t',l',l2',rfl,rfl,g1,g2,g3,g4,g5,⟨g6,gT⟩,g7,g8,g9,g10,x1,y1⟩
 ·simp only [e1,e2,zbh,Option.bind_some];rw [znp g2];simp only [Option.bind_some];rw [r_ok];simp only [Option.bind_some,g1,decide_false,Bool.not_false,if_true];exact .inr ⟨cd,pl,_,_,_,_,_,rfl,rfl,g1,g2,g3,g4,g5⟩
theorem zFa {c:List UInt8} {m:Nat} (R:∀ m' < m,One c m') (Y:∀ m' < m,Form c m'):One c m:=by
 intro i n t s l l2 Z hm;obtain ⟨d,L,c1,o,k,e,f,s0,T,q1,q2⟩:=Z;by_cases v:nowT c i=33
 ·have b:i < c.length:=zlJ (by rw [v];decide);have p:za5 zar c i n t s 0 0 l2=(zaH 33 c i n t s 0 0 l2).bind (fun y=>(za5 zar y.1 y.2.1 y.2.2.1 y.2.2.2.1 y.2.2.2.2.1 y.2.2.2.2.2.2.1 y.2.2.2.2.2.2.2 y.2.2.2.2.2.1).bind (fun z=>(zbH 33 z.1 0 z.2.1 z.2.2.1 z.2.2.2.1 z.2.2.2.2.1 z.2.2.2.2.2.1 z.2.2.2.2.2.2.2.1 z.2.2.2.2.2.2.2.2 z.2.2.2.2.2.2.1).bind (fun y=>some (y.1,y.2.1,y.2.2.1,y.2.2.2.1,y.2.2.2.2.1,y.2.2.2.2.2.1,y.2.2.2.2.2.2.1,y.2.2.2.2.2.2.2.1,y.2.2.2.2.2.2.2.2)))):=by
   rw [zbQ];unfold za9;rw [r_ok,znp d,v];rfl
  rw [p,zbK];unfold zaZ;rw [zp9 d L,v];simp only [Option.bind_some,Int.reduceEq,decide_true,decide_false,Bool.false_eq_true,if_true,if_false];rw [zf1 d b c1 ⟨o,k⟩ ⟨e,f⟩,zf4 d b c1 ⟨o,k⟩ ⟨e,f⟩,v];by_cases a:bad n t 33=true
  ·simp only [a,if_true,zbh,Option.bind_some];rw [zAZ _ (by decide)];simp only [Option.bind_some];rw [zhw (by omega)];simp only [Option.bind_some];exact .inr ⟨7,i,_,_,_,_,_,rfl,rfl,by decide,by omega,by omega,by omega,by (first | omega | (simp only [List.length_append,List.length_cons,List.length_nil] at *; omega) | (simp;done) | (simp;omega))⟩
  ·obtain ⟨q,r,u⟩:=zs8 a e f;simp only [a,Bool.false_eq_true,if_false,zbP,Option.bind_some];rcases R (((c.length:Int) - (i+1)).toNat) (by omega) (i+1) (n+1) (tt t 33) s l l2 ⟨by omega,by omega,c1,by omega,q,r,u,s0,T,by omega,by omega⟩ (Nat.le_refl _) with
    ⟨a2,b2,i2,n2,t2,l3,l4,w1,w2,w3,w4,w5,w6,w7,⟨w8,wT⟩,w9,w10,w11,w12,x2,y2⟩ | ⟨cd,pl,b2,i2,n2,t2,l4,w1,w2,w3,w4,w5,w6,w7⟩
   ·simp only [w1,w2,zbP,Option.bind_some];rw [zhw (by omega)];simp only [Option.bind_some];rw [p_no (by (first | omega | (simp only [List.length_append,List.length_cons,List.length_nil] at *; omega) | (simp;done) | (simp;omega)))];simp only [Option.bind_some];exact .inl ⟨_,_,_,_,_,_,_,rfl,rfl,by omega,w4,by omega,w6,w7,⟨w8,by (first | omega | (simp only [zfm,Int.reduceEq,or_true,true_or,or_self,if_true,if_false,tt38,zqm,tt33,tt88,tt70,tt71,tt85,tt82,zqk,zql,tt48,tt49] at *; omega))⟩,by omega,by (first | omega | (simp only [List.length_append,List.length_cons,List.length_nil] at *; omega) | (simp;done) | (simp;omega)),by (first | omega | (simp only [List.length_append,List.length_cons,List.length_nil] at *; omega) | (simp;done) | (simp;omega)),by (first | omega | (simp only [List.length_append,List.length_cons,List.length_nil] at *; omega) | (simp;done) | (simp;omega)),zC4 (.inl rfl) (by omega) x2 y2,zE7 y2⟩
   ·simp only [w1,w2,zbh,Option.bind_some];rw [zhw (by omega)];simp only [Option.bind_some];exact .inr ⟨cd,pl,_,_,_,_,_,rfl,rfl,w3,w4,w5,w6,by (first | omega | (simp only [List.length_append,List.length_cons,List.length_nil] at *; omega) | (simp;done) | (simp;omega))⟩
 by_cases w:nowT c i=88
 ·have b:i < c.length:=zlJ (by rw [w];decide);have p:za5 zar c i n t s 0 0 l2=(zaH 88 c i n t s 0 0 l2).bind (fun y=>(za5 zar y.1 y.2.1 y.2.2.1 y.2.2.2.1 y.2.2.2.2.1 y.2.2.2.2.2.2.1 y.2.2.2.2.2.2.2 y.2.2.2.2.2.1).bind (fun z=>(zbH 88 z.1 0 z.2.1 z.2.2.1 z.2.2.2.1 z.2.2.2.2.1 z.2.2.2.2.2.1 z.2.2.2.2.2.2.2.1 z.2.2.2.2.2.2.2.2 z.2.2.2.2.2.2.1).bind (fun y=>some (y.1,y.2.1,y.2.2.1,y.2.2.2.1,y.2.2.2.2.1,y.2.2.2.2.2.1,y.2.2.2.2.2.2.1,y.2.2.2.2.2.2.2.1,y.2.2.2.2.2.2.2.2)))):=by
   rw [zbQ];unfold za9;rw [r_ok,znp d,w];rfl
  rw [p,zbK];unfold zaZ;rw [zp9 d L,w];simp only [Option.bind_some,Int.reduceEq,decide_true,decide_false,Bool.false_eq_true,if_true,if_false];rw [zf1 d b c1 ⟨o,k⟩ ⟨e,f⟩,zf4 d b c1 ⟨o,k⟩ ⟨e,f⟩,w];by_cases a:bad n t 88=true
  ·simp only [a,if_true,zbh,Option.bind_some];rw [zAZ _ (by decide)];simp only [Option.bind_some];rw [zhw (by omega)];simp only [Option.bind_some];exact .inr ⟨7,i,_,_,_,_,_,rfl,rfl,by decide,by omega,by omega,by omega,by (first | omega | (simp only [List.length_append,List.length_cons,List.length_nil] at *; omega) | (simp;done) | (simp;omega))⟩
  ·obtain ⟨q,r,u⟩:=zs8 a e f;simp only [a,Bool.false_eq_true,if_false,zbP,Option.bind_some];rcases R (((c.length:Int) - (i+1)).toNat) (by omega) (i+1) (n+1) (tt t 88) s l l2 ⟨by omega,by omega,c1,by omega,q,r,u,s0,T,by omega,by omega⟩ (Nat.le_refl _) with
    ⟨a2,b2,i2,n2,t2,l3,l4,w1,w2,w3,w4,w5,w6,w7,⟨w8,wT⟩,w9,w10,w11,w12,x2,y2⟩ | ⟨cd,pl,b2,i2,n2,t2,l4,w1,w2,w3,w4,w5,w6,w7⟩
   ·simp only [w1,w2,zbP,Option.bind_some];rw [zhw (by omega)];simp only [Option.bind_some];rw [zsP (by (first | omega | (simp only [List.length_append,List.length_cons,List.length_nil] at *; omega) | (simp;done) | (simp;omega)))];simp only [Option.bind_some];exact .inl ⟨_,_,_,_,_,_,_,rfl,rfl,by omega,w4,by omega,w6,w7,⟨w8,by (first | omega | (simp only [zfm,Int.reduceEq,or_true,true_or,or_self,if_true,if_false,tt38,zqm,tt33,tt88,tt70,tt71,tt85,tt82,zqk,zql,tt48,tt49] at *; omega))⟩,by omega,by (first | omega | (simp only [List.length_append,List.length_cons,List.length_nil] at *; omega) | (simp;done) | (simp;omega)),by (first | omega | (simp only [List.length_append,List.length_cons,List.length_nil] at *; omega) | (simp;done) | (simp;omega)),by (first | omega | (simp only [List.length_append,List.length_cons,List.length_nil] at *; omega) | (simp;done) | (simp;omega)),zC4 (.inr rfl) (by omega) x2 y2,nx_sn y2⟩
   ·simp only [w1,w2,zbh,Option.bind_some];rw [zhw (by omega)];simp only [Option.bind_some];exact .inr ⟨cd,pl,_,_,_,_,_,rfl,rfl,w3,w4,w5,w6,by (first | omega | (simp only [List.length_append,List.length_cons,List.length_nil] at *; omega) | (simp;done) | (simp;omega))⟩
 by_cases x:nowT c i=70
 ·have b:i < c.length:=zlJ (by rw [x];decide);have p:za5 zar c i n t s 0 0 l2=(zaH 70 c i n t s 0 0 l2).bind (fun y=>(za5 zar y.1 y.2.1 y.2.2.1 y.2.2.2.1 y.2.2.2.2.1 y.2.2.2.2.2.2.1 y.2.2.2.2.2.2.2 y.2.2.2.2.2.1).bind (fun z=>(zbH 70 z.1 0 z.2.1 z.2.2.1 z.2.2.2.1 z.2.2.2.2.1 z.2.2.2.2.2.1 z.2.2.2.2.2.2.2.1 z.2.2.2.2.2.2.2.2 z.2.2.2.2.2.2.1).bind (fun y=>some (y.1,y.2.1,y.2.2.1,y.2.2.2.1,y.2.2.2.2.1,y.2.2.2.2.2.1,y.2.2.2.2.2.2.1,y.2.2.2.2.2.2.2.1,y.2.2.2.2.2.2.2.2)))):=by
   rw [zbQ];unfold za9;rw [r_ok,znp d,x];rfl
  rw [p,zbK];unfold zaZ;rw [zp9 d L,x];simp only [Option.bind_some,Int.reduceEq,decide_true,decide_false,Bool.false_eq_true,if_true,if_false];rw [zf1 d b c1 ⟨o,k⟩ ⟨e,f⟩,zf4 d b c1 ⟨o,k⟩ ⟨e,f⟩,x];by_cases a:bad n t 70=true
  ·simp only [a,if_true,zbh,Option.bind_some];rw [zAZ _ (by decide)];simp only [Option.bind_some];rw [zhw (by omega)];simp only [Option.bind_some];exact .inr ⟨7,i,_,_,_,_,_,rfl,rfl,by decide,by omega,by omega,by omega,by (first | omega | (simp only [List.length_append,List.length_cons,List.length_nil] at *; omega) | (simp;done) | (simp;omega))⟩
  ·obtain ⟨q,r,u⟩:=zs8 a e f;simp only [a,Bool.false_eq_true,if_false,zbP,Option.bind_some];obtain ⟨l1,P,X,Q⟩:=zwv (c:=c) (i:=i+1) (n:=n+1) (t:=tt t 70) (s:=s) (l:=l) (by omega);rw [P];simp only [Option.bind_some];rcases R (((c.length:Int) - (i+1)).toNat) (by omega) (i+1) (n+1) (tt t 70) s l1 l2 ⟨by omega,by omega,c1,by omega,q,r,u,s0,T,by omega,by omega⟩ (Nat.le_refl _) with
    ⟨a2,b2,i2,n2,t2,l3,l4,w1,w2,w3,w4,w5,w6,w7,⟨w8,wT⟩,w9,w10,w11,w12,x2,y2⟩ | ⟨cd,pl,b2,i2,n2,t2,l4,w1,w2,w3,w4,w5,w6,w7⟩
   ·simp only [w1,w2,zbP,Option.bind_some];rw [zhw (by omega)];simp only [Option.bind_some];rw [zsP (by (first | omega | (simp only [List.length_append,List.length_cons,List.length_nil] at *; omega) | (simp;done) | (simp;omega)))];simp only [Option.bind_some];obtain ⟨g,I,J⟩:=y2;subst Q;have al:PS ((l++[(0,0,0,())])++[(3,(l.length:Int),0,())]) ((l++[(0,0,0,())]).length) (.neg .zero) := .put_neg .put_zero;have e0:(((l++[((0:Int),(0:Int),(0:Int),())]).length:Nat):Int)=(l.length:Int)+1:=by simp
    rw [e0] at al;have N:Ex l l2 ((l++[(0,0,0,())])++[(3,(l.length:Int),0,())]) l2:=((Ex.refl l l2).pP (.inl rfl)).pP (.inr (.inr (.inr (.inl ⟨.inl rfl,by show (0:Int)<=(l.length:Int);omega,by show (l.length:Int) < _;simp;omega⟩))));have F:=x2.P al;refine .inl ⟨_,_,_,_,_,_,_,rfl,rfl,by omega,w4,by omega,w6,w7,⟨w8,by (first | omega | (simp only [zfm,Int.reduceEq,or_true,true_or,or_self,if_true,if_false,tt38,zqm,tt33,tt88,tt70,tt71,tt85,tt82,zqk,zql,tt48,tt49] at *; omega))⟩,by omega,by (first | omega | (simp only [List.length_append,List.length_cons,List.length_nil] at *; omega) | (simp;done) | (simp;omega)),by (first | omega | (simp only [List.length_append,List.length_cons,List.length_nil] at *; omega) | (simp;done) | (simp;omega)),by (first | omega | (simp only [List.length_append,List.length_cons,List.length_nil] at *; omega) | (simp;done) | (simp;omega)),?_,⟨.fin g,.put_til F I,.put_fin J⟩⟩;exact ((N.trans x2).pP (.inr (.inr (.inr (.inr ⟨.inr (.inr rfl),F.rng,I.rng⟩))))).pR (.inr (.inr (.inr (.inr (.inl ⟨by show (70:Int)=33\/(70:Int)=88\/(70:Int)=70\/(70:Int)=71;omega,J.rng⟩)))))
   ·simp only [w1,w2,zbh,Option.bind_some];rw [zhw (by omega)];simp only [Option.bind_some];exact .inr ⟨cd,pl,_,_,_,_,_,rfl,rfl,w3,w4,w5,w6,by (first | omega | (simp only [List.length_append,List.length_cons,List.length_nil] at *; omega) | (simp;done) | (simp;omega))⟩
 by_cases A:nowT c i=71
 ·have b:i < c.length:=zlJ (by rw [A];decide);have p:za5 zar c i n t s 0 0 l2=(zaH 71 c i n t s 0 0 l2).bind (fun y=>(za5 zar y.1 y.2.1 y.2.2.1 y.2.2.2.1 y.2.2.2.2.1 y.2.2.2.2.2.2.1 y.2.2.2.2.2.2.2 y.2.2.2.2.2.1).bind (fun z=>(zbH 71 z.1 0 z.2.1 z.2.2.1 z.2.2.2.1 z.2.2.2.2.1 z.2.2.2.2.2.1 z.2.2.2.2.2.2.2.1 z.2.2.2.2.2.2.2.2 z.2.2.2.2.2.2.1).bind (fun y=>some (y.1,y.2.1,y.2.2.1,y.2.2.2.1,y.2.2.2.2.1,y.2.2.2.2.2.1,y.2.2.2.2.2.2.1,y.2.2.2.2.2.2.2.1,y.2.2.2.2.2.2.2.2)))):=by
   rw [zbQ];unfold za9;rw [r_ok,znp d,A];rfl
  rw [p,zbK];unfold zaZ;rw [zp9 d L,A];simp only [Option.bind_some,Int.reduceEq,decide_true,decide_false,Bool.false_eq_true,if_true,if_false];rw [zf1 d b c1 ⟨o,k⟩ ⟨e,f⟩,zf4 d b c1 ⟨o,k⟩ ⟨e,f⟩,A];by_cases a:bad n t 71=true
  ·simp only [a,if_true,zbh,Option.bind_some];rw [zAZ _ (by decide)];simp only [Option.bind_some];rw [zhw (by omega)];simp only [Option.bind_some];exact .inr ⟨7,i,_,_,_,_,_,rfl,rfl,by decide,by omega,by omega,by omega,by (first | omega | (simp only [List.length_append,List.length_cons,List.length_nil] at *; omega) | (simp;done) | (simp;omega))⟩
  ·obtain ⟨q,r,u⟩:=zs8 a e f;simp only [a,Bool.false_eq_true,if_false,zbP,Option.bind_some];obtain ⟨l1,P,X,Q⟩:=zwv (c:=c) (i:=i+1) (n:=n+1) (t:=tt t 71) (s:=s) (l:=l) (by omega);rw [P];simp only [Option.bind_some];rcases R (((c.length:Int) - (i+1)).toNat) (by omega) (i+1) (n+1) (tt t 71) s l1 l2 ⟨by omega,by omega,c1,by omega,q,r,u,s0,T,by omega,by omega⟩ (Nat.le_refl _) with
    ⟨a2,b2,i2,n2,t2,l3,l4,w1,w2,w3,w4,w5,w6,w7,⟨w8,wT⟩,w9,w10,w11,w12,x2,y2⟩ | ⟨cd,pl,b2,i2,n2,t2,l4,w1,w2,w3,w4,w5,w6,w7⟩
   ·simp only [w1,w2,zbP,Option.bind_some];rw [zhw (by omega)];simp only [Option.bind_some];rw [p_no (by (first | omega | (simp only [List.length_append,List.length_cons,List.length_nil] at *; omega) | (simp;done) | (simp;omega)))];simp only [Option.bind_some];rw [zsP (by (first | omega | (simp only [List.length_append,List.length_cons,List.length_nil] at *; omega) | (simp;done) | (simp;omega)))];simp only [Option.bind_some];rw [p_no (by (first | omega | (simp only [List.length_append,List.length_cons,List.length_nil] at *; omega) | (simp;done) | (simp;omega)))];simp only [Option.bind_some];obtain ⟨g,I,J⟩:=y2;subst Q;have al:PS ((l++[(0,0,0,())])++[(3,(l.length:Int),0,())]) ((l++[(0,0,0,())]).length) (.neg .zero) := .put_neg .put_zero;have e0:(((l++[((0:Int),(0:Int),(0:Int),())]).length:Nat):Int)=(l.length:Int)+1:=by simp
    rw [e0] at al;have N:Ex l l2 ((l++[(0,0,0,())])++[(3,(l.length:Int),0,())]) l2:=((Ex.refl l l2).pP (.inl rfl)).pP (.inr (.inr (.inr (.inl ⟨.inl rfl,by show (0:Int)<=(l.length:Int);omega,by show (l.length:Int) < _;simp;omega⟩))));have F:=x2.P al;have U:PS (l3++[(3,a2,0,())]) l3.length (.neg (dz g)) := .put_neg I;have V:=PS.put_til (F.mono [(3,a2,0,())]) U;have u5:=PS.put_neg (B:=0) V;refine .inl ⟨_,_,_,_,_,_,_,rfl,rfl,by omega,w4,by omega,w6,w7,⟨w8,by (first | omega | (simp only [zfm,Int.reduceEq,or_true,true_or,or_self,if_true,if_false,tt38,zqm,tt33,tt88,tt70,tt71,tt85,tt82,zqk,zql,tt48,tt49] at *; omega))⟩,by omega,by (first | omega | (simp only [List.length_append,List.length_cons,List.length_nil] at *; omega) | (simp;done) | (simp;omega)),by (first | omega | (simp only [List.length_append,List.length_cons,List.length_nil] at *; omega) | (simp;done) | (simp;omega)),by (first | omega | (simp only [List.length_append,List.length_cons,List.length_nil] at *; omega) | (simp;done) | (simp;omega)),?_,⟨.glob g,u5,.put_glob J⟩⟩;exact (((N.trans x2).pP (.inr (.inr (.inr (.inl ⟨.inl rfl,I.rng⟩))))).pP (.inr (.inr (.inr (.inr ⟨.inr (.inr rfl),(F.mono _).rng,U.rng⟩))))).pP (.inr (.inr (.inr (.inl ⟨.inl rfl,V.rng⟩)))) |>.pR (.inr (.inr (.inr (.inr (.inl ⟨by show (71:Int)=33\/(71:Int)=88\/(71:Int)=70\/(71:Int)=71;omega,J.rng⟩)))))
   ·simp only [w1,w2,zbh,Option.bind_some];rw [zhw (by omega)];simp only [Option.bind_some];exact .inr ⟨cd,pl,_,_,_,_,_,rfl,rfl,w3,w4,w5,w6,by (first | omega | (simp only [List.length_append,List.length_cons,List.length_nil] at *; omega) | (simp;done) | (simp;omega))⟩
 by_cases H:nowT c i=40
 ·have b:i < c.length:=zlJ (by rw [H];decide);rw [zbQ,zbK];unfold zaZ za9;rw [zp9 d L,r_ok,znp d,H];simp only [Option.bind_some,Int.reduceEq,decide_true,decide_false,Bool.not_true,Bool.false_eq_true,if_true,if_false];unfold zcl;simp only [Int.reduceEq,decide_true,decide_false,Bool.false_eq_true,if_true,if_false];unfold zcd;simp only [Int.reduceEq,not_true_eq_false,decide_true,decide_false,Bool.false_eq_true,if_true,if_false];by_cases hs:s=40
  ·subst hs;simp only [decide_true,if_true,zvq,zbh,zsC,Option.bind_some];exact .inr ⟨7,i,_,_,_,_,_,rfl,rfl,by decide,by omega,by omega,by omega,by omega⟩
  ·simp only [hs,decide_false,Bool.false_eq_true,if_false];unfold zdi;rw [zae (za4 (by omega) (by omega)),zae (za4 (by omega) (by omega)),zae (za4 (by omega) (by omega)),zae (za4 (by omega) (by omega))];have S:s+1 - 1=s:=by omega
   have O:fits (s+1 - 1):=za4 (by omega) (by omega);rcases Y (((c.length:Int) - (i+1)).toNat) (by omega) (i+1) n t (s+1) l l2 ⟨by omega,by omega,c1,by omega,k,e,f,by omega,by omega,by omega,by omega⟩ (Nat.le_refl _) with
    ⟨a2,b2,i2,n2,t2,l3,l4,w1,w2,w3,w4,w5,w6,w7,⟨w8,wT⟩,w9,w10,w11,w12,x2,y2⟩ | ⟨cd,pl,b2,i2,n2,t2,l4,w1,w2,w3,w4,w5,w6,w7⟩
   ·simp only [w1,w2,zbP,Option.bind_some];rw [zp9 (by omega) w4,znp (by omega)];simp only [Option.bind_some];have M:fits (i2+1):=za4 (by omega) (by omega);by_cases C:nowT c i2=41
    ·have W:i2 < c.length:=zlJ (by rw [C];decide);simp only [C,not_true_eq_false,decide_false,Bool.false_eq_true,if_false];unfold zhX;rw [zae M,zae O,zae M,zae O,S];exact .inl ⟨_,_,_,_,_,_,_,rfl,rfl,by omega,by omega,by omega,w6,w7,⟨w8,by (first | omega | (simp only [zfm,Int.reduceEq,or_true,true_or,or_self,if_true,if_false,tt38,zqm,tt33,tt88,tt70,tt71,tt85,tt82,zqk,zql,tt48,tt49] at *; omega))⟩,w9,w10,w11,w12,x2,y2⟩
    ·simp only [C,not_false_eq_true,decide_true,if_true,zvq,zbh,zsC,Option.bind_some];rw [zae M,zae O,S];exact .inr ⟨4,i2,_,_,_,_,_,rfl,rfl,by decide,by omega,by omega,by omega,by omega⟩
   ·simp only [w1,w2,zbh,Option.bind_some];rw [znp w4];simp only [Option.bind_some];have M:fits (i2+1):=za4 (by omega) (by omega);by_cases C:nowT c i2=41
    ·simp only [C,not_true_eq_false,decide_false,Bool.false_eq_true,if_false];rw [zae M,zae O,S];exact .inr ⟨cd,pl,_,_,_,_,_,rfl,rfl,w3,by omega,by omega,w6,w7⟩
    ·simp only [C,not_false_eq_true,decide_true,if_true,zsC,w3,if_false,Option.bind_some];rw [zae M,zae O,S];exact .inr ⟨cd,pl,_,_,_,_,_,rfl,rfl,w3,by omega,by omega,w6,w7⟩
 by_cases h:nowT c i=112
 ·have b:i < c.length:=zlJ (by rw [h];decide);have p:za5 zar c i n t s 0 0 l2=(zaH 112 c i n t s 0 0 l2).bind (fun z=>(zbH 112 0 0 z.1 z.2.1 z.2.2.1 z.2.2.2.1 z.2.2.2.2.1 z.2.2.2.2.2.2.1 z.2.2.2.2.2.2.2 z.2.2.2.2.2.1).bind (fun y=>some (y.1,y.2.1,y.2.2.1,y.2.2.2.1,y.2.2.2.2.1,y.2.2.2.2.2.1,y.2.2.2.2.2.2.1,y.2.2.2.2.2.2.2.1,y.2.2.2.2.2.2.2.2))):=by
   rw [zbQ];unfold za9;rw [r_ok,znp d,h];rfl
  rw [p,zbK];unfold zaZ;rw [zp9 d L,h];simp only [Option.bind_some,Int.reduceEq,decide_true,decide_false,Bool.false_eq_true,if_true,if_false];rw [zf1 d b c1 ⟨o,k⟩ ⟨e,f⟩,zf4 d b c1 ⟨o,k⟩ ⟨e,f⟩,h];by_cases a:bad n t 112=true
  ·simp only [a,if_true,zbh,Option.bind_some];rw [zhw (by omega)];simp only [Option.bind_some];exact .inr ⟨7,i,_,_,_,_,_,rfl,rfl,by decide,by omega,by omega,by omega,by (first | omega | (simp only [List.length_append,List.length_cons,List.length_nil] at *; omega) | (simp;done) | (simp;omega))⟩
  ·obtain ⟨q,r,u⟩:=zs8 a e f;simp only [a,Bool.false_eq_true,if_false,zbP,Option.bind_some];rw [zsP (by omega),zhw (by omega)];simp only [Option.bind_some];exact .inl ⟨_,_,_,_,_,_,_,rfl,rfl,by omega,by omega,by omega,q,r,⟨u,by (first | omega | (simp only [zfm,Int.reduceEq,or_true,true_or,or_self,if_true,if_false,tt38,zqm,tt33,tt88,tt70,tt71,tt85,tt82,zqk,zql,tt48,tt49] at *; omega))⟩,by omega,by (first | omega | (simp only [List.length_append,List.length_cons,List.length_nil] at *; omega) | (simp;done) | (simp;omega)),by (first | omega | (simp only [List.length_append,List.length_cons,List.length_nil] at *; omega) | (simp;done) | (simp;omega)),by (first | omega | (simp only [List.length_append,List.length_cons,List.length_nil] at *; omega) | (simp;done) | (simp;omega)),((Ex.refl l l2).pP (.inr (.inl rfl))).pR (.inr (.inr (.inl rfl))),⟨.p,.put_p,.put_p⟩⟩
 by_cases j:nowT c i=113
 ·have b:i < c.length:=zlJ (by rw [j];decide);have p:za5 zar c i n t s 0 0 l2=(zaH 113 c i n t s 0 0 l2).bind (fun z=>(zbH 113 0 0 z.1 z.2.1 z.2.2.1 z.2.2.2.1 z.2.2.2.2.1 z.2.2.2.2.2.2.1 z.2.2.2.2.2.2.2 z.2.2.2.2.2.1).bind (fun y=>some (y.1,y.2.1,y.2.2.1,y.2.2.2.1,y.2.2.2.2.1,y.2.2.2.2.2.1,y.2.2.2.2.2.2.1,y.2.2.2.2.2.2.2.1,y.2.2.2.2.2.2.2.2))):=by
   rw [zbQ];unfold za9;rw [r_ok,znp d,j];rfl
  rw [p,zbK];unfold zaZ;rw [zp9 d L,j];simp only [Option.bind_some,Int.reduceEq,decide_true,decide_false,Bool.false_eq_true,if_true,if_false];rw [zf1 d b c1 ⟨o,k⟩ ⟨e,f⟩,zf4 d b c1 ⟨o,k⟩ ⟨e,f⟩,j];by_cases a:bad n t 113=true
  ·simp only [a,if_true,zbh,Option.bind_some];rw [zhw (by omega)];simp only [Option.bind_some];exact .inr ⟨7,i,_,_,_,_,_,rfl,rfl,by decide,by omega,by omega,by omega,by (first | omega | (simp only [List.length_append,List.length_cons,List.length_nil] at *; omega) | (simp;done) | (simp;omega))⟩
  ·obtain ⟨q,r,u⟩:=zs8 a e f;simp only [a,Bool.false_eq_true,if_false,zbP,Option.bind_some];rw [zsP (by omega),zhw (by omega)];simp only [Option.bind_some];exact .inl ⟨_,_,_,_,_,_,_,rfl,rfl,by omega,by omega,by omega,q,r,⟨u,by (first | omega | (simp only [zfm,Int.reduceEq,or_true,true_or,or_self,if_true,if_false,tt38,zqm,tt33,tt88,tt70,tt71,tt85,tt82,zqk,zql,tt48,tt49] at *; omega))⟩,by omega,by (first | omega | (simp only [List.length_append,List.length_cons,List.length_nil] at *; omega) | (simp;done) | (simp;omega)),by (first | omega | (simp only [List.length_append,List.length_cons,List.length_nil] at *; omega) | (simp;done) | (simp;omega)),by (first | omega | (simp only [List.length_append,List.length_cons,List.length_nil] at *; omega) | (simp;done) | (simp;omega)),((Ex.refl l l2).pP (.inr (.inr (.inl rfl)))).pR (.inr (.inr (.inr (.inl rfl)))),⟨.q,.put_q,.put_q⟩⟩
 by_cases D:nowT c i=48
 ·have b:i < c.length:=zlJ (by rw [D];decide);have p:za5 zar c i n t s 0 0 l2=(zaH 48 c i n t s 0 0 l2).bind (fun z=>(zbH 48 0 0 z.1 z.2.1 z.2.2.1 z.2.2.2.1 z.2.2.2.2.1 z.2.2.2.2.2.2.1 z.2.2.2.2.2.2.2 z.2.2.2.2.2.1).bind (fun y=>some (y.1,y.2.1,y.2.2.1,y.2.2.2.1,y.2.2.2.2.1,y.2.2.2.2.2.1,y.2.2.2.2.2.2.1,y.2.2.2.2.2.2.2.1,y.2.2.2.2.2.2.2.2))):=by
   rw [zbQ];unfold za9;rw [r_ok,znp d,D];rfl
  rw [p,zbK];unfold zaZ;rw [zp9 d L,D];simp only [Option.bind_some,Int.reduceEq,decide_true,decide_false,Bool.false_eq_true,if_true,if_false];rw [zf1 d b c1 ⟨o,k⟩ ⟨e,f⟩,zf4 d b c1 ⟨o,k⟩ ⟨e,f⟩,D];by_cases a:bad n t 48=true
  ·simp only [a,if_true,zbh,Option.bind_some];rw [zhw (by omega)];simp only [Option.bind_some];exact .inr ⟨7,i,_,_,_,_,_,rfl,rfl,by decide,by omega,by omega,by omega,by (first | omega | (simp only [List.length_append,List.length_cons,List.length_nil] at *; omega) | (simp;done) | (simp;omega))⟩
  ·obtain ⟨q,r,u⟩:=zs8 a e f;simp only [a,Bool.false_eq_true,if_false,zbP,Option.bind_some];rw [zsP (by omega),zhw (by omega)];simp only [Option.bind_some];exact .inl ⟨_,_,_,_,_,_,_,rfl,rfl,by omega,by omega,by omega,q,r,⟨u,by (first | omega | (simp only [zfm,Int.reduceEq,or_true,true_or,or_self,if_true,if_false,tt38,zqm,tt33,tt88,tt70,tt71,tt85,tt82,zqk,zql,tt48,tt49] at *; omega))⟩,by omega,by (first | omega | (simp only [List.length_append,List.length_cons,List.length_nil] at *; omega) | (simp;done) | (simp;omega)),by (first | omega | (simp only [List.length_append,List.length_cons,List.length_nil] at *; omega) | (simp;done) | (simp;omega)),by (first | omega | (simp only [List.length_append,List.length_cons,List.length_nil] at *; omega) | (simp;done) | (simp;omega)),((Ex.refl l l2).pP (.inl rfl)).pR (.inl rfl),⟨.zero,.put_zero,.put_zero⟩⟩
 by_cases E:nowT c i=49
 ·have b:i < c.length:=zlJ (by rw [E];decide);have p:za5 zar c i n t s 0 0 l2=(zaH 49 c i n t s 0 0 l2).bind (fun z=>(zbH 49 0 0 z.1 z.2.1 z.2.2.1 z.2.2.2.1 z.2.2.2.2.1 z.2.2.2.2.2.2.1 z.2.2.2.2.2.2.2 z.2.2.2.2.2.1).bind (fun y=>some (y.1,y.2.1,y.2.2.1,y.2.2.2.1,y.2.2.2.2.1,y.2.2.2.2.2.1,y.2.2.2.2.2.2.1,y.2.2.2.2.2.2.2.1,y.2.2.2.2.2.2.2.2))):=by
   rw [zbQ];unfold za9;rw [r_ok,znp d,E];rfl
  rw [p,zbK];unfold zaZ;rw [zp9 d L,E];simp only [Option.bind_some,Int.reduceEq,decide_true,decide_false,Bool.false_eq_true,if_true,if_false];rw [zf1 d b c1 ⟨o,k⟩ ⟨e,f⟩,zf4 d b c1 ⟨o,k⟩ ⟨e,f⟩,E];by_cases a:bad n t 49=true
  ·simp only [a,if_true,zbh,Option.bind_some];rw [zhw (by omega)];simp only [Option.bind_some];exact .inr ⟨7,i,_,_,_,_,_,rfl,rfl,by decide,by omega,by omega,by omega,by (first | omega | (simp only [List.length_append,List.length_cons,List.length_nil] at *; omega) | (simp;done) | (simp;omega))⟩
  ·obtain ⟨q,r,u⟩:=zs8 a e f;simp only [a,Bool.false_eq_true,if_false,zbP,Option.bind_some];obtain ⟨l1,P,X,Q⟩:=zwv (c:=c) (i:=i+1) (n:=n+1) (t:=tt t 49) (s:=s) (l:=l) (by omega);rw [P,zhw (by omega)];simp only [Option.bind_some];subst Q;have al:PS ((l++[(0,0,0,())])++[(3,(l.length:Int),0,())]) ((l++[(0,0,0,())]).length) (.neg .zero) := .put_neg .put_zero;have e0:(((l++[((0:Int),(0:Int),(0:Int),())]).length:Nat):Int)=(l.length:Int)+1:=by simp
   rw [e0] at al;have N:Ex l l2 ((l++[(0,0,0,())])++[(3,(l.length:Int),0,())]) l2:=((Ex.refl l l2).pP (.inl rfl)).pP (.inr (.inr (.inr (.inl ⟨.inl rfl,by show (0:Int)<=(l.length:Int);omega,by show (l.length:Int) < _;simp;omega⟩))));exact .inl ⟨_,_,_,_,_,_,_,rfl,rfl,by omega,by omega,by omega,q,r,⟨u,by (first | omega | (simp only [zfm,Int.reduceEq,or_true,true_or,or_self,if_true,if_false,tt38,zqm,tt33,tt88,tt70,tt71,tt85,tt82,zqk,zql,tt48,tt49] at *; omega))⟩,by omega,by (first | omega | (simp only [List.length_append,List.length_cons,List.length_nil] at *; omega) | (simp;done) | (simp;omega)),by (first | omega | (simp only [List.length_append,List.length_cons,List.length_nil] at *; omega) | (simp;done) | (simp;omega)),by (first | omega | (simp only [List.length_append,List.length_cons,List.length_nil] at *; omega) | (simp;done) | (simp;omega)),N.pR (.inr (.inl rfl)),⟨.one,al,.put_one⟩⟩
 rw [zbQ,zbK];unfold zaZ za9;rw [zp9 d L,r_ok,znp d];simp only [v,w,x,A,H,h,j,D,E,Option.bind_some,Int.reduceEq,decide_true,decide_false,Bool.not_true,Bool.false_eq_true,if_true,if_false];unfold zcl;simp only [v,w,x,A,H,h,j,D,E,decide_true,decide_false,Bool.false_eq_true,if_true,if_false];unfold zcd;simp only [H,not_false_eq_true,decide_true,Bool.false_eq_true,if_true,if_false,zvq,zbh,zsC,Option.bind_some];exact .inr ⟨4,i,_,_,_,_,_,rfl,rfl,by decide,by omega,by omega,by omega,by omega⟩
theorem zEK {c:List UInt8}:∀ m:Nat,One c m/\Part c m/\Term c m/\Form c m:=by
 intro m;induction m using Nat.strongRecOn with
 | ind m b=>
  have d:One c m:=zFa (fun a h=>(b a h).1) (fun a h=>(b a h).2.2.2);have e:Part c m:=zDW d (fun a h=>(b a h).2.1);have f:Term c m:=zEv fun a h=>by
   rcases Nat.lt_or_eq_of_le h with h | rfl
   ·exact (b a h).2.1
   ·exact e
  have g:Form c m:=zDE fun a h=>by
   rcases Nat.lt_or_eq_of_le h with h | rfl
   ·exact (b a h).2.2.1
   ·exact f
  exact ⟨d,e,f,g⟩
theorem zz3 (c:List UInt8):(∃ l b l2,zln c=some (l,(0,(0,())))/\zq7 c=some (b,(0,(0,())),l2)/\0 < l.length/\(l.length:Int)<=150/\(l2.length:Int)<=30/\WP l/\WR l2/\Sn l l2 (l.length - 1) b/\tmd l<=5)
  \/(∃ cd pl,zln c=some ([],(cd,(pl,())))/\zq7 c=some (0,(cd,(pl,())),[])/\cd≠0):=by
 unfold zln zq7;by_cases f:(4000:Int) < c.length
 ·simp only [f,decide_true,if_true,Option.bind_some];exact .inr ⟨1,0,rfl,rfl,by decide⟩
 ·simp only [f,decide_false,Bool.false_eq_true,if_false];rcases (zEK (c:=c) (((c.length:Int) - 0).toNat)).2.2.2 0 0 0 0 [] [] ⟨by omega,by omega,by omega,by omega,by omega,by omega,by omega,by omega,by omega,by simp,by simp⟩ (Nat.le_refl _) with
   ⟨a2,b2,i2,n2,t2,l3,l4,w1,w2,w3,w4,w5,w6,w7,⟨w8,wT⟩,w9,w10,w11,w12,x2,y2⟩ | ⟨cd,pl,b2,i2,n2,t2,l4,w1,w2,w3,w4,w5,w6,w7⟩
  ·simp only [w1,w2,zbP,Option.bind_some];by_cases a:i2 < (c.length:Int)
   ·simp only [a,decide_true,if_true,zvq,zbh,zsC,Option.bind_some,Int.reduceEq,not_false_eq_true];exact .inr ⟨4,i2,rfl,rfl,by decide⟩
   ·simp only [a,decide_false,Bool.false_eq_true,if_false,not_true_eq_false,Option.bind_some];rw [zae (za4 (by simp at w11;omega) (by simp at w11;omega)),zae ⟨by omega,by omega⟩];have e:(l3.drop 0).take (a2+1).toNat=l3:=by rw [List.drop_zero,List.take_of_length_le (by omega)]
    rw [e];have h:a2=(l3.length:Int) - 1:=by omega
    exact .inl ⟨l3,b2,l4,rfl,rfl,by omega,by simp at w11;omega,by simp at w12;omega,x2.wp (fun k g d=>by simp at d;omega),x2.wr (fun k g d=>by simp at d;omega),h ▸ y2,by have:tmd ([]:L3)=0:=rfl;omega⟩
  ·simp only [w1,w2,zbh,Option.bind_some];by_cases a:i2 < (c.length:Int)
   ·simp only [a,decide_true,if_true,zsC,w3,if_false,not_false_eq_true,Option.bind_some];exact .inr ⟨cd,pl,rfl,rfl,w3⟩
   ·simp only [a,decide_false,Bool.false_eq_true,if_false,w3,not_false_eq_true,decide_true,if_true,Option.bind_some];exact .inr ⟨cd,pl,rfl,rfl,w3⟩
def nxt (n h i:Int):Int:=if i+1=n then h else i+1
def it (n h:Int):Nat->Int->Int
 | 0,i=>i
 | k+1,i=>it n h k (nxt n h i)
theorem ztW (n h:Int):∀ (a b:Nat) (i:Int),it n h (a+b) i=it n h b (it n h a i)
 | 0,b,i=>by rw [Nat.zero_add];rfl
 | a+1,b,i=>by rw [Nat.succ_add];exact ztW n h a b (nxt n h i)
theorem zrz {n h i:Int} (a:0<=h/\h < n) (b:0<=i/\i < n):0<=nxt n h i/\nxt n h i < n:=by
 unfold nxt;split<;>omega
theorem zkR {n h:Int} (a:0<=h/\h < n):∀ (k:Nat) {i:Int},0<=i/\i < n->0<=it n h k i/\it n h k i < n
 | 0,_,hi=>hi
 | k+1,_,hi=>zkR a k (zrz a hi)
def Un (n h:Int) (A B:Int->Prop) (i:Int):Prop:=∃ k:Nat,B (it n h k i)/\∀ j:Nat,j < k->A (it n h j i)
theorem Un.step {n h:Int} {A B:Int->Prop} {i:Int}:Un n h A B i↔B i\/(A i/\Un n h A B (nxt n h i)):=by
 constructor
 ·rintro ⟨k,a,b⟩;cases k with
  | zero=>exact .inl a
  | succ k=>exact .inr ⟨b 0 (by omega),k,a,fun j c=>b (j+1) (by omega)⟩
 ·rintro (a | ⟨a,k,b,h3⟩)
  ·exact ⟨0,a,fun j c=>by omega⟩
  ·refine ⟨k+1,b,fun j c => ?_⟩;cases j with
   | zero=>exact a
   | succ j=>exact h3 j (by omega)
theorem twice {n h:Int} (f:0<=h/\h < n) {i:Int} (g:0<=i/\i < n):∃ a b:Nat,a < b/\b<=n.toNat/\it n h a i=it n h b i:=by
 refine Classical.byContradiction fun c => ?_
 have hnd:((List.range (n.toNat+1)).map fun k=>it n h k i).Nodup:=by
  refine List.pairwise_map.2 (List.Pairwise.imp_of_mem ?_ (List.pairwise_lt_range (n:=n.toNat+1)));intro a b m l d e;exact c ⟨a,b,d,by have:=List.mem_range.1 l;omega,e⟩
 have:=zz8 (n:=n.toNat) hnd (fun x j=>by
  obtain ⟨k,_,rfl⟩:=List.mem_map.1 j;have:=zkR f k g;omega)
 simp at this;omega
theorem Un.bound {n h:Int} (f:0<=h/\h < n) {A B:Int->Prop} {i:Int} (g:0<=i/\i < n) (l:Un n h A B i):∃ k:Nat,k < n.toNat/\B (it n h k i)/\∀ j:Nat,j < k->A (it n h j i):=by
 obtain ⟨k,c,d⟩:=l;induction k using Nat.strongRecOn with
 | ind k q=>
  by_cases o:k < n.toNat
  ·exact ⟨k,o,c,d⟩
  ·obtain ⟨a,b,p,s,e⟩:=twice f g;refine q (a+(k - b)) (by omega) ?_ (fun j r=>d j (by omega));have m:it n h k i=it n h (a+(k - b)) i:=by
    rw [ztW,e,<- ztW];congr 1;omega
   rw [<- m];exact c
def Hd (n h:Int) (lt:Int->Int):Fm->Int->Prop
 | .zero,_=>False
 | .one,_=>True
 | .p,i=>lt i=1\/lt i=3
 | .q,i=>lt i=2\/lt i=3
 | .neg a,i => ¬ Hd n h lt a i
 | .conj a b,i=>Hd n h lt a i/\Hd n h lt b i
 | .disj a b,i=>Hd n h lt a i\/Hd n h lt b i
 | .nx a,i=>Hd n h lt a (nxt n h i)
 | .fin a,i=>∃ k:Nat,Hd n h lt a (it n h k i)
 | .glob a,i=>∀ k:Nat,Hd n h lt a (it n h k i)
 | .til a b,i=>Un n h (Hd n h lt a) (Hd n h lt b) i
 | .rel a b,i=>∀ k:Nat,Hd n h lt b (it n h k i)\/∃ j:Nat,j < k/\Hd n h lt a (it n h j i)
theorem zrr {n h:Int} {lt:Int->Int}:∀ (f:Fm) (i:Int),Hd n h lt (dz f) i↔Hd n h lt f i
 | .zero,i=>Iff.rfl
 | .one,i=>by simp [dz,Hd]
 | .p,i=>Iff.rfl
 | .q,i=>Iff.rfl
 | .neg a,i=>by simp only [dz,Hd,zrr a]
 | .conj a b,i=>by simp only [dz,Hd,zrr a,zrr b]
 | .disj a b,i=>by simp only [dz,Hd,zrr a,zrr b]
 | .nx a,i=>by simp only [dz,Hd,zrr a]
 | .fin a,i=>by
  simp only [dz,Hd,Un,zrr a];exact ⟨fun ⟨k,c,_⟩=>⟨k,c⟩,fun ⟨k,c⟩=>⟨k,c,fun _ _=>id⟩⟩
 | .glob a,i=>by
  simp only [dz,Hd,Un,zrr a];exact ⟨fun c k=>Classical.byContradiction fun d=>c ⟨k,d,fun _ _=>id⟩,fun c ⟨k,d,_⟩=>d (c k)⟩
 | .til a b,i=>by simp only [dz,Hd,Un,zrr a,zrr b]
 | .rel a b,i=>by
  simp only [dz,Hd,Un,zrr a,zrr b];constructor
  ·intro c k;refine Classical.byContradiction fun d=>c ⟨k,fun e=>d (.inl e),fun j g e=>d (.inr ⟨j,g,e⟩)⟩
  ·rintro c ⟨k,d,e⟩;rcases c k with h4 | ⟨j,g,h4⟩
   ·exact d h4
   ·exact e j g h4
theorem zwJ {n:Nat} (h:n < 9223372036854775808):IntKind.wrap .i64 (n:Int)=n:=by
 unfold IntKind.wrap;simp [IntKind.bits,IntKind.signed];omega
theorem zqQ (m:Nat):BitVec.ofInt 64 (m:Int)=BitVec.ofNat 64 m:=by
 apply BitVec.eq_of_toNat_eq;simp
theorem zCn {m n:Nat} (a:m < 9223372036854775808) (b:n < 9223372036854775808):iand .i64 (m:Int) (n:Int)=((m &&& n:Nat):Int):=by
 unfold iand;have h:(BitVec.ofInt IntKind.i64.bits (m:Int) &&& BitVec.ofInt IntKind.i64.bits (n:Int)).toNat=m &&& n:=by
  show (BitVec.ofInt 64 (m:Int) &&& BitVec.ofInt 64 (n:Int)).toNat=m &&& n;rw [zqQ,zqQ,BitVec.toNat_and,BitVec.toNat_ofNat,BitVec.toNat_ofNat,Nat.mod_eq_of_lt (by omega),Nat.mod_eq_of_lt (by omega)]
 rw [h,zwJ (Nat.lt_of_le_of_lt Nat.and_le_left a)]
theorem zDK {m n:Nat} (a:m < 9223372036854775808) (b:n < 9223372036854775808):ior .i64 (m:Int) (n:Int)=((m ||| n:Nat):Int):=by
 unfold ior;have h:(BitVec.ofInt IntKind.i64.bits (m:Int) ||| BitVec.ofInt IntKind.i64.bits (n:Int)).toNat=m ||| n:=by
  show (BitVec.ofInt 64 (m:Int) ||| BitVec.ofInt 64 (n:Int)).toNat=m ||| n;rw [zqQ,zqQ,BitVec.toNat_or,BitVec.toNat_ofNat,BitVec.toNat_ofNat,Nat.mod_eq_of_lt (by omega),Nat.mod_eq_of_lt (by omega)]
 rw [h,zwJ (Nat.or_lt_two_pow (n:=63) a b)]
theorem zy7 {m k:Nat} (a:k < 63) (h:m * 2 ^ k < 9223372036854775808):ishl .i64 (m:Int) (k:Int)=((m <<< k:Nat):Int):=by
 unfold ishl;have e:min ((k:Int).toNat) IntKind.i64.bits=k:=by
  show min ((k:Int).toNat) 64=k;omega
 rw [e,Nat.shiftLeft_eq];have:(m:Int) * 2 ^ k=((m * 2 ^ k:Nat):Int):=by push_cast;rfl
 rw [this,zwJ h]
theorem zCp {m k:Nat} (a:k<=64):ishr .i64 (m:Int) (k:Int)=((m >>> k:Nat):Int):=by
 unfold ishr;have e:min ((k:Int).toNat) IntKind.i64.bits=k:=by
  show min ((k:Int).toNat) 64=k;omega
 rw [e,Nat.shiftRight_eq_div_pow,Int.fdiv_eq_ediv_of_nonneg _ (by exact_mod_cast Nat.zero_le _)]
 push_cast;rfl
theorem zDJ {m q:Nat} (b:m < 4611686018427387904) (c:q < 62):ior .i64 (m:Int) (ishl .i64 1 (q:Int))=((m ||| 2 ^ q:Nat):Int)/\m ||| 2 ^ q < 4611686018427387904:=by
 have d:2 ^ q < 4611686018427387904:=Nat.pow_lt_pow_right (a:=2) (n:=62) (by omega) c;have e:ishl .i64 1 (q:Int)=((2 ^ q:Nat):Int):=by
  have:=zy7 (m:=1) (k:=q) (by omega) (by omega);rw [Nat.shiftLeft_eq,Nat.one_mul] at this;exact this
 rw [e,zDK (by omega) (by omega)];exact ⟨rfl,Nat.or_lt_two_pow (n:=62) b d⟩
def bitP (s q:Int):Prop:=iand .i64 (ishr .i64 s q) 1=1
theorem zCz {N:Nat} (a:N<=16):2 ^ N<=65536:=by
 have:2 ^ N<=2 ^ 16:=Nat.pow_le_pow_right (by omega) a;omega
theorem zvM {m:Nat} (a:m < 65536) {q:Nat} (b:q<=16):bitP (m:Int) (q:Int)↔m.testBit q=true:=by
 have hs:m >>> q<=m:=Nat.shiftRight_le m q;unfold bitP;rw [zCp (by omega),show (1:Int)=((1:Nat):Int) from rfl,zCn (by omega) (by omega),Nat.and_one_is_mod,Nat.testBit];rw [show (1 &&& m >>> q)=(m >>> q) % 2 by rw [Nat.and_comm,Nat.and_one_is_mod]];simp only [bne_iff_ne,ne_eq];omega
def SetN (N:Nat) (s:Int):Prop:=N<=16/\∃ m:Nat,s=m/\m < 2 ^ N
section
variable {N:Nat} {s t:Int}
theorem SetN.or (hs:SetN N s) {q:Int} (g:0<=q) (h:q < N):SetN N (ior .i64 s (ishl .i64 1 q))/\s<=ior .i64 s (ishl .i64 1 q)/\∀ r:Int,0<=r->r < N->(bitP (ior .i64 s (ishl .i64 1 q)) r↔bitP s r\/r=q):=by
 obtain ⟨b,m,rfl,e⟩:=hs;have o:=zCz b;obtain ⟨k,rfl⟩:∃ k:Nat,q=k:=⟨q.toNat,by omega⟩;obtain ⟨f,p⟩:=zDJ (m:=m) (q:=k) (by omega) (by omega);have c:2 ^ k < 2 ^ N:=Nat.pow_lt_pow_right (by omega) (by omega);have a:m ||| 2 ^ k < 2 ^ N:=Nat.or_lt_two_pow (n:=N) e c;have d:m<=m ||| 2 ^ k:=Nat.left_le_or;rw [f];refine ⟨⟨b,_,rfl,a⟩,by omega,fun r i l => ?_⟩;obtain ⟨j,rfl⟩:∃ j:Nat,r=j:=⟨r.toNat,by omega⟩;rw [zvM (by omega) (by omega),zvM (by omega) (by omega),Nat.testBit_or,Bool.or_eq_true,Nat.testBit_two_pow,decide_eq_true_iff];exact or_congr Iff.rfl (by omega)
theorem SetN.zero (a:N<=16):SetN N 0/\∀ r:Int,0<=r->r < N -> ¬ bitP 0 r:=by
 refine ⟨⟨a,0,rfl,Nat.pow_pos (by omega)⟩,fun r b c => ?_⟩;obtain ⟨j,rfl⟩:∃ j:Nat,r=j:=⟨r.toNat,by omega⟩;have:=zvM (m:=0) (by omega) (q:=j) (by omega);rw [show ((0:Nat):Int)=0 from rfl] at this;rw [this];simp
end
open Classical in
def zAi (p:Int->Prop):Nat->Int
 | 0=>0
 | k+1=>if p (k:Int) then ior .i64 (zAi p k) (ishl .i64 1 (k:Int)) else zAi p k
theorem zzt {N:Nat} (f:N<=16) (p:Int->Prop):∀ k:Nat,k<=N->SetN N (zAi p k)/\∀ r:Int,0<=r->r < N->(bitP (zAi p k) r↔r < k/\p r)
 | 0,_=>⟨(SetN.zero f).1,fun r b d=>⟨fun h=>absurd h ((SetN.zero f).2 r b d),fun h=>by omega⟩⟩
 | k+1,hk=>by
  obtain ⟨i,j⟩:=zzt f p k (by omega);unfold zAi;by_cases c:p (k:Int)
  ·rw [if_pos c];obtain ⟨l,_,m⟩:=i.or (q:=(k:Int)) (by omega) (by omega);refine ⟨l,fun r b d => ?_⟩;rw [m r b d,j r b d];constructor
   ·rintro (⟨g,a⟩ | rfl)
    ·exact ⟨by omega,a⟩
    ·exact ⟨by omega,c⟩
   ·rintro ⟨g,a⟩;by_cases e:r=k
    ·exact .inr e
    ·exact .inl ⟨by omega,a⟩
  ·rw [if_neg c];refine ⟨i,fun r b d => ?_⟩;rw [j r b d];constructor
   ·rintro ⟨g,a⟩;exact ⟨by omega,a⟩
   ·rintro ⟨g,a⟩;by_cases e:r=k
    ·subst e;exact absurd a c
    ·exact ⟨by omega,a⟩
theorem PS.det {l:L3} {k:Int} {f:Fm} (h:PS l k f):∀ {g:Fm},PS l k g->f=g:=by
 induction h with
 | zero k m n o=>intro g i;cases i<;>first | rfl | (exfalso;omega)
 | p k m n o=>intro g i;cases i<;>first | rfl | (exfalso;omega)
 | q k m n o=>intro g i;cases i<;>first | rfl | (exfalso;omega)
 | neg k a m n o u e=>intro g i;cases i with
  | neg _ b _ _ _ r=>rw [e r]
  | _=>exfalso;omega
 | conj k a b m n o u r e j=>intro g i;cases i with
  | conj _ c d _ _ _ s t=>rw [e s,j t]
  | _=>exfalso;omega
 | disj k a b m n o u r e j=>intro g i;cases i with
  | disj _ c d _ _ _ s t=>rw [e s,j t]
  | _=>exfalso;omega
 | nx k a m n o u e=>intro g i;cases i with
  | nx _ b _ _ _ r=>rw [e r]
  | _=>exfalso;omega
 | til k a b m n o u r e j=>intro g i;cases i with
  | til _ c d _ _ _ s t=>rw [e s,j t]
  | _=>exfalso;omega
theorem PS.ex {l:L3} (o:WP l):∀ (m:Nat) (k:Int),k.toNat=m->0<=k->k < l.length->∃ f,PS l k f:=by
 intro m;induction m using Nat.strongRecOn with
 | ind m p=>
  intro k q b c;have d:∀ a:Int,0<=a->a < k->∃ f,PS l a f:=fun a i j=>p a.toNat (by omega) a rfl i (by omega)
  rcases o k b c with h | h | h | ⟨h,i,j⟩ | ⟨h,⟨i,j⟩,b0,b1⟩
  ·exact ⟨_,.zero k b c h⟩
  ·exact ⟨_,.p k b c h⟩
  ·exact ⟨_,.q k b c h⟩
  ·obtain ⟨f,e⟩:=d _ i j;rcases h with h | h
   ·exact ⟨_,.neg k f b c h e⟩
   ·exact ⟨_,.nx k f b c h e⟩
  ·obtain ⟨f,e⟩:=d _ i j;obtain ⟨g,n⟩:=d _ b0 b1;rcases h with h | h | h
   ·exact ⟨_,.conj k f g b c h e n⟩
   ·exact ⟨_,.disj k f g b c h e n⟩
   ·exact ⟨_,.til k f g b c h e n⟩
def pos (l:L3) (i:Int):Int:=tmd (l.take i.toNat)
def ValP (l:L3) (u:Nat->Int) (V:Int->Nat->Prop) (i:Int) (t:Nat):Prop:=
 ((ix l i).1=1/\(u t=1\/u t=3))\/((ix l i).1=2/\(u t=2\/u t=3))\/((ix l i).1=3 /\ ¬ V (ix l i).2.1 t)\/((ix l i).1=4/\V (ix l i).2.1 t/\V (ix l i).2.2.1 t)\/((ix l i).1=5/\(V (ix l i).2.1 t\/V (ix l i).2.2.1 t))\/
 ((ix l i).1=6/\V (ix l i).2.1 (t+1))\/((ix l i).1=7/\(V (ix l i).2.2.1 t\/V (ix l i).2.1 t/\V i (t+1)))
structure Val (l:L3) (u:Nat->Int) (V:Int->Nat->Prop):Prop where
 e:∀ (i:Int) t,0<=i->i < l.length->(V i t↔ValP l u V i t)
 w:∀ (i:Int) t,0<=i->i < l.length->(ix l i).1=7->V i t->∃ s,V (ix l i).2.2.1 (t+s)
def Vt (l:L3) (n h:Int) (lt:Int->Int) (i:Int) (t:Nat):Prop:=∃ g,PS l i g/\Hd n h lt g (it n h t 0)
theorem zwi (n h:Int) (t:Nat) (i:Int):it n h (t+1) i=nxt n h (it n h t i):=by rw [ztW];rfl
theorem Vt.iff {l:L3} {n h:Int} {lt:Int->Int} {i:Int} {t:Nat} {g:Fm} (a:PS l i g):Vt l n h lt i t↔Hd n h lt g (it n h t 0):=
 ⟨fun ⟨f,h1,h2⟩=>by rw [a.det h1];exact h2,fun h=>⟨g,a,h⟩⟩
theorem zFu {l:L3} (hw:WP l) (n h:Int) (lt:Int->Int):Val l (fun t=>lt (it n h t 0)) (Vt l n h lt) where
 e i t i0 i1:=by
  obtain ⟨g,hg⟩:=PS.ex hw _ i rfl i0 i1;rw [Vt.iff hg];unfold ValP;cases hg with
  | zero _ _ _ hk=>simp [hk,Hd]
  | p _ _ _ hk=>simp [hk,Hd]
  | q _ _ _ hk=>simp [hk,Hd]
  | neg _ a _ _ hk ha=>simp [hk,Hd,Vt.iff ha]
  | conj _ a b _ _ hk ha hb=>simp [hk,Hd,Vt.iff ha,Vt.iff hb]
  | disj _ a b _ _ hk ha hb=>simp [hk,Hd,Vt.iff ha,Vt.iff hb]
  | nx _ a _ _ hk ha=>simp [hk,Hd,Vt.iff ha,zwi]
  | til _ a b h0 h1 hk ha hb=>
   have ht:=PS.til i a b h0 h1 hk ha hb;simp only [hk,Int.reduceEq,false_and,false_or,true_and,Vt.iff ha,Vt.iff hb,Vt.iff ht,zwi];exact Un.step
 w i t i0 i1 hk hv:=by
  obtain ⟨g,hg,hh⟩:=hv;cases hg with
  | til _ a b h0 h1 _ ha hb=>
   obtain ⟨k,h1,_⟩:=hh;exact ⟨k,(Vt.iff hb).2 (by rw [ztW];exact h1)⟩
  | _=>exfalso;omega
def NowP (l:L3) (x bits:Int) (v:List Bool) (i:Int):Prop:=
 ((ix l i).1=1/\(x=1\/x=3))\/((ix l i).1=2/\(x=2\/x=3))\/((ix l i).1=3 /\ ¬ ix v (ix l i).2.1=true)\/((ix l i).1=4/\ix v (ix l i).2.1=true/\ix v (ix l i).2.2.1=true)\/((ix l i).1=5/\(ix v (ix l i).2.1=true\/ix v (ix l i).2.2.1=true))\/
 ((ix l i).1=6/\bitP bits (pos l i))\/((ix l i).1=7/\(ix v (ix l i).2.2.1=true\/ix v (ix l i).2.1=true/\bitP bits (pos l i)))
structure NowOk (l:L3) (x bits:Int) (v:List Bool):Prop where
 n:v.length=l.length
 e:∀ i:Int,0<=i->i < l.length->(ix v i=true↔NowP l x bits v i)
def atN (l:L3) (i:Int):Int:=if (ix l i).1=6 then (ix l i).2.1 else i
def zvJ (l:L3) (i:Int):Prop:=0<=i/\i < l.length/\((ix l i).1=6\/(ix l i).1=7)
theorem zDT {l:L3} (j:WP l) {u:Nat->Int} {V:Int->Nat->Prop} (k:Val l u V) {t:Nat} {bits:Int} {v:List Bool} (n:NowOk l (u t) bits v) (g:∀ i:Int,zvJ l i->(bitP bits (pos l i)↔V (atN l i) (t+1))):
  ∀ (m:Nat) (i:Int),i.toNat=m->0<=i->i < l.length->(ix v i=true↔V i t):=by
 intro m;induction m using Nat.strongRecOn with
 | ind m o=>
  intro i p e f;have b:∀ a:Int,0<=a->a < i->(ix v a=true↔V a t):=fun a c d=>o a.toNat (by omega) a rfl c (by omega)
  rw [n.e i e f,k.e i t e f];unfold NowP ValP;rcases j i e f with h | h | h | ⟨h,c,d⟩ | ⟨h,⟨c,d⟩,b0,b1⟩
  ·simp [h]
  ·simp [h]
  ·simp [h]
  ·rcases h with h | h
   ·simp [h,b _ c d]
   ·have:=g i ⟨e,f,.inl h⟩;unfold atN at this;rw [if_pos h] at this;simp [h,this]
  ·rcases h with h | h | h
   ·simp [h,b _ c d,b _ b0 b1]
   ·simp [h,b _ c d,b _ b0 b1]
   ·have:=g i ⟨e,f,.inr h⟩;unfold atN at this;rw [if_neg (by omega)] at this;simp [h,b _ c d,b _ b0 b1,this]
theorem zD4 {l:L3} (A:WP l) {u:Nat->Int} {V:Int->Nat->Prop} (e:Val l u V) {bits:Nat->Int} {v:Nat->List Bool} (f:∀ t,NowOk l (u t) (bits t) (v t)) (q:∀ t (i:Int),zvJ l i->(bitP (bits t) (pos l i)↔ix (v (t+1)) (atN l i)=true))
  (B:∀ (i:Int) t,0<=i->i < l.length->(ix l i).1=7->(∀ s,ix (v (t+s)) i=true)->∃ s,ix (v (t+s)) (ix l i).2.2.1=true):∀ (m:Nat) (i:Int),i.toNat=m->0<=i->i < l.length->∀ t,(ix (v t) i=true↔V i t):=by
 intro m;induction m using Nat.strongRecOn with
 | ind m E=>
  intro i F b c t;have d:∀ a:Int,0<=a->a < i->∀ t,(ix (v t) a=true↔V a t):=fun a j n t=>E a.toNat (by omega) a rfl j (by omega) t
  have H:=f;rcases A i b c with h | h | h | ⟨h,j,n⟩ | ⟨h,⟨j,n⟩,b0,b1⟩
  ·rw [(f t).e i b c,e.e i t b c];unfold NowP ValP;simp [h]
  ·rw [(f t).e i b c,e.e i t b c];unfold NowP ValP;simp [h]
  ·rw [(f t).e i b c,e.e i t b c];unfold NowP ValP;simp [h]
  ·rcases h with h | h
   ·rw [(f t).e i b c,e.e i t b c];unfold NowP ValP;simp [h,d _ j n]
   ·have:=q t i ⟨b,c,.inl h⟩;unfold atN at this;rw [if_pos h,d _ j n] at this;rw [(f t).e i b c,e.e i t b c];unfold NowP ValP;simp [h,this]
  ·rcases h with h | h | h
   ·rw [(f t).e i b c,e.e i t b c];unfold NowP ValP;simp [h,d _ j n,d _ b0 b1]
   ·rw [(f t).e i b c,e.e i t b c];unfold NowP ValP;simp [h,d _ j n,d _ b0 b1]
   ·have r:∀ t,(ix (v t) i=true↔(V (ix l i).2.2.1 t\/V (ix l i).2.1 t/\ix (v (t+1)) i=true)):=fun t=>by
     have:=q t i ⟨b,c,.inr h⟩;unfold atN at this;rw [if_neg (by omega)] at this;rw [(f t).e i b c];unfold NowP;simp [h,d _ j n,d _ b0 b1,this]
    have o:∀ t,(V i t↔(V (ix l i).2.2.1 t\/V (ix l i).2.1 t/\V i (t+1))):=fun t=>by
     rw [e.e i t b c];unfold ValP;simp [h]
    constructor
    ·intro x;refine Classical.byContradiction fun w => ?_
     have all:∀ s,ix (v (t+s)) i=true /\ ¬ V i (t+s):=fun s=>by
      induction s with
      | zero=>exact ⟨x,w⟩
      | succ s p=>
       obtain ⟨D,z⟩:=p;rw [o] at z;rcases (r _).1 D with k | ⟨k1,k2⟩
       ·exact absurd (.inl k) z
       ·exact ⟨k2,fun C=>z (.inr ⟨k1,C⟩)⟩
     obtain ⟨s,hs⟩:=B i t b c h fun s=>(all s).1
     exact (all s).2 ((o _).2 (.inl ((d _ b0 b1 _).1 hs)))
    ·intro g;obtain ⟨s,hs⟩:=e.w i t b c h g;have y:∀ (s t:Nat),V i t->V (ix l i).2.2.1 (t+s)->ix (v t) i=true:=by
      intro s;induction s with
      | zero=>intro t _ q;exact (r t).2 (.inl q)
      | succ s p=>
       intro t g q;rcases (o t).1 g with k | ⟨k1,k2⟩
       ·exact (r t).2 (.inl k)
       ·exact (r t).2 (.inr ⟨k1,p (t+1) k2 (by rw [show t+1+s=t+(s+1) by omega];exact q)⟩)
     exact y s t g hs
def tlN (l:L3):Nat->List Int
 | 0=>[]
 | t+1=>tlN l t++if (ix l (t:Int)).1=6\/(ix l (t:Int)).1=7 then [(t:Int)] else []
def wlN (l:L3):Nat->List Int
 | 0=>[]
 | t+1=>wlN l t++if (ix l (t:Int)).1=7 then [(t:Int)] else []
theorem zto (l:L3) (t:Nat):tlN l (t+1)=tlN l t++if (ix l (t:Int)).1=6\/(ix l (t:Int)).1=7 then [(t:Int)] else []:=rfl
theorem zzy (l:L3) (t:Nat):wlN l (t+1)=wlN l t++if (ix l (t:Int)).1=7 then [(t:Int)] else []:=rfl
theorem zBC (l:L3) (t:Nat):0<=pos l (t:Int)/\pos l (t:Int)<=t:=by
 unfold pos tmd;rw [Int.toNat_natCast];refine ⟨by omega,?_⟩;have a:∀ p:N3->Bool,((l.take t).filter p).length<=t:=fun p=>Nat.le_trans (List.length_filter_le _ _) (by rw [List.length_take];omega)
 exact_mod_cast a _
theorem zzh (l:L3):pos l 0=0:=by unfold pos tmd;simp
theorem zzg {l:L3} {t:Nat} (h:t < l.length):pos l ((t+1:Nat):Int)=pos l (t:Int)+if (ix l (t:Int)).1=6\/(ix l (t:Int)).1=7 then 1 else 0:=by
 unfold pos;rw [Int.toNat_natCast,Int.toNat_natCast,List.take_add_one,List.getElem?_eq_getElem h];show tmd (l.take t++[l[t]])=_;rw [zfm,zoo (by omega) (by omega)];rfl
theorem zwH {l:L3}:∀ t:Nat,t<=l.length->((tlN l t).length:Int)=pos l t
 | 0,_=>(zzh l).symm
 | t+1,h=>by
  rw [zzg (by omega),<- zwH t (by omega),zto];split<;>simp
theorem zuD {l:L3}:∀ (t:Nat),t<=l.length->(∀ k:Int,0<=k->k < (tlN l t).length->zvJ l (ix (tlN l t) k)/\pos l (ix (tlN l t) k)=k)/\∀ i,zvJ l i->i < t->pos l i < (tlN l t).length/\ix (tlN l t) (pos l i)=i
 | 0,_=>⟨fun k b d=>by simp [tlN] at d;omega,fun i a h=>by have:=a.1;omega⟩
 | t+1,h=>by
  obtain ⟨g,j⟩:=zuD (l:=l) t (by omega);have m:=zwH (l:=l) t (by omega);rw [zto];by_cases c:(ix l (t:Int)).1=6\/(ix l (t:Int)).1=7
  ·rw [if_pos c];refine ⟨fun k b d => ?_,fun i a f => ?_⟩
   ·by_cases e:k < (tlN l t).length
    ·rw [zaq b e];exact g k b e
    ·have:k=(tlN l t).length:=by simp at d;omega
     subst this;rw [zas];exact ⟨⟨by omega,by omega,c⟩,by omega⟩
   ·by_cases e:i < t
    ·obtain ⟨o,p⟩:=j i a e;have n:0<=pos l i:=by unfold pos tmd;omega
     exact ⟨by simp;omega,by rw [zaq n o];exact p⟩
    ·have:i=t:=by omega
     subst this;rw [<- m];exact ⟨by simp;omega,zas⟩
  ·rw [if_neg c,List.append_nil];refine ⟨g,fun i a f=>j i a ?_⟩;by_cases e:i=t
   ·subst e;exact absurd a.2.2 c
   ·omega
theorem zuJ {l:L3}:∀ (t:Nat),t<=l.length->(∀ i∈wlN l t,0<=i/\i < l.length/\(ix l i).1=7)/\(∀ i:Int,0<=i->i < t->(ix l i).1=7->i∈wlN l t)/\(wlN l t).length<=(tlN l t).length
 | 0,_=>⟨fun i a=>(by cases a),fun i k d=>(by omega),Nat.le_refl _⟩
 | t+1,h=>by
  obtain ⟨d,g,m⟩:=zuJ (l:=l) t (by omega);rw [zzy,zto];by_cases c:(ix l (t:Int)).1=7
  ·rw [if_pos c,if_pos (.inr c)];refine ⟨fun i a => ?_,fun i f j b => ?_,by simp;omega⟩
   ·rcases List.mem_append.1 a with a | a
    ·exact d i a
    ·rw [List.mem_singleton.1 a];exact ⟨by omega,by omega,c⟩
   ·by_cases e:i < t
    ·exact List.mem_append_left _ (g i f e b)
    ·have:i=t:=by omega
     rw [this];exact List.mem_append_right _ (List.mem_singleton.2 rfl)
  ·rw [if_neg c,List.append_nil];refine ⟨d,fun i f j b=>g i f ?_ b,by split<;>simp<;>omega⟩;by_cases e:i=t
   ·subst e;exact absurd b c
   ·omega
abbrev tl (l:L3):List Int:=tlN l l.length
abbrev wl (l:L3):List Int:=wlN l l.length
theorem zFs (l:L3):((tl l).length:Int)=tmd l:=by
 rw [zwH _ (Nat.le_refl _)];unfold pos;rw [Int.toNat_natCast,List.take_length]
theorem L7_eq {l:L3} (h:(l.length:Int)<=150):∀ (m t:Nat),l.length - t=m->t<=l.length->zeT l (t:Int) l (wlN l t) (tlN l t)=zeT l (l.length:Int) l (wl l) (tl l):=by
 intro m;induction m with
 | zero=>
  intro t d e;have:t=l.length:=by omega
  subst this;rfl
 | succ m g=>
  intro t d e;have f:t < l.length:=by omega
  have i:(tlN l t).length<=150:=by
   have j:=zwH (l:=l) t (by omega);have k:=(zBC l t).2;omega
  have n:=(zuJ (l:=l) t (by omega)).2.2;have:=g (t+1) (by omega) (by omega);rw [<- this]
  conv=>lhs;rw [zoT]
  unfold ze2;rw [if_pos (decide_eq_true (by omega)),zae (by omega)];have b:fits ((t:Int)+1):=za4 (by omega) (by omega);unfold zig zg2;rw [zto,zzy];by_cases c:(ix l (t:Int)).1=6
  ·have a : ¬ (ix l (t:Int)).1=7:=by omega
   rw [if_pos (decide_eq_true c),if_pos rfl,zae (znq (by simp;omega)),if_neg (by simpa using a),zae b,if_neg a,List.append_nil,if_pos (.inl c)];rfl
  ·rw [if_neg (by simpa using c)];by_cases a:(ix l (t:Int)).1=7
   ·rw [if_pos (decide_eq_true a),zae (znq (by simp;omega)),if_pos (decide_eq_true a),zae (znq (by simp;omega)),zae b,if_pos a,if_pos (.inr a)];rfl
   ·rw [if_neg (by simpa using a),if_neg (by simpa using a),zae b,if_neg a,List.append_nil,if_neg (by omega),List.append_nil];rfl
theorem zBt {l:L3} {x bits:Int} {v w:List Bool} {i:Int} (b:WPn i (ix l i)) (h:∀ a:Int,0<=a->a < i->ix v a=ix w a):NowP l x bits v i↔NowP l x bits w i:=by
 unfold NowP;rcases b with hk | hk | hk | ⟨hk,a0,a1⟩ | ⟨hk,⟨a0,a1⟩,b0,b1⟩
 ·simp [hk]
 ·simp [hk]
 ·simp [hk]
 ·rw [h _ a0 a1];rcases hk with hk | hk<;>simp [hk]
 ·rw [h _ a0 a1,h _ b0 b1]
theorem letters {x:Int} (a:0<=x) (b:x < 4):(iand .i64 x 1=1↔x=1\/x=3)/\(iand .i64 x 2=2↔x=2\/x=3):=by
 have:x=0\/x=1\/x=2\/x=3:=by omega
 rcases this with rfl | rfl | rfl | rfl<;>decide+kernel
theorem zE8 {l:L3} (C:WP l) (Y:(l.length:Int)<=150) {x bits:Int} (F:0<=x) (H:x < 4) {T:List Int}:∀ (m t:Nat) (v:List Bool),l.length - t=m->t<=l.length->v.length=l.length->(∀ i:Int,0<=i->i < t->(ix v i=true↔NowP l x bits v i))->
  ∃ r,zek (l,(T,())) x bits (pos l t) (t:Int) v=some r/\NowOk l x bits r:=by
 intro m;induction m with
 | zero=>
  intro t v N O u y;rw [zkj];unfold zcu;have:t=l.length:=by omega
  subst this;rw [if_neg (by simp)];exact ⟨v,rfl,u,y⟩
 | succ m X=>
  intro t v N O u y;have z:t < l.length:=by omega
  have h:=C (t:Int) (by omega) (by omega);have f:=zzg z;obtain ⟨B,U⟩:=zBC l t;have step:∀ b:Bool,(b=true↔NowP l x bits v (t:Int))->∃ r,zek (l,(T,())) x bits (pos l ((t+1:Nat):Int)) ((t:Int)+1) (v.set t b)=some r/\NowOk l x bits r:=fun b I=>by
   refine X (t+1) (v.set t b) (by omega) (by omega) (by simpa using u) fun i s Z => ?_
   have k:∀ a:Int,0<=a->a < t->ix (v.set t b) a=ix v a:=fun a d o=>by
    have:=zel (l:=v) (i:=(t:Int)) (x:=b) (j:=a) (by omega) d (by omega)
    rwa [Int.toNat_natCast] at this
   rw [zBt (w:=v) (C i s (by omega)) (fun a d o=>k a d (by omega))];by_cases e:i < t
   ·rw [k i s e];exact y i s e
   ·have:i=t:=by omega
    subst this;have:=zfM (l:=v) (i:=(t:Int)) (x:=b) (by omega) (by omega);rw [Int.toNat_natCast] at this;rw [this];exact I
  have P:fits ((t:Int)+1):=za4 (by omega) (by omega);have Q:fits (pos l (t:Int)+1):=za4 (by omega) (by omega);have R:0<=(t:Int)/\(t:Int) < (v.length:Int):=by omega
  have S:t < v.length:=by omega
  rw [zkj];unfold zcu;dsimp only;rw [if_pos (decide_eq_true (show (t:Int) < (l.length:Int) by omega)),zae ⟨by omega,by omega⟩];simp only [zae R,zae S,zae P,zae Q,zae B,Int.toNat_natCast];by_cases p:(ix l (t:Int)).1=6
  ·rw [if_pos (decide_eq_true p),show pos l (t:Int)+1=pos l ((t+1:Nat):Int) by rw [f,if_pos (.inl p)]];exact step _ (by rw [decide_eq_true_iff];unfold NowP bitP;simp [p])
  rw [if_neg (by simpa using p)];by_cases g:(ix l (t:Int)).1=7
  ·rw [if_pos (decide_eq_true g),show pos l (t:Int)+1=pos l ((t+1:Nat):Int) by rw [f,if_pos (.inr g)]];rcases h with c | c | c | ⟨c,_⟩ | ⟨_,⟨d,o⟩,b0,b1⟩
   ·omega
   ·omega
   ·omega
   ·omega
   rw [zae ⟨b0,by omega⟩,zae (by omega)];by_cases n:ix v (ix l (t:Int)).2.2.1=true
   ·rw [if_pos n];exact step true (by unfold NowP;simp [g,n])
   rw [if_neg n,zae ⟨d,by omega⟩,zae (by omega)];by_cases q:ix v (ix l (t:Int)).2.1=true
   ·rw [if_pos q];exact step _ (by rw [decide_eq_true_iff];unfold NowP bitP;simp [g,n,q])
   ·rw [if_neg q];exact step false (by unfold NowP;simp [g,n,q])
  rw [if_neg (by simpa using g)];have A:pos l (t:Int)=pos l ((t+1:Nat):Int):=by rw [f,if_neg (by omega)];omega
  rw [A];obtain ⟨V,W⟩:=letters F H;have fin:∀ b,zfA (ix l (t:Int)) x v=some b->(b=true↔NowP l x bits v (t:Int))->∃ r,((zfA ((ix l (t:Int)).1,((ix l (t:Int)).2.1,((ix l (t:Int)).2.2.1,()))) x v).bind fun J=>zek (l,(T,())) x bits (pos l ((t+1:Nat):Int)) ((t:Int)+1) (v.set t J))=some r/\NowOk l x bits r:=fun b L M=>by
   rw [show zfA ((ix l (t:Int)).1,((ix l (t:Int)).2.1,((ix l (t:Int)).2.2.1,()))) x v=some b from L];exact step b M
  unfold zfA at fin;rcases h with c | c | c | ⟨c,d,o⟩ | ⟨c,⟨d,o⟩,b0,b1⟩
  ·exact fin false (by simp [c]) (by unfold NowP;simp [c])
  ·exact fin (decide (iand .i64 x 1=1)) (by simp [c]) (by unfold NowP;simp [c,V])
  ·exact fin (decide (iand .i64 x 2=2)) (by simp [c]) (by unfold NowP;simp [c,W])
  ·have c:(ix l (t:Int)).1=3:=by omega
   exact fin (!(ix v (ix l (t:Int)).2.1)) (by simp only [c];simp;exact zae ⟨d,by omega⟩) (by unfold NowP;simp [c])
  ·have D:0<=(ix l (t:Int)).2.1/\(ix l (t:Int)).2.1 < (v.length:Int):=⟨d,by omega⟩;have E:0<=(ix l (t:Int)).2.2.1/\(ix l (t:Int)).2.2.1 < (v.length:Int):=⟨b0,by omega⟩;have c:(ix l (t:Int)).1=4\/(ix l (t:Int)).1=5:=by omega
   rcases c with c | c
   ·refine fin (ix v (ix l (t:Int)).2.1 && ix v (ix l (t:Int)).2.2.1) ?_ (by unfold NowP;simp [c]);simp only [c,Int.reduceEq,decide_false,decide_true,Bool.false_eq_true,if_false,if_true,zae D,zae E];cases ix v (ix l (t:Int)).2.1<;>simp
   ·refine fin (ix v (ix l (t:Int)).2.1 || ix v (ix l (t:Int)).2.2.1) ?_ (by unfold NowP;simp [c]);simp only [c,Int.reduceEq,decide_false,decide_true,Bool.false_eq_true,if_false,if_true,zae D,zae E];cases ix v (ix l (t:Int)).2.1<;>simp
theorem zE9 {l:L3} (a:WP l) (b:(l.length:Int)<=150) {x bits:Int} (c:0<=x) (d:x < 4) {T:List Int}:∃ v,zgk (l,(T,())) x bits=some v/\NowOk l x bits v:=by
 unfold zgk;show ∃ v,G (mkOK (l.length:Int) (l.length:Int) 1) _=some v/\_;rw [zae ⟨by omega,by omega,by omega⟩];have:=zE8 a b (x:=x) (bits:=bits) c d (T:=T) _ 0 (List.replicate l.length false) rfl (by omega) (by simp) (fun i e f=>by omega);rw [show pos l ((0:Nat):Int)=0 from zzh l] at this;rw [show ((l.length:Int)).toNat=l.length from Int.toNat_natCast _];exact this
def MtP (l:L3) (v:List Bool) (told:Int):Prop:=∀ k:Int,0<=k->k < (tl l).length->(ix v (atN l (ix (tl l) k))=true↔bitP told k)
open Classical in
theorem zCt {l:L3} (o:WP l) (x:(l.length:Int)<=150) {v:List Bool} (y:v.length=l.length) {told:Int} (z:((tl l).length:Int)<=5):zhL (l,(tl l,())) v told=some (decide (MtP l v told)):=by
 unfold zhL;have s:∀ k:Int,0<=k->k < (tl l).length->zvJ l (ix (tl l) k)/\pos l (ix (tl l) k)=k:=(zuD (l:=l) l.length (Nat.le_refl _)).1;have f:∀ t:Int,0<=t->t < (tl l).length->zez (l,(tl l,())) v told t=if decide (¬ ix v (atN l (ix (tl l) t))=decide (iand .i64 (ishr .i64 told t) 1=1))=true then some false else zez (l,(tl l,())) v told (t+1):=fun t b d=>by
  conv=>lhs;rw [zi1]
  unfold zca zdj;dsimp only;rw [if_pos (decide_eq_true d)];obtain ⟨⟨g,j,A⟩,_⟩:=s t b d;have i:=o _ g j;have m:fits (t+1):=za4 (by omega) (by omega);rw [zae ⟨b,d⟩,zae ⟨g,j⟩];unfold atN;by_cases c:(ix l (ix (tl l) t)).1=6
  ·have u:0<=(ix l (ix (tl l) t)).2.1/\(ix l (ix (tl l) t)).2.1 < (v.length:Int):=by
    rcases i with h | h | h | ⟨h,a0,a1⟩ | ⟨h,⟨a0,a1⟩,b0,b1⟩<;>omega
   rw [if_pos (decide_eq_true c),zae ⟨g,j⟩,if_pos c,zae u,zae b,zae m]
  ·rw [if_neg (by simpa using c),if_neg c,zae ⟨g,by omega⟩,zae b,zae m]
 have n:∀ t:Int,(ix v (atN l (ix (tl l) t))=decide (iand .i64 (ishr .i64 told t) 1=1))↔(ix v (atN l (ix (tl l) t))=true↔bitP told t):=fun t=>by
  unfold bitP;cases ix v (atN l (ix (tl l) t))<;>by_cases c:iand .i64 (ishr .i64 told t) 1=1<;>simp [c]
 refine zBP (len:=((tl l).length:Int)) (bad:=fun t => ¬ (ix v (atN l (ix (tl l) t))=true↔bitP told t)) (lo:=0) (by omega) (fun t b d=>⟨fun a => ?_,fun a => ?_⟩) (fun p => ?_)
 ·have w : ¬ ix v (atN l (ix (tl l) t))=decide (iand .i64 (ishr .i64 told t) 1=1):=fun e=>a ((n t).1 e)
  rw [f t b d,if_pos (decide_eq_true w),decide_eq_false (fun h=>a (h t b d))]
 ·rw [f t b d,if_neg (by simpa using (n t).2 (Classical.not_not.1 a))]
 ·rw [zi1];unfold zca;dsimp only;rw [if_neg (by simp),decide_eq_true (show MtP l v told from fun k q r=>Classical.not_not.1 (p k q r))]
def toF (l:L3) (v:List Bool) (k:Int):Int:=if k=(wl l).length then 0 else if ix v (ix l (ix (wl l) k)).2.2.1=true \/ ¬ ix v (ix (wl l) k)=true then k+1 else k
def uN (l:L3):Nat:=(wl l).length+1
def zxU (l:L3) (x bits told:Int) (v:List Bool) (k:Int):Stp:=(told * uN l+k,x,bits * uN l+toF l v k,())
def nv (l:L3) (x bits:Int):List Bool:=(zgk (l,(tl l,())) x bits).getD []
open Classical in
def st31 (l:L3) (x bits:Int) (told:Nat):List Stp:=if MtP l (nv l x bits) told then (List.range (uN l)).map fun (k:Nat)=>zxU l x bits told (nv l x bits) (k:Int) else []
def st25 (l:L3) (x:Int) (bits:Nat):List Stp:=(if ix (nv l x bits) ((l.length:Int) - 1)=true then [(((2 ^ (tl l).length:Nat):Int) * uN l,x,(bits:Int) * uN l,())] else [])++(List.range (2 ^ (tl l).length)).flatMap (st31 l x bits)
def st22 (l:L3) (x:Nat):List Stp:=(List.range (2 ^ (tl l).length)).flatMap (st25 l x)
def zsX (l:L3):List Stp:=(List.range 4).flatMap (st22 l)
def fins (l:L3):List Int:=(List.range (2 ^ (tl l).length)).map fun (t:Nat)=>(t:Int) * uN l+uN l - 1
theorem zqG {α β:Type} {F:α->List β} {c:Nat}:∀ {l:List α},(∀ x∈l,(F x).length<=c)->(l.flatMap F).length<=l.length * c
 | [],_=>by simp
 | x::l,h=>by
  rw [List.flatMap_cons,List.length_append,List.length_cons];have b:=h x (List.mem_cons_self ..);have d:=zqG (l:=l) (fun y a=>h y (List.mem_cons_of_mem _ a));rw [Nat.succ_mul];omega
theorem zmR {n k:Nat} (h:k < n):(List.range n).drop k=k::(List.range n).drop (k+1):=by
 rw [List.drop_eq_getElem_cons (by simpa using h),List.getElem_range]
structure TL (l:L3):Prop where
 w:WP l
 n:(l.length:Int)<=150
 p:0 < l.length
 t:tmd l<=5
section
variable {l:L3}
theorem TL.htl (h:TL l):(tl l).length<=5:=by have:=zFs l;have:=h.t;omega
theorem TL.hwl (h:TL l):(wl l).length<=5:=Nat.le_trans (zuJ (l:=l) _ (Nat.le_refl _)).2.2 h.htl
theorem TL.all (h:TL l):1<=2 ^ (tl l).length/\2 ^ (tl l).length<=32:=⟨Nat.pow_pos (by omega),Nat.pow_le_pow_right (n:=2) (by omega) h.htl⟩
theorem TL.shl (h:TL l):ishl .i64 (1:Int) ((tl l).length:Int)=((2 ^ (tl l).length:Nat):Int):=by
 have a:=h.all;have b:=h.htl;have:=zy7 (m:=1) (k:=(tl l).length) (by omega) (by omega);rw [Nat.shiftLeft_eq,Nat.one_mul] at this;exact this
theorem TL.hnv (h:TL l) {x bits:Int} (a:0<=x) (b:x < 4):zgk (l,(tl l,())) x bits=some (nv l x bits)/\NowOk l x bits (nv l x bits):=by
 obtain ⟨v,e,c⟩:=zE9 h.w h.n (x:=x) (bits:=bits) a b (T:=tl l);have:nv l x bits=v:=by unfold nv;rw [e];rfl
 rw [this];exact ⟨e,c⟩
theorem TL.wlm (h:TL l) {k:Int} (d:0<=k) (e:k < (wl l).length):(0<=ix (wl l) k/\ix (wl l) k < l.length)/\(ix l (ix (wl l) k)).1=7/\(0<=(ix l (ix (wl l) k)).2.2.1/\(ix l (ix (wl l) k)).2.2.1 < l.length):=by
 have a:ix (wl l) k∈wl l:=zlH d e;generalize ix (wl l) k=i at a ⊢;obtain ⟨b,c,f⟩:=(zuJ (l:=l) _ (Nat.le_refl _)).1 i a;refine ⟨⟨b,c⟩,f,?_⟩;rcases h.w _ b c with g | g | g | ⟨g,a0,a1⟩ | ⟨g,⟨a0,a1⟩,b0,b1⟩<;>omega
theorem zEG (h:TL l) {x bits told:Int} (A:0<=x) (B:x < 4) (C:0<=bits) (D:bits<=32) (E:0<=told) (F:told<=32) {r31:Int->Int->Int->List Int->List Stp->List Int->Option (Au×Int)} {a b:Int} {s f:List Int}:
  ∀ (m k:Nat) (c:List Stp),uN l - k=m->k<=uN l->c.length+(uN l - k)<=1000000->
   zeS l (wl l) x bits (nv l x bits) told r31 (k:Int) a b s c f=r31 (told+1) a b s (c++((List.range (uN l)).drop k).map fun (k:Nat)=>zxU l x bits told (nv l x bits) (k:Int)) f:=by
 have N:=h.hwl;have O:=(h.hnv (x:=x) (bits:=bits) A B).2.n;have P:=h.n;intro m;induction m with
 | zero=>
  intro k c w y n;rw [znR];unfold zex;have g : ¬ (k:Int) < (wl l).length+1:=by unfold uN at w y;omega
  rw [if_neg (by simpa using g),zae (za4 (by omega) (by omega)),List.drop_of_length_le (by simp;omega),List.map_nil,List.append_nil]
 | succ m I=>
  intro k c w y n;have o:k < uN l:=by omega
  have g:(k:Int) < (wl l).length+1:=by unfold uN at o;omega
  have t:(uN l:Int)=(wl l).length+1:=by unfold uN;omega
  have u:fits ((k:Int)+1):=za4 (by omega) (by omega);have v:((wl l).length:Int)+1 - 1=(wl l).length:=by omega
  have H:fits ((wl l).length:Int):=za4 (by omega) (by omega);have d:∀ q:Int,0<=q->q<=32->0<=q * ((wl l).length+1)/\q * ((wl l).length+1)<=192:=fun q J L=>by
   have:((wl l).length:Int)=0\/((wl l).length:Int)=1\/((wl l).length:Int)=2\/((wl l).length:Int)=3\/((wl l).length:Int)=4\/((wl l).length:Int)=5:=by omega
   rcases this with e | e | e | e | e | e<;>rw [e]<;>omega
  obtain ⟨c1,Q⟩:=d told E F;obtain ⟨R,S⟩:=d bits C D;have fin:∀ i:Int,0<=i->i<=6->i=toF l (nv l x bits) k->zd5 (wl l) x bits told (k:Int) a b s c f (zeS l (wl l) x bits (nv l x bits) told r31) i=r31 (told+1) a b s (c++((List.range (uN l)).drop k).map fun (k:Nat)=>zxU l x bits told (nv l x bits) (k:Int)) f:=fun i M j e=>by
   unfold zd5;rw [zae (za4 (by omega) (by omega)),zae (za4 (by omega) (by omega)),zae (za4 (by omega) (by omega)),zae (za4 (by omega) (by omega)),zae (znq (by simp only [List.length_singleton];omega)),zae u];have:=I (k+1) (c++[(told * ((wl l).length+1)+k,(x,(bits * ((wl l).length+1)+i,())))]) (by omega) (by omega) (by simp only [List.length_append,List.length_singleton];omega);rw [zmR o,List.map_cons];refine this.trans ?_;rw [List.append_assoc];unfold zxU;rw [e,t];rfl
  conv=>lhs;rw [znR]
  unfold zex;rw [if_pos (decide_eq_true g),v,zae H];by_cases e:(k:Int)=(wl l).length
  ·rw [if_pos (decide_eq_true e)];exact fin 0 (by omega) (by omega) (by unfold toF;rw [if_pos e])
  rw [if_neg (by simpa using e)];have p:(k:Int) < (wl l).length:=by omega
  obtain ⟨⟨z,T⟩,w2,w3,w4⟩:=h.wlm (k:=(k:Int)) (by omega) p;rw [zae ⟨by omega,p⟩,zae (by omega),zae ⟨z,by omega⟩,zae ⟨w3,by omega⟩,zae (by omega)];by_cases j:ix (nv l x bits) (ix l (ix (wl l) (k:Int))).2.2.1=true
  ·rw [if_pos j,zae u];exact fin _ (by omega) (by omega) (by unfold toF;rw [if_neg e,if_pos (.inl j)])
  rw [if_neg j,zae ⟨z,by omega⟩,zae (by omega)];by_cases r:ix (nv l x bits) (ix (wl l) (k:Int))=true
  ·rw [if_neg (by simp [r])];exact fin _ (by omega) (by omega) (by unfold toF;rw [if_neg e,if_neg (by rintro (k | k);exact j k;exact k r)])
  ·rw [if_pos (by simp [r]),zae u];exact fin _ (by omega) (by omega) (by unfold toF;rw [if_neg e,if_pos (.inr r)])
theorem zwG (h:TL l) {x bits:Int} {told:Nat}:(st31 l x bits told).length<=6:=by
 have:=h.hwl;unfold st31;split
 ·rw [List.length_map,List.length_range];unfold uN;omega
 ·simp
theorem zzv (h:TL l) {x:Int} {bits:Nat}:(st25 l x bits).length<=193:=by
 have b:=h.all;have a:=zqG (F:=st31 l x bits) (c:=6) (l:=List.range (2 ^ (tl l).length)) (fun _ _=>zwG h);rw [List.length_range] at a;unfold st25;rw [List.length_append];have d:(if ix (nv l x bits) ((l.length:Int) - 1)=true then [(((2 ^ (tl l).length:Nat):Int) * uN l,x,(bits:Int) * uN l,())] else ([]:List Stp)).length<=1:=by split<;>simp
 omega
theorem zzu (h:TL l) {x:Nat}:(st22 l x).length<=6176:=by
 have b:=h.all;have a:=zqG (F:=st25 l x) (c:=193) (l:=List.range (2 ^ (tl l).length)) (fun _ _=>zzv h);rw [List.length_range] at a;unfold st22;omega
theorem zBQ (h:TL l):(zsX l).length<=24704:=by
 have a:=zqG (F:=st22 l) (c:=6176) (l:=List.range 4) (fun _ _=>zzu h);rw [List.length_range] at a;unfold zsX;omega
open Classical in
theorem zEF (h:TL l) {x bits:Int} (n:0<=x) (o:x < 4) (t:0<=bits) (u:bits<=32) {r25:Int->Int->Int->List Int->List Stp->List Int->Option (Au×Int)} {a b:Int} {s f:List Int}:
  ∀ (m k:Nat) (d:List Stp),2 ^ (tl l).length - k=m->k<=2 ^ (tl l).length->d.length+6 * (2 ^ (tl l).length - k)<=900000->
   zd7 l l (wl l) (tl l) x bits r25 (nv l x bits) (k:Int) a b s d f=r25 (bits+1) a b s (d++((List.range (2 ^ (tl l).length)).drop k).flatMap (st31 l x bits)) f:=by
 have A:=h.all;have B:=h.hwl;have y:=(h.hnv (x:=x) (bits:=bits) n o).2.n;intro m;induction m with
 | zero=>
  intro k d v w g;rw [znQ];unfold zew;rw [h.shl,if_neg (by simp only [decide_eq_true_eq];omega),zae (za4 (by omega) (by omega)),List.drop_of_length_le (by simp;omega),List.flatMap_nil,List.append_nil]
 | succ m r=>
  intro k d v w g;have i:k < 2 ^ (tl l).length:=by omega
  have z:uN l<=6:=by unfold uN;omega
  rw [zmR i,List.flatMap_cons]
  conv=>lhs;rw [znQ]
  unfold zew;rw [h.shl,if_pos (decide_eq_true (by omega)),zCt h.w h.n y (by have:=h.htl;omega)];simp only [Option.bind_some];have p:=zwG h (x:=x) (bits:=bits) (told:=k);by_cases c:MtP l (nv l x bits) (k:Int)
  ·rw [decide_eq_true c,if_neg (by simp)];have e:=zEG h (x:=x) (bits:=bits) (told:=(k:Int)) n o t u (by omega) (by omega) (r31:=zd7 l l (wl l) (tl l) x bits r25 (nv l x bits)) (a:=a) (b:=b) (s:=s) (f:=f) _ 0 d rfl (by omega) (by omega);rw [List.drop_zero] at e;refine e.trans ?_;have:=r (k+1) (d++(List.range (uN l)).map fun (q:Nat)=>zxU l x bits k (nv l x bits) (q:Int)) (by omega) (by omega) (by simp only [List.length_append,List.length_map,List.length_range];omega);refine this.trans ?_;rw [List.append_assoc];have j:st31 l x bits k=(List.range (uN l)).map fun (q:Nat)=>zxU l x bits k (nv l x bits) (q:Int):=by unfold st31;rw [if_pos c]
   rw [j]
  ·rw [decide_eq_false c,if_pos (by simp),zae (za4 (by omega) (by omega))];have:=r (k+1) d (by omega) (by omega) (by omega);refine this.trans ?_;have j:st31 l x bits k=[]:=by unfold st31;rw [if_neg c]
   rw [j,List.nil_append]
theorem zEE (h:TL l) {x:Nat} (E:x < 4) {r22:Int->Int->Int->List Int->List Int->List Stp->Option (Au×Int)} {a b:Int} {s f:List Int}:
  ∀ (m k:Nat) (g:List Stp),2 ^ (tl l).length - k=m->k<=2 ^ (tl l).length->g.length+193 * (2 ^ (tl l).length - k)<=800000->
   zd6 l l (wl l) (tl l) (x:Int) r22 (k:Int) a b s g f=r22 ((x:Int)+1) a b s f (g++((List.range (2 ^ (tl l).length)).drop k).flatMap (st25 l x)):=by
 have J:=h.all;have L:=h.hwl;have M:=h.p;have N:=h.n;intro m;induction m with
 | zero=>
  intro k g y z j;rw [znP];unfold zev;rw [h.shl,if_neg (by simp only [decide_eq_true_eq];omega),zae (za4 (by omega) (by omega)),List.drop_of_length_le (by simp;omega),List.flatMap_nil,List.append_nil]
 | succ m D=>
  intro k g y z j;have p:k < 2 ^ (tl l).length:=by omega
  have A:uN l<=6:=by unfold uN;omega
  obtain ⟨B,C⟩:=h.hnv (x:=(x:Int)) (bits:=(k:Int)) (by omega) (by omega);have O:=C.n;have r:((wl l).length:Int)+1=(uN l:Int):=by unfold uN;omega
  rw [zmR p,List.flatMap_cons]
  conv=>lhs;rw [znP]
  unfold zev zg3;rw [h.shl,if_pos (decide_eq_true (by omega)),B];simp only [Option.bind_some];have i:∀ q:Int,0<=q->q<=32->0<=q * (uN l:Int)/\q * (uN l:Int)<=192:=fun q H I=>by
   have t:1<=uN l:=by unfold uN;omega
   have:(uN l:Int)=1\/(uN l:Int)=2\/(uN l:Int)=3\/(uN l:Int)=4\/(uN l:Int)=5\/(uN l:Int)=6:=by omega
   rcases this with e | e | e | e | e | e<;>rw [e]<;>omega
  obtain ⟨P,Q⟩:=i ((2 ^ (tl l).length:Nat):Int) (by omega) (by omega);obtain ⟨R,S⟩:=i (k:Int) (by omega) (by omega);have u:=zzv h (x:=x) (bits:=k);have v:∀ d:List Stp,d.length<=g.length+1->st25 l x k=d.drop g.length++(List.range (2 ^ (tl l).length)).flatMap (st31 l x k)->d=g++d.drop g.length->zd7 l l (wl l) (tl l) (x:Int) (k:Int) (zd6 l l (wl l) (tl l) (x:Int) r22) (nv l x k) 0 a b s d f=r22 ((x:Int)+1) a b s f (g++(st25 l x k++((List.range (2 ^ (tl l).length)).drop (k+1)).flatMap (st25 l x))):=fun d w n o=>by
   have e:=zEF h (x:=(x:Int)) (bits:=(k:Int)) (by omega) (by omega) (by omega) (by omega) (r25:=zd6 l l (wl l) (tl l) (x:Int) r22) (a:=a) (b:=b) (s:=s) (f:=f) _ 0 d rfl (by omega) (by omega);rw [List.drop_zero] at e;refine e.trans ?_;have:=D (k+1) (d++(List.range (2 ^ (tl l).length)).flatMap (st31 l x k)) (by omega) (by omega) (by
    have t:=zqG (F:=st31 l x k) (c:=6) (l:=List.range (2 ^ (tl l).length)) (fun _ _=>zwG h);rw [List.length_range] at t;rw [List.length_append];omega)
   refine this.trans ?_
   conv=>lhs;rw [o]
   rw [n];simp only [List.append_assoc]
  rw [zae (za4 (by omega) (by omega)),zae ⟨by omega,by omega⟩,zae (by omega)];by_cases c:ix (nv l x k) ((l.length:Int) - 1)=true
  ·rw [if_pos c,r,zae (za4 (by omega) (by omega)),zae (za4 (by omega) (by omega)),zae (znq (by simp only [List.length_singleton];omega))];refine v _ (by simp) ?_ (by rw [List.drop_left'  rfl]);rw [List.drop_left' rfl];unfold st25;rw [if_pos c]
  ·rw [if_neg c];refine v g (by omega) ?_ (by rw [List.drop_length,List.append_nil]);rw [List.drop_length];unfold st25;rw [if_neg c]
theorem zED (h:TL l) {a b:Int} {s f:List Int}:∀ (m k:Nat) (c:List Stp),4 - k=m->k<=4->c.length+6176 * (4 - k)<=700000->
   zg4 l l (wl l) (tl l) (k:Int) a b s f c=(zhZ a b s (c++((List.range 4).drop k).flatMap (st22 l)) f).bind fun o=>some (o,0):=by
 have q:=h.all;intro m;induction m with
 | zero=>
  intro k c j n d;rw [znO];unfold zeu;rw [if_neg (by simp only [decide_eq_true_eq];omega),List.drop_of_length_le (by simp;omega),List.flatMap_nil,List.append_nil]
 | succ m p=>
  intro k c j n d;have g:k < 4:=by omega
  rw [zmR g,List.flatMap_cons]
  conv=>lhs;rw [znO]
  unfold zeu;rw [if_pos (decide_eq_true (by omega))];have e:=zEE h (x:=k) g (r22:=zg4 l l (wl l) (tl l)) (a:=a) (b:=b) (s:=s) (f:=f) _ 0 c rfl (by omega) (by omega);rw [List.drop_zero] at e;refine e.trans ?_;have i:=zzu h (x:=k);have:=p (k+1) (c++(List.range (2 ^ (tl l).length)).flatMap (st25 l k)) (by omega) (by omega) (by
   rw [List.length_append];unfold st22 at i;omega)
  refine this.trans ?_;rw [List.append_assoc];rfl
theorem zEC (h:TL l) {a b:Int} {s:List Int}:∀ (m k:Nat) (c:List Int),2 ^ (tl l).length - k=m->k<=2 ^ (tl l).length->c.length+(2 ^ (tl l).length - k)<=1000->
   zkE l l (wl l) (tl l) (k:Int) a b s c=zg4 l l (wl l) (tl l) 0 a b s (c++((List.range (2 ^ (tl l).length)).drop k).map fun (t:Nat)=>(t:Int) * uN l+uN l - 1) []:=by
 have q:=h.all;have r:=h.hwl;intro m;induction m with
 | zero=>
  intro k c j n d;rw [znN];unfold zet;rw [h.shl,if_neg (by simp only [decide_eq_true_eq];omega),List.drop_of_length_le (by simp;omega),List.map_nil,List.append_nil]
 | succ m p=>
  intro k c j n d;have f:k < 2 ^ (tl l).length:=by omega
  have o:uN l<=6:=by unfold uN;omega
  have g:((wl l).length:Int)+1=(uN l:Int):=by unfold uN;omega
  have i:0<=(k:Int) * (uN l:Int)/\(k:Int) * (uN l:Int)<=192:=by
   have u:1<=uN l:=by unfold uN;omega
   have:(uN l:Int)=1\/(uN l:Int)=2\/(uN l:Int)=3\/(uN l:Int)=4\/(uN l:Int)=5\/(uN l:Int)=6:=by omega
   rcases this with e | e | e | e | e | e<;>rw [e]<;>omega
  rw [zmR f,List.map_cons]
  conv=>lhs;rw [znN]
  unfold zet;rw [h.shl,if_pos (decide_eq_true (by omega)),g,zae (za4 (by omega) (by omega)),zae (za4 (by omega) (by omega)),zae (za4 (by omega) (by omega)),zae (znq (by simp only [List.length_singleton];omega)),zae (za4 (by omega) (by omega))];have:=p (k+1) (c++[(k:Int) * uN l+uN l - 1]) (by omega) (by omega) (by simp only [List.length_append,List.length_singleton];omega);refine this.trans ?_;rw [List.append_assoc];rfl
theorem zDk (h:TL l):zeT l 0 l [] []=(zhZ 4 (((2 ^ (tl l).length:Nat):Int) * uN l+1) [((2 ^ (tl l).length:Nat):Int) * uN l] (zsX l) (fins l)).bind fun o=>some (o,0):=by
 have k:=h.all;have m:=h.hwl;have n:=h.htl;have g:((wl l).length:Int)+1=(uN l:Int):=by unfold uN;omega
 have j:uN l<=6:=by unfold uN;omega
 have e:=L7_eq h.n _ 0 rfl (by omega);rw [show zeT l 0 l [] []=zeT l ((0:Nat):Int) l (wlN l 0) (tlN l 0) from rfl,e,zoT];unfold ze2;have i:0<=((2 ^ (tl l).length:Nat):Int) * (uN l:Int)/\((2 ^ (tl l).length:Nat):Int) * (uN l:Int)<=192:=by
  have p:1<=uN l:=by unfold uN;omega
  have:(uN l:Int)=1\/(uN l:Int)=2\/(uN l:Int)=3\/(uN l:Int)=4\/(uN l:Int)=5\/(uN l:Int)=6:=by omega
  rcases this with e | e | e | e | e | e<;>rw [e]<;>omega
 rw [if_neg (by simp),g,h.shl,zae (za4 (by omega) (by omega)),zae (by omega),zae (za4 (by omega) (by omega)),zae (za4 (by omega) (by omega)),zae (za4 (by omega) (by omega))];have c:=zEC h (a:=4) (b:=((2 ^ (tl l).length:Nat):Int) * uN l+1) (s:=[((2 ^ (tl l).length:Nat):Int) * uN l]) _ 0 [] rfl (by omega) (by simp;omega);rw [List.drop_zero,List.nil_append] at c;refine c.trans ?_;have d:=zED h (a:=4) (b:=((2 ^ (tl l).length:Nat):Int) * uN l+1) (s:=[((2 ^ (tl l).length:Nat):Int) * uN l]) (f:=fins l) _ 0 [] rfl (by omega) (by simp);rw [List.drop_zero,List.nil_append] at d;exact d
end
section
variable {l:L3}
open Classical in
theorem zt3 {p x q:Int}:(p,x,q,())∈zsX l↔(0<=x/\x < 4)/\∃ bits:Nat,bits < 2 ^ (tl l).length/\((ix (nv l x bits) ((l.length:Int) - 1)=true/\p=((2 ^ (tl l).length:Nat):Int) * uN l/\q=(bits:Int) * uN l)\/
  ∃ told k:Nat,told < 2 ^ (tl l).length/\k < uN l/\MtP l (nv l x bits) told/\p=(told:Int) * uN l+k/\q=(bits:Int) * uN l+toF l (nv l x bits) k):=by
 unfold zsX;constructor
 ·intro h;obtain ⟨y,e,h⟩:=List.mem_flatMap.1 h;rw [List.mem_range] at e;obtain ⟨bits,a,h⟩:=List.mem_flatMap.1 h;rw [List.mem_range] at a;unfold st25 at h;rcases List.mem_append.1 h with h | h
  ·by_cases c:ix (nv l y bits) ((l.length:Int) - 1)=true
   ·rw [if_pos c,List.mem_singleton] at h;simp only [Prod.mk.injEq] at h;obtain ⟨rfl,rfl,rfl,_⟩:=h;exact ⟨⟨by omega,by omega⟩,bits,a,.inl ⟨c,rfl,rfl⟩⟩
   ·rw [if_neg c] at h;cases h
  ·obtain ⟨told,b,h⟩:=List.mem_flatMap.1 h;rw [List.mem_range] at b;unfold st31 at h;by_cases c:MtP l (nv l y bits) told
   ·rw [if_pos c] at h;obtain ⟨k,d,h⟩:=List.mem_map.1 h;rw [List.mem_range] at d;unfold zxU at h;simp only [Prod.mk.injEq] at h;obtain ⟨rfl,rfl,rfl,_⟩:=h;exact ⟨⟨by omega,by omega⟩,bits,a,.inr ⟨told,k,b,d,c,rfl,rfl⟩⟩
   ·rw [if_neg c] at h;cases h
 ·rintro ⟨⟨f,g⟩,bits,a,h⟩;obtain ⟨y,rfl⟩:∃ y:Nat,x=y:=⟨x.toNat,by omega⟩;refine List.mem_flatMap.2 ⟨y,List.mem_range.2 (by omega),List.mem_flatMap.2 ⟨bits,List.mem_range.2 a,?_⟩⟩;unfold st25;rcases h with ⟨c,rfl,rfl⟩ | ⟨told,k,b,d,c,rfl,rfl⟩
  ·rw [if_pos c];exact List.mem_append_left _ (List.mem_singleton.2 rfl)
  ·refine List.mem_append_right _ (List.mem_flatMap.2 ⟨told,List.mem_range.2 b,?_⟩);unfold st31;rw [if_pos c];exact List.mem_map.2 ⟨k,List.mem_range.2 d,rfl⟩
theorem zyL (v:List Bool) {k:Int} (a:0<=k) (b:k < uN l):0<=toF l v k/\toF l v k < uN l:=by
 have c:(uN l:Int)=(wl l).length+1:=by unfold uN;omega
 unfold toF;by_cases e:k=(wl l).length
 ·rw [if_pos e];omega
 ·rw [if_neg e];split<;>omega
theorem zBY (h:TL l):1<=(uN l:Int)/\(uN l:Int)<=6:=by have:=h.hwl;unfold uN;omega
theorem divN {U a b c d:Int} (f:1<=U/\U<=6) (g:0<=c) (c1:c < U) (h:0<=d) (i:d < U) (e:a * U+c=b * U+d):a=b/\c=d:=by
 have:U=1\/U=2\/U=3\/U=4\/U=5\/U=6:=by omega
 rcases this with rfl | rfl | rfl | rfl | rfl | rfl<;>omega
theorem ltN {U a b c:Int} (e:1<=U/\U<=6) (c1:c < U) (d:a < b):a * U+c < b * U:=by
 have:U=1\/U=2\/U=3\/U=4\/U=5\/U=6:=by omega
 rcases this with rfl | rfl | rfl | rfl | rfl | rfl<;>omega
theorem divU (h:TL l) {a b c d:Int} (f:0<=c) (c1:c < uN l) (g:0<=d) (i:d < uN l) (e:a * uN l+c=b * uN l+d):a=b/\c=d:=divN (zBY h) f c1 g i e
theorem ltU (h:TL l) {a b c:Int} (c1:c < uN l) (d:a < b):a * uN l+c < b * uN l:=ltN (zBY h) c1 d
theorem zwp {p:Int}:p∈fins l↔∃ t:Nat,t < 2 ^ (tl l).length/\p=(t:Int) * uN l+(uN l - 1):=by
 unfold fins;constructor
 ·intro h;obtain ⟨t,a,rfl⟩:=List.mem_map.1 h;exact ⟨t,List.mem_range.1 a,by omega⟩
 ·rintro ⟨t,a,rfl⟩;exact List.mem_map.2 ⟨t,List.mem_range.2 a,by omega⟩
theorem zDi (h:TL l) {i:Int} (d:zvJ l i):0<=atN l i/\atN l i < l.length:=by
 obtain ⟨a,b,e⟩:=d;unfold atN;by_cases c:(ix l i).1=6
 ·rw [if_pos c];rcases h.w _ a b with g | g | g | ⟨g,a0,a1⟩ | ⟨g,⟨a0,a1⟩,b0,b1⟩<;>omega
 ·rw [if_neg c];exact ⟨a,b⟩
theorem zFg (h:TL l) {o:Au} {u:Nat->Int} {V:Int->Nat->Prop} (X:Val l u V) (Y:∀ p x q,StA o p x q↔(p,x,q,())∈zsX l) (hs:∀ q,q∈o.2.2.1↔q=((2 ^ (tl l).length:Nat):Int) * uN l) (Z:∀ q,q∈o.2.2.2.2.1↔q∈fins l) (n:InfA o u):V ((l.length:Int) - 1) 0:=by
 obtain ⟨r,⟨r0,hr⟩,hinf⟩:=n;have j:=fun t=>zt3.1 ((Y _ _ _).1 (hr t))
 have W:∀ t,0<=u t/\u t < 4:=fun t=>(j t).1
 let b:Nat->Nat:=fun t=>Classical.choose (j t).2
 have E:∀ t,b t < 2 ^ (tl l).length/\_:=fun t=>Classical.choose_spec (j t).2
 let c:Nat->Int:=fun t=>r (t+1) - (b t:Int) * uN l
 have hU:0 < (uN l:Int):=by unfold uN;omega
 have w:∀ t,0<=c t/\c t < uN l:=fun t=>by
  rcases (E t).2 with ⟨_,_,e⟩ | ⟨told,k,_,D,_,_,e⟩
  ·show 0<=r (t+1) - (b t:Int) * uN l/\r (t+1) - (b t:Int) * uN l < uN l;rw [e];show 0<=(b t:Int) * uN l - (b t:Int) * uN l/\(b t:Int) * uN l - (b t:Int) * uN l < uN l;omega
  ·have:=zyL (l:=l) (nv l (u t) (b t)) (k:=(k:Int)) (by omega) (by omega);show 0<=r (t+1) - (b t:Int) * uN l/\r (t+1) - (b t:Int) * uN l < uN l;have e:r (t+1)=(b t:Int) * uN l+toF l (nv l (u t) (b t)) k:=e;rw [e];omega
 have m:∀ t,r (t+1)=(b t:Int) * uN l+c t:=fun t=>by show _=_+(r (t+1) - _);omega
 have F:∀ t,r (t+1) < ((2 ^ (tl l).length:Nat):Int) * uN l:=fun t=>by
  rw [m t];exact ltU h (w t).2 (by have:=(E t).1;omega)
 have h0:ix (nv l (u 0) (b 0)) ((l.length:Int) - 1)=true/\c 0=0:=by
  have H:=(hs _).1 r0;rcases (E 0).2 with ⟨e1,_,e⟩ | ⟨told,k,S,D,_,e,_⟩
  ·have e:r (0+1)=(b 0:Int) * uN l:=e;exact ⟨e1,by show r (0+1) - _=0;omega⟩
  ·have:=ltU h (a:=(told:Int)) (b:=((2 ^ (tl l).length:Nat):Int)) (c:=(k:Int)) (by omega) (by omega);rw [H] at e;omega
 have I:∀ t,MtP l (nv l (u (t+1)) (b (t+1))) (b t)/\c (t+1)=toF l (nv l (u (t+1)) (b (t+1))) (c t):=fun t=>by
  rcases (E (t+1)).2 with ⟨_,e,_⟩ | ⟨told,k,S,D,hm,e,J⟩
  ·have:=F t;rw [e] at this;omega
  ·rw [m t] at e;obtain ⟨e3,R⟩:=divU h (w t).1 (w t).2 (by omega) (by omega) e;have J:r (t+1+1)=(b (t+1):Int) * uN l+toF l (nv l (u (t+1)) (b (t+1))) k:=J;rw [e3,R];exact ⟨hm,by show r (t+1+1) - _=_;rw [J];omega⟩
 have f:∀ N,∃ t,N<=t/\c t=(wl l).length:=fun N=>by
  obtain ⟨t,t0,S⟩:=hinf (N+1);obtain ⟨s,hs',e⟩:=zwp.1 ((Z _).1 S);obtain ⟨t',rfl⟩:∃ t',t=t'+1:=⟨t - 1,by omega⟩;rw [m t'] at e;obtain ⟨_,R⟩:=divU h (w t').1 (w t').2 (by omega) (by omega) e;exact ⟨t',by omega,by rw [R];unfold uN;omega⟩
 have L:∀ i:Int,zvJ l i->pos l i < (tl l).length/\ix (tl l) (pos l i)=i:=fun i n=>(zuD (l:=l) l.length (Nat.le_refl _)).2 i n n.2.1
 have:=zD4 h.w X (bits:=fun t=>(b t:Int)) (v:=fun t=>nv l (u t) (b t)) (fun t=>(h.hnv (W t).1 (W t).2).2) (fun t i n=>by
   obtain ⟨p1,p2⟩:=L i n;have:=(I t).1 (pos l i) (by unfold pos tmd;omega) p1;rw [p2] at this;exact this.symm) (fun i t i0 i1 D A=>by
   refine Classical.byContradiction fun g => ?_
   have g:∀ s,¬ ix (nv l (u (t+s)) (b (t+s))) (ix l i).2.2.1=true:=fun s hs=>g ⟨s,hs⟩
   have B:=(zuJ (l:=l) l.length (Nat.le_refl _)).2.1 i i0 i1 D;obtain ⟨y,d,T⟩:=List.mem_iff_getElem.1 B;have d:y < (wl l).length:=d;have O:ix (wl l) (y:Int)=i:=by rw [zoo (l:=wl l) (by omega) (by omega)];exact T
   obtain ⟨M,hM,U⟩:=f t;have z:∀ s,c (M+1+s)<=y:=fun s=>by
    induction s with
    | zero=>
     have:=(I M).2;rw [U] at this;show c (M+1)<=_;rw [this];unfold toF;rw [if_pos rfl];omega
    | succ s ihs=>
     have P:=(I (M+1+s)).2;show c (M+1+s+1)<=_;rw [P];have hc0:=(w (M+1+s)).1;unfold toF;have Q:y < (wl l).length:=d;rw [if_neg (by omega)];by_cases e:c (M+1+s)=y
     ·rw [e,O,if_neg]
      ·omega
      ·rintro (k | k)
       ·have:=g (M+1+s+1 - t);rw [show t+(M+1+s+1 - t)=M+1+s+1 by omega] at this;exact this k
       ·have:=A (M+1+s+1 - t);rw [show t+(M+1+s+1 - t)=M+1+s+1 by omega] at this;exact k this
     ·split<;>omega
   obtain ⟨t',ht',C⟩:=f (M+1);have:=z (t' - (M+1));rw [show M+1+(t' - (M+1))=t' by omega,C] at this;have Q:y < (wl l).length:=d;omega) _ ((l.length:Int) - 1) rfl (by have:=h.p;omega) (by omega) 0
 exact this.1 h0.1
theorem zFf (h:TL l) {o:Au} {u:Nat->Int} {V:Int->Nat->Prop} (H:∀ t,0<=u t/\u t < 4) (R:Val l u V) (U:∀ p x q,StA o p x q↔(p,x,q,())∈zsX l) (hs:∀ q,q∈o.2.2.1↔q=((2 ^ (tl l).length:Nat):Int) * uN l) (W:∀ q,q∈o.2.2.2.2.1↔q∈fins l) (j:V ((l.length:Int) - 1) 0):InfA o u:=by
 have a2:=h.htl;have hp:=h.p
 let m:=(tl l).length
 let bi:Nat->Int:=fun t=>zAi (fun k=>V (atN l (ix (tl l) k)) (t+1)) m
 have r:∀ t,SetN m (bi t)/\∀ k:Int,0<=k->k < m->(bitP (bi t) k↔V (atN l (ix (tl l) k)) (t+1)):=fun t=>by
  obtain ⟨F,y⟩:=zzt (N:=m) (by show (tl l).length<=16;omega) (fun k=>V (atN l (ix (tl l) k)) (t+1)) m (Nat.le_refl _);exact ⟨F,fun k w n=>(y k w n).trans ⟨fun g=>g.2,fun g=>⟨n,g⟩⟩⟩
 have B:∀ t,∃ b:Nat,bi t=b/\b < 2 ^ (tl l).length:=fun t=>by
  obtain ⟨_,b,e,v⟩:=(r t).1;exact ⟨b,e,v⟩
 let b:Nat->Nat:=fun t=>Classical.choose (B t)
 have v:∀ t,bi t=(b t:Int)/\b t < 2 ^ (tl l).length:=fun t=>Classical.choose_spec (B t)
 have I:∀ i:Int,zvJ l i->pos l i < (tl l).length/\ix (tl l) (pos l i)=i:=fun i C=>(zuD (l:=l) l.length (Nat.le_refl _)).2 i C C.2.1
 have J:∀ k:Int,0<=k->k < (tl l).length->zvJ l (ix (tl l) k):=fun k w n=>((zuD (l:=l) l.length (Nat.le_refl _)).1 k w n).1
 have E:∀ t (i:Int),0<=i->i < l.length->(ix (nv l (u t) (b t)) i=true↔V i t):=fun t i X Y=>zDT h.w R (h.hnv (bits:=(b t:Int)) (H t).1 (H t).2).2 (fun i C=>by
  obtain ⟨p1,p2⟩:=I i C;have:=(r t).2 (pos l i) (by unfold pos tmd;omega) p1;rw [p2,(v t).1] at this;exact this) _ i rfl X Y
 have hm:∀ t,MtP l (nv l (u (t+1)) (b (t+1))) (b t):=fun t k w n=>by
  obtain ⟨a0,a1⟩:=zDi h (J k w n);rw [E (t+1) _ a0 a1,<- (v t).1];exact ((r t).2 k w n).symm
 let c:Nat->Int:=fun t=>Nat.rec 0 (fun t q=>toF l (nv l (u (t+1)) (b (t+1))) q) t
 have f:∀ t,c (t+1)=toF l (nv l (u (t+1)) (b (t+1))) (c t):=fun _=>rfl
 have hU:0 < (uN l:Int):=by unfold uN;omega
 have L:∀ t,0<=c t/\c t < uN l:=fun t=>by
  induction t with
  | zero=>exact ⟨Int.le_refl 0,hU⟩
  | succ t z=>rw [f];exact zyL _ z.1 z.2
 have O:(uN l:Int)=(wl l).length+1:=by unfold uN;omega
 have one:∀ (s N:Nat) (k:Int),c N=k->k < (wl l).length->(ix (nv l (u (N+1+s)) (b (N+1+s))) (ix l (ix (wl l) k)).2.2.1=true \/ ¬ ix (nv l (u (N+1+s)) (b (N+1+s))) (ix (wl l) k)=true)->∃ M,N<=M/\c M=k+1:=by
  intro s;induction s with
  | zero=>
   intro N k D A a;refine ⟨N+1,by omega,?_⟩;rw [f,D];unfold toF;rw [if_neg (by omega),if_pos a]
  | succ s z=>
   intro N k D A a;by_cases d:ix (nv l (u (N+1)) (b (N+1))) (ix l (ix (wl l) k)).2.2.1=true \/ ¬ ix (nv l (u (N+1)) (b (N+1))) (ix (wl l) k)=true
   ·refine ⟨N+1,by omega,?_⟩;rw [f,D];unfold toF;rw [if_neg (by omega),if_pos d]
   ·obtain ⟨M,F,y⟩:=z (N+1) k (by rw [f,D];unfold toF;rw [if_neg (by omega),if_neg d]) A (by rw [show N+1+1+s=N+1+(s+1) by omega];exact a);exact ⟨M,by omega,y⟩
 have P:∀ (d N:Nat),((wl l).length - c N).toNat=d->∃ M,N<=M/\c M=(wl l).length:=by
  intro d;induction d with
  | zero=>intro N Z;exact ⟨N,Nat.le_refl _,by have:=L N;omega⟩
  | succ d z=>
   intro N Z;have Q:=L N;obtain ⟨⟨S,T⟩,w2,w3,w4⟩:=h.wlm (k:=c N) Q.1 (by omega);have cond:∃ s,ix (nv l (u (N+1+s)) (b (N+1+s))) (ix l (ix (wl l) (c N))).2.2.1=true \/ ¬ ix (nv l (u (N+1+s)) (b (N+1+s))) (ix (wl l) (c N))=true:=by
    by_cases e:V (ix (wl l) (c N)) (N+1)
    ·obtain ⟨s,hs⟩:=R.w _ _ S T w2 e;exact ⟨s,.inl ((E _ _ w3 w4).2 hs)⟩
    ·exact ⟨0,.inr fun g=>e ((E _ _ S T).1 g)⟩
   obtain ⟨s,hs⟩:=cond;obtain ⟨M,F,y⟩:=one s N (c N) rfl (by omega) hs;obtain ⟨M',h3,h4⟩:=z M (by omega);exact ⟨M',by omega,h4⟩
 refine ⟨fun t=>if t=0 then ((2 ^ (tl l).length:Nat):Int) * uN l else (b (t - 1):Int) * uN l+c (t - 1),⟨?_,fun t => ?_⟩,fun N => ?_⟩
 ·exact (hs _).2 rfl
 ·rw [U];show ((if t=0 then ((2 ^ (tl l).length:Nat):Int) * uN l else (b (t - 1):Int) * uN l+c (t - 1)),u t,(if t+1=0 then ((2 ^ (tl l).length:Nat):Int) * uN l else (b (t+1 - 1):Int) * uN l+c (t+1 - 1)),())∈zsX l;rw [zt3];refine ⟨H t,b t,(v t).2,?_⟩;rw [if_neg (by omega : ¬ t+1=0),Nat.add_sub_cancel];by_cases e:t=0
  ·subst e;rw [if_pos rfl];refine .inl ⟨(E 0 _ (by omega) (by omega)).2 j,rfl,?_⟩;show (b 0:Int) * uN l+0=_;omega
  ·obtain ⟨t',rfl⟩:∃ t',t=t'+1:=⟨t - 1,by omega⟩;rw [if_neg e,Nat.add_sub_cancel];have:=L t';refine .inr ⟨b t',(c t').toNat,(v t').2,by omega,hm t',?_,?_⟩
   ·rw [Int.toNat_of_nonneg this.1]
   ·rw [Int.toNat_of_nonneg this.1,f]
 ·obtain ⟨M,F,y⟩:=P _ N rfl;refine ⟨M+1,by omega,?_⟩;rw [W,zwp];refine ⟨b M,(v M).2,?_⟩;show (if M+1=0 then ((2 ^ (tl l).length:Nat):Int) * uN l else (b (M+1 - 1):Int) * uN l+c (M+1 - 1))=_;rw [if_neg (by omega),Nat.add_sub_cancel,y,O];omega
end
abbrev W3:=List Int×List Int×Unit
structure Lk (w:W3) (all:List Int) (n h:Int):Prop where
 hw:(w.1.length:Int)=h
 hl:(all.length:Int)=n
 h0:0<=h
 h1:h < n
 n1:n<=120
 lt:∀ i,0<=i->i < n->0<=ix all i/\ix all i < 4
section
variable {w:W3} {all:List Int} {n h:Int} {l:L3}
structure Lr (w:W3) (all:List Int) (n h:Int):Prop where
 k:Lk w all n h
 m:(w.2.1.length:Int)=n - h
 a:all=w.1++w.2.1
theorem at_eq (a:Lr w all n h) {i:Int} (b:0<=i) (d:i < n):zBE w i=some (ix all i):=by
 have f:=a.k.hw;have g:=a.m;have j:=a.k.h1;have k:=a.k.n1;have l:=a.k.h0;unfold zBE;by_cases e:i < h
 ·rw [if_pos (decide_eq_true (by omega)),zae ⟨b,by omega⟩,a.a,zaq b (by omega)]
 ·have c:Int.tmod (i - (w.1.length:Int)) (w.2.1.length:Int)=i - w.1.length:=by
   rw [Int.tmod_eq_emod_of_nonneg (by omega)];exact Int.emod_eq_of_lt (by omega) (by omega)
  rw [if_neg (by simp only [decide_eq_true_eq];omega),zae (za4 (by omega) (by omega)),zae (by omega),c,zae ⟨by omega,by omega⟩,a.a,zit (by omega)]
theorem zqp (a:Lr w all n h) {i:Int} (c:0<=i) (d:i < n):zks (w.1,(w.2.1,())) i=some (nxt n h i):=by
 have b:=a.k.hw;have g:=a.m;have j:=a.k.h1;have k:=a.k.n1;have l:=a.k.h0;have f:fits (i+1):=za4 (by omega) (by omega);unfold zks nxt;rw [zae f,zae (za4 (by show _<=(w.1.length:Int)+w.2.1.length;omega) (by show (w.1.length:Int)+w.2.1.length<=_;omega))];by_cases e:i+1=n
 ·rw [if_pos (decide_eq_true (by show i+1=(w.1.length:Int)+w.2.1.length;omega)),if_pos e];exact congrArg some b
 ·rw [if_neg (by show ¬ decide (i+1=(w.1.length:Int)+w.2.1.length)=true;simp only [decide_eq_true_eq];omega),if_neg e,zae f]
structure RT (n h:Int) (all:List Int) (l:L3) (k:Int) (is':List (List Bool)):Prop where
 ln:(is'.length:Int)=k
 r:∀ k',0<=k'->k' < k->((ix is' k').length:Int)=n
 s:∀ k',0<=k'->k' < k->∀ f,RS l k' f->∀ j,0<=j->j < n->(ix (ix is' k') j=true↔Hd n h (ix all) f j)
theorem zv7 {n h:Int} {m:Nat} {A B:Int->Prop} {i:Int}:(∃ t:Nat,t < m+1/\B (it n h t i)/\∀ s:Nat,s < t->A (it n h s i))↔B i\/(A i/\∃ t:Nat,t < m/\B (it n h t (nxt n h i))/\∀ s:Nat,s < t->A (it n h s (nxt n h i))):=by
 constructor
 ·rintro ⟨t,c,a,b⟩;cases t with
  | zero=>exact .inl a
  | succ t=>exact .inr ⟨b 0 (by omega),t,by omega,a,fun s hs=>b (s+1) (by omega)⟩
 ·rintro (a | ⟨b,t,c,a,hc⟩)
  ·exact ⟨0,by omega,a,fun s hs=>by omega⟩
  ·refine ⟨t+1,by omega,a,fun s hs => ?_⟩;cases s with
   | zero=>exact b
   | succ s=>exact hc s (by omega)
theorem zE1 (f:Lr w all n h) {c:List (List Bool)} {k a b:Int} {u:Unit} (v:ix l k=(70,a,b,u)) (x:0<=a) (y:a < c.length) (M:((ix c a).length:Int)=n):
  ∀ (m:Nat) (i j:Int),(n - j).toNat=m->0<=j->j<=n->0<=i->i < n->∃ r,zgQ l c k w i j=some r/\(r=true↔∃ t:Nat,t < m/\ix (ix c a) (it n h t i)=true/\∀ s:Nat,s < t->True):=by
 have N:=f.k.hw;have O:=f.m;have D:=f.k.h1;have P:=f.k.n1;have E:=f.k.h0;intro m;induction m with
 | zero=>
  intro i j o z C g q;rw [zdz];unfold zbT;rw [if_neg (by simp only [decide_eq_true_eq];omega),v];refine ⟨false,rfl,⟨fun e=>(by cases e),fun ⟨t,ht,_⟩=>by omega⟩⟩
 | succ m L=>
  intro i j o z C g q;obtain ⟨F,H⟩:=zrz (n:=n) (h:=h) ⟨E,D⟩ ⟨g,q⟩;rw [zv7 (A:=fun _=>True) (B:=fun p=>ix (ix c a) p=true)];rw [zdz];unfold zbT;rw [if_pos (decide_eq_true (by omega)),v,if_pos (by rfl),zae ⟨x,y⟩,zae ⟨g,by show i < ((ix c a).length:Int);omega⟩];show ∃ r,(if ix (ix c a) i=true then _ else _)=some r/\_;by_cases e:ix (ix c a) i=true
  ·rw [if_pos e];exact ⟨true,rfl,fun _ => .inl e,fun _=>rfl⟩
  ·rw [if_neg e,zqp f g q];show ∃ r,G _ _=some r/\_;rw [zae (za4 (by omega) (by omega))];obtain ⟨r,I,J⟩:=L (nxt n h i) (j+1) (by omega) (by omega) (by omega) F H;refine ⟨r,I,J.trans ⟨fun d => .inr ⟨trivial,d⟩,fun d=>d.elim (fun d=>absurd d e) fun d=>d.2⟩⟩
theorem zE2 (f:Lr w all n h) {c:List (List Bool)} {k a b:Int} {u:Unit} (v:ix l k=(71,a,b,u)) (x:0<=a) (y:a < c.length) (M:((ix c a).length:Int)=n):
  ∀ (m:Nat) (i j:Int),(n - j).toNat=m->0<=j->j<=n->0<=i->i < n->∃ r,zgQ l c k w i j=some r/\(r=false↔∃ t:Nat,t < m/\ix (ix c a) (it n h t i)=false/\∀ s:Nat,s < t->True):=by
 have N:=f.k.hw;have O:=f.m;have D:=f.k.h1;have P:=f.k.n1;have E:=f.k.h0;intro m;induction m with
 | zero=>
  intro i j o z C g q;rw [zdz];unfold zbT;rw [if_neg (by simp only [decide_eq_true_eq];omega),v];refine ⟨true,rfl,⟨fun e=>(by cases e),fun ⟨t,ht,_⟩=>by omega⟩⟩
 | succ m L=>
  intro i j o z C g q;obtain ⟨F,H⟩:=zrz (n:=n) (h:=h) ⟨E,D⟩ ⟨g,q⟩;rw [zv7 (A:=fun _=>True) (B:=fun p=>ix (ix c a) p=false)];rw [zdz];unfold zbT;rw [if_pos (decide_eq_true (by omega)),v,if_neg (by exact Bool.false_ne_true),if_pos (by rfl),zae ⟨x,y⟩,zae ⟨g,by show i < ((ix c a).length:Int);omega⟩];show ∃ r,(if (!ix (ix c a) i)=true then _ else _)=some r/\_;by_cases e:ix (ix c a) i=false
  ·rw [if_pos (by simp [e])];exact ⟨false,rfl,fun _ => .inl e,fun _=>rfl⟩
  ·rw [if_neg (by simpa using e),zqp f g q];show ∃ r,G _ _=some r/\_;rw [zae (za4 (by omega) (by omega))];obtain ⟨r,I,J⟩:=L (nxt n h i) (j+1) (by omega) (by omega) (by omega) F H;refine ⟨r,I,J.trans ⟨fun d => .inr ⟨trivial,d⟩,fun d=>d.elim (fun d=>absurd d e) fun d=>d.2⟩⟩
theorem zE4 (f:Lr w all n h) {c:List (List Bool)} {k a b:Int} {u:Unit} (x:ix l k=(85,a,b,u)) (y:0<=a) (z:a < c.length) (Q:((ix c a).length:Int)=n) (C:0<=b) (D:b < c.length) (R:((ix c b).length:Int)=n):
  ∀ (m:Nat) (i j:Int),(n - j).toNat=m->0<=j->j<=n->0<=i->i < n->∃ r,zgQ l c k w i j=some r/\(r=true↔∃ t:Nat,t < m/\ix (ix c b) (it n h t i)=true/\∀ s:Nat,s < t->ix (ix c a) (it n h s i)=true):=by
 have S:=f.k.hw;have T:=f.m;have I:=f.k.h1;have U:=f.k.n1;have J:=f.k.h0;intro m;induction m with
 | zero=>
  intro i j q F H g v;rw [zdz];unfold zbT;rw [if_neg (by simp only [decide_eq_true_eq];omega),x];refine ⟨false,rfl,⟨fun e=>(by cases e),fun ⟨t,ht,_⟩=>by omega⟩⟩
 | succ m P=>
  intro i j q F H g v;obtain ⟨L,M⟩:=zrz (n:=n) (h:=h) ⟨J,I⟩ ⟨g,v⟩;rw [zv7 (A:=fun p=>ix (ix c a) p=true) (B:=fun p=>ix (ix c b) p=true)];rw [zdz];unfold zbT;rw [if_pos (decide_eq_true (by omega)),x,if_neg (by exact Bool.false_ne_true),if_neg (by exact Bool.false_ne_true),if_pos (by rfl),zae ⟨C,D⟩,zae ⟨g,by show i < ((ix c b).length:Int);omega⟩];show ∃ r,(if ix (ix c b) i=true then _ else _)=some r/\_;by_cases e:ix (ix c b) i=true
  ·rw [if_pos e];exact ⟨true,rfl,fun _ => .inl e,fun _=>rfl⟩
  ·rw [if_neg e,zae ⟨y,z⟩,zae ⟨g,by show i < ((ix c a).length:Int);omega⟩];show ∃ r,(if (!ix (ix c a) i)=true then _ else _)=some r/\_;by_cases o:ix (ix c a) i=true
   ·rw [if_neg (by simp [o]),zqp f g v];show ∃ r,G _ _=some r/\_;rw [zae (za4 (by omega) (by omega))];obtain ⟨r,N,O⟩:=P (nxt n h i) (j+1) (by omega) (by omega) (by omega) L M;refine ⟨r,N,O.trans ⟨fun d => .inr ⟨o,d⟩,fun d=>d.elim (fun d=>absurd d e) fun d=>d.2⟩⟩
   ·rw [if_pos (by simpa using o)];exact ⟨false,rfl,fun E=>(by cases E),fun d=>d.elim (fun d=>absurd d e) fun d=>absurd d.1 o⟩
theorem zE3 (f:Lr w all n h) {c:List (List Bool)} {k a b:Int} {u:Unit} (x:ix l k=(82,a,b,u)) (y:0<=a) (z:a < c.length) (Q:((ix c a).length:Int)=n) (C:0<=b) (D:b < c.length) (R:((ix c b).length:Int)=n):
  ∀ (m:Nat) (i j:Int),(n - j).toNat=m->0<=j->j<=n->0<=i->i < n->∃ r,zgQ l c k w i j=some r/\(r=false↔∃ t:Nat,t < m/\ix (ix c b) (it n h t i)=false/\∀ s:Nat,s < t->ix (ix c a) (it n h s i)=false):=by
 have S:=f.k.hw;have T:=f.m;have I:=f.k.h1;have U:=f.k.n1;have J:=f.k.h0;intro m;induction m with
 | zero=>
  intro i j q F H g v;rw [zdz];unfold zbT;rw [if_neg (by simp only [decide_eq_true_eq];omega),x];refine ⟨true,rfl,⟨fun e=>(by cases e),fun ⟨t,ht,_⟩=>by omega⟩⟩
 | succ m P=>
  intro i j q F H g v;obtain ⟨L,M⟩:=zrz (n:=n) (h:=h) ⟨J,I⟩ ⟨g,v⟩;rw [zv7 (A:=fun p=>ix (ix c a) p=false) (B:=fun p=>ix (ix c b) p=false)];rw [zdz];unfold zbT;rw [if_pos (decide_eq_true (by omega)),x,if_neg (by exact Bool.false_ne_true),if_neg (by exact Bool.false_ne_true),if_neg (by exact Bool.false_ne_true),if_pos (by rfl),zae ⟨C,D⟩,zae ⟨g,by show i < ((ix c b).length:Int);omega⟩];show ∃ r,(if (!ix (ix c b) i)=true then _ else _)=some r/\_;by_cases e:ix (ix c b) i=false
  ·rw [if_pos (by simp [e])];exact ⟨false,rfl,fun _ => .inl e,fun _=>rfl⟩
  ·rw [if_neg (by simpa using e),zae ⟨y,z⟩,zae ⟨g,by show i < ((ix c a).length:Int);omega⟩];show ∃ r,(if ix (ix c a) i=true then _ else _)=some r/\_;by_cases o:ix (ix c a) i=true
   ·rw [if_pos o];exact ⟨true,rfl,fun E=>(by cases E),fun d=>d.elim (fun d=>absurd d e) fun d=>by rw [o] at d;cases d.1⟩
   ·rw [if_neg o,zqp f g v];show ∃ r,G _ _=some r/\_;rw [zae (za4 (by omega) (by omega))];obtain ⟨r,N,O⟩:=P (nxt n h i) (j+1) (by omega) (by omega) (by omega) L M;refine ⟨r,N,O.trans ⟨fun d => .inr ⟨by simpa using o,d⟩,fun d=>d.elim (fun d=>absurd d e) fun d=>d.2⟩⟩
theorem bf {b:Bool} {P:Prop} (h:b=true↔P):b=false ↔ ¬ P:=by rw [<- h];simp
theorem zCP (Q:Lr w all n h) (hw:WR l) {k:Int} (k0:0<=k) (k1:k < l.length) {o:List (List Bool)} (V:RT n h all l k o) {i:Int} (C:0<=i) (E:i < n):
  ∃ r,zq8 l o k i (w.1,(w.2.1,()))=some r/\∀ f,RS l k f->(r=true↔Hd n h (ix all) f i):=by
 have hh:=Q.k.hw;have hm:=Q.m;have h1:=Q.k.h1;have n1:=Q.k.n1;have h0:=Q.k.h0;have M:0<=h/\h < n:=⟨h0,h1⟩;obtain ⟨x0,x1⟩:=zrz M ⟨C,E⟩;have d:=hw k k0 k1;have hl:=V.ln;have el:(n - 0).toNat=n.toNat:=by omega
 unfold zq8;rw [zae ⟨k0,k1⟩,show zBE (w.1,(w.2.1,())) i=some (ix all i) from at_eq Q C E];show ∃ r,G _ _=some r/\_;rw [zae (za4 (by show _<=(w.1.length:Int)+w.2.1.length;omega) (by show (w.1.length:Int)+w.2.1.length<=_;omega))];generalize N:ix l k=x at d;obtain ⟨z,a,b,u⟩:=x;have H:∀ f,RS l k f->(z=48/\f = .zero)\/(z=49/\f = .one)\/(z=112/\f = .p)\/(z=113/\f = .q)\/(∃ g,RS l a g/\((z=33/\f = .neg g)\/(z=88/\f = .nx g)\/(z=70/\f = .fin g)\/(z=71/\f = .glob g)))\/(∃ g D,RS l a g/\RS l b D/\((z=38/\f = .conj g D)\/(z=124/\f = .disj g D)\/(z=85/\f = .til g D)\/(z=82/\f = .rel g D))):=by
  intro f F;cases F with
  | zero _ _ _ d=>rw [N] at d;exact .inl ⟨d,rfl⟩
  | one _ _ _ d=>rw [N] at d;exact .inr (.inl ⟨d,rfl⟩)
  | p _ _ _ d=>rw [N] at d;exact .inr (.inr (.inl ⟨d,rfl⟩))
  | q _ _ _ d=>rw [N] at d;exact .inr (.inr (.inr (.inl ⟨d,rfl⟩)))
  | neg _ g _ _ d v=>rw [N] at d v;exact .inr (.inr (.inr (.inr (.inl ⟨g,v,.inl ⟨d,rfl⟩⟩))))
  | nx _ g _ _ d v=>rw [N] at d v;exact .inr (.inr (.inr (.inr (.inl ⟨g,v,.inr (.inl ⟨d,rfl⟩)⟩))))
  | fin _ g _ _ d v=>rw [N] at d v;exact .inr (.inr (.inr (.inr (.inl ⟨g,v,.inr (.inr (.inl ⟨d,rfl⟩))⟩))))
  | glob _ g _ _ d v=>rw [N] at d v;exact .inr (.inr (.inr (.inr (.inl ⟨g,v,.inr (.inr (.inr ⟨d,rfl⟩))⟩))))
  | conj _ g D _ _ d v y=>rw [N] at d v y;exact .inr (.inr (.inr (.inr (.inr ⟨g,D,v,y,.inl ⟨d,rfl⟩⟩))))
  | disj _ g D _ _ d v y=>rw [N] at d v y;exact .inr (.inr (.inr (.inr (.inr ⟨g,D,v,y,.inr (.inl ⟨d,rfl⟩)⟩))))
  | til _ g D _ _ d v y=>rw [N] at d v y;exact .inr (.inr (.inr (.inr (.inr ⟨g,D,v,y,.inr (.inr (.inl ⟨d,rfl⟩))⟩))))
  | rel _ g D _ _ d v y=>rw [N] at d v y;exact .inr (.inr (.inr (.inr (.inr ⟨g,D,v,y,.inr (.inr (.inr ⟨d,rfl⟩))⟩))))
 have m:∀ {c:Int},c≠z -> ¬ decide ((z,a,b,u).1=c)=true:=fun {c} R=>by simp only [decide_eq_true_eq];exact fun e=>R e.symm
 have tt:∀ {c:Int},c=z->decide ((z,a,b,u).1=c)=true:=fun {c} R=>by simp only [decide_eq_true_eq];exact R.symm
 have d:z=48\/z=49\/z=112\/z=113\/((z=33\/z=88\/z=70\/z=71)/\0<=a/\a < k)\/((z=38\/z=124\/z=85\/z=82)/\(0<=a/\a < k)/\0<=b/\b < k):=d;rcases d with d | d | d | d | ⟨d,a0,a1⟩ | ⟨d,⟨a0,a1⟩,b0,b1⟩
 ·rw [if_neg (m (by omega)),if_neg (m (by omega)),if_neg (m (by omega)),if_neg (m (by omega)),if_neg (m (by omega)),if_neg (m (by omega)),if_neg (m (by omega)),if_pos (tt (by omega))];refine ⟨false,rfl,fun f F => ?_⟩;rcases H f F with ⟨_,rfl⟩ | ⟨e,_⟩ | ⟨e,_⟩ | ⟨e,_⟩ | ⟨g,_,⟨e,_⟩ | ⟨e,_⟩ | ⟨e,_⟩ | ⟨e,_⟩⟩ | ⟨g,D,_,_,⟨e,_⟩ | ⟨e,_⟩ | ⟨e,_⟩ | ⟨e,_⟩⟩
  ·exact ⟨fun e=>(by cases e),fun e=>e.elim⟩
  all_goals omega
 ·rw [if_pos (tt (by omega))];refine ⟨true,rfl,fun f F => ?_⟩;rcases H f F with ⟨e,_⟩ | ⟨_,rfl⟩ | ⟨e,_⟩ | ⟨e,_⟩ | ⟨g,_,⟨e,_⟩ | ⟨e,_⟩ | ⟨e,_⟩ | ⟨e,_⟩⟩ | ⟨g,D,_,_,⟨e,_⟩ | ⟨e,_⟩ | ⟨e,_⟩ | ⟨e,_⟩⟩
  ·omega
  ·exact ⟨fun _=>trivial,fun _=>rfl⟩
  all_goals omega
 ·rw [if_neg (m (by omega)),if_pos (tt (by omega))];have e:∃ r,(if decide (ix all i=1)=true then some true else some (decide (ix all i=3)))=some r/\(r=true↔ix all i=1\/ix all i=3):=by
   by_cases c:ix all i=1
   ·exact ⟨true,if_pos (decide_eq_true c),by simp [c]⟩
   ·exact ⟨decide (ix all i=3),if_neg (by simpa using c),by simp [c]⟩
  obtain ⟨r,S,I⟩:=e;refine ⟨r,S,fun f F => ?_⟩;rcases H f F with ⟨e,_⟩ | ⟨e,_⟩ | ⟨_,rfl⟩ | ⟨e,_⟩ | ⟨g,_,⟨e,_⟩ | ⟨e,_⟩ | ⟨e,_⟩ | ⟨e,_⟩⟩ | ⟨g,D,_,_,⟨e,_⟩ | ⟨e,_⟩ | ⟨e,_⟩ | ⟨e,_⟩⟩
  ·omega
  ·omega
  ·exact I
  all_goals omega
 ·rw [if_neg (m (by omega)),if_neg (m (by omega)),if_pos (tt (by omega))];have e:∃ r,(if decide (ix all i=2)=true then some true else some (decide (ix all i=3)))=some r/\(r=true↔ix all i=2\/ix all i=3):=by
   by_cases c:ix all i=2
   ·exact ⟨true,if_pos (decide_eq_true c),by simp [c]⟩
   ·exact ⟨decide (ix all i=3),if_neg (by simpa using c),by simp [c]⟩
  obtain ⟨r,S,I⟩:=e;refine ⟨r,S,fun f F => ?_⟩;rcases H f F with ⟨e,_⟩ | ⟨e,_⟩ | ⟨e,_⟩ | ⟨_,rfl⟩ | ⟨g,_,⟨e,_⟩ | ⟨e,_⟩ | ⟨e,_⟩ | ⟨e,_⟩⟩ | ⟨g,D,_,_,⟨e,_⟩ | ⟨e,_⟩ | ⟨e,_⟩ | ⟨e,_⟩⟩
  ·omega
  ·omega
  ·omega
  ·exact I
  all_goals omega
 ·have ar:=V.r a a0 a1;have Y:a < (o.length:Int):=by omega
  have P:∀ g,RS l a g->∀ j,0<=j->j < n->(ix (ix o a) j=true↔Hd n h (ix all) g j):=fun g v=>V.s a a0 a1 g v
  have G1:0<=(z,a,b,u).2.1/\(z,a,b,u).2.1 < (o.length:Int):=⟨a0,Y⟩;rcases d with d | d | d | d
  ·rw [if_neg (m (by omega)),if_neg (m (by omega)),if_neg (m (by omega)),if_pos (tt (by omega)),zae G1,zae ⟨C,by show i < ((ix o a).length:Int);omega⟩];refine ⟨!ix (ix o a) i,rfl,fun f F => ?_⟩;rcases H f F with ⟨e,_⟩ | ⟨e,_⟩ | ⟨e,_⟩ | ⟨e,_⟩ | ⟨g,v,⟨e,rfl⟩ | ⟨e,_⟩ | ⟨e,_⟩ | ⟨e,_⟩⟩ | ⟨g,D,_,_,⟨e,_⟩ | ⟨e,_⟩ | ⟨e,_⟩ | ⟨e,_⟩⟩
   ·omega
   ·omega
   ·omega
   ·omega
   ·show (!_)=true ↔ ¬ Hd n h (ix all) g i;rw [<- P g v i C E];simp
   all_goals omega
  ·rw [if_neg (m (by omega)),if_neg (m (by omega)),if_neg (m (by omega)),if_neg (m (by omega)),if_neg (m (by omega)),if_neg (m (by omega)),if_pos (tt (by omega)),zae G1,zqp Q C E];show ∃ r,G _ _=some r/\_;rw [zae ⟨x0,by show nxt n h i < ((ix o a).length:Int);omega⟩];refine ⟨ix (ix o a) (nxt n h i),rfl,fun f F => ?_⟩;rcases H f F with ⟨e,_⟩ | ⟨e,_⟩ | ⟨e,_⟩ | ⟨e,_⟩ | ⟨g,v,⟨e,_⟩ | ⟨e,rfl⟩ | ⟨e,_⟩ | ⟨e,_⟩⟩ | ⟨g,D,_,_,⟨e,_⟩ | ⟨e,_⟩ | ⟨e,_⟩ | ⟨e,_⟩⟩
   ·omega
   ·omega
   ·omega
   ·omega
   ·omega
   ·exact P g v _ x0 x1
   all_goals omega
  ·rw [if_neg (m (by omega)),if_neg (m (by omega)),if_neg (m (by omega)),if_neg (m (by omega)),if_neg (m (by omega)),if_neg (m (by omega)),if_neg (m (by omega)),if_neg (m (by omega))];subst d;obtain ⟨r,S,I⟩:=zE1 Q (l:=l) N a0 Y ar _ i 0 rfl (by omega) (by omega) C E;refine ⟨r,S,fun f F => ?_⟩;rcases H f F with ⟨e,_⟩ | ⟨e,_⟩ | ⟨e,_⟩ | ⟨e,_⟩ | ⟨g,v,⟨e,_⟩ | ⟨e,_⟩ | ⟨e,rfl⟩ | ⟨e,_⟩⟩ | ⟨g,D,_,_,⟨e,_⟩ | ⟨e,_⟩ | ⟨e,_⟩ | ⟨e,_⟩⟩
   ·omega
   ·omega
   ·omega
   ·omega
   ·omega
   ·omega
   ·rw [I];constructor
    ·rintro ⟨t,_,T,_⟩;obtain ⟨J,L⟩:=zkR M t ⟨C,E⟩;exact ⟨t,(P g v _ J L).1 T⟩
    ·rintro ⟨t,T⟩;obtain ⟨t',q1,Z,q3⟩:=Un.bound M (A:=fun _=>True) (B:=Hd n h (ix all) g) ⟨C,E⟩ ⟨t,T,fun _ _=>trivial⟩;obtain ⟨J,L⟩:=zkR M t' ⟨C,E⟩;exact ⟨t',by omega,(P g v _ J L).2 Z,fun _ _=>trivial⟩
   all_goals omega
  ·rw [if_neg (m (by omega)),if_neg (m (by omega)),if_neg (m (by omega)),if_neg (m (by omega)),if_neg (m (by omega)),if_neg (m (by omega)),if_neg (m (by omega)),if_neg (m (by omega))];subst d;obtain ⟨r,S,I⟩:=zE2 Q (l:=l) N a0 Y ar _ i 0 rfl (by omega) (by omega) C E;refine ⟨r,S,fun f F => ?_⟩;rcases H f F with ⟨e,_⟩ | ⟨e,_⟩ | ⟨e,_⟩ | ⟨e,_⟩ | ⟨g,v,⟨e,_⟩ | ⟨e,_⟩ | ⟨e,_⟩ | ⟨e,rfl⟩⟩ | ⟨g,D,_,_,⟨e,_⟩ | ⟨e,_⟩ | ⟨e,_⟩ | ⟨e,_⟩⟩
   ·omega
   ·omega
   ·omega
   ·omega
   ·omega
   ·omega
   ·omega
   ·have U:r=false ↔ ¬ Hd n h (ix all) (.glob g) i:=by
     rw [I];constructor
     ·rintro ⟨t,_,T,_⟩ hall;obtain ⟨J,L⟩:=zkR M t ⟨C,E⟩;exact (bf (P g v _ J L)).1 T (hall t)
     ·intro X;have:∃ t:Nat,¬ Hd n h (ix all) g (it n h t i):=Classical.byContradiction fun R=>X fun t=>Classical.byContradiction fun U=>R ⟨t,U⟩
      obtain ⟨t,T⟩:=this;obtain ⟨t',q1,Z,q3⟩:=Un.bound M (A:=fun _=>True) (B:=fun p => ¬ Hd n h (ix all) g p) ⟨C,E⟩ ⟨t,T,fun _ _=>trivial⟩;obtain ⟨J,L⟩:=zkR M t' ⟨C,E⟩;exact ⟨t',by omega,(bf (P g v _ J L)).2 Z,fun _ _=>trivial⟩
    cases r with
    | true=>exact ⟨fun _=>Classical.byContradiction fun R=>(by have:=U.2 R;cases this),fun _=>rfl⟩
    | false=>exact ⟨fun e=>(by cases e),fun e=>absurd e (U.1 rfl)⟩
   all_goals omega
 ·have ar:=V.r a a0 a1;have br:=V.r b b0 b1;have Y:a < (o.length:Int):=by omega
  have lb:b < (o.length:Int):=by omega
  have P:∀ g,RS l a g->∀ j,0<=j->j < n->(ix (ix o a) j=true↔Hd n h (ix all) g j):=fun g v=>V.s a a0 a1 g v
  have fb:∀ g,RS l b g->∀ j,0<=j->j < n->(ix (ix o b) j=true↔Hd n h (ix all) g j):=fun g v=>V.s b b0 b1 g v
  have G1:0<=(z,a,b,u).2.1/\(z,a,b,u).2.1 < (o.length:Int):=⟨a0,Y⟩;have G2:0<=(z,a,b,u).2.2.1/\(z,a,b,u).2.2.1 < (o.length:Int):=⟨b0,lb⟩;rcases d with d | d | d | d
  ·rw [if_neg (m (by omega)),if_neg (m (by omega)),if_neg (m (by omega)),if_neg (m (by omega)),if_pos (tt (by omega)),zae G1,zae ⟨C,by show i < ((ix o a).length:Int);omega⟩];refine ⟨ix (ix o a) i && ix (ix o b) i,?_,fun f F => ?_⟩
   ·show (if ix (ix o a) i=true then _ else _)=_;cases ix (ix o a) i
    ·rfl
    ·rw [if_pos rfl,zae G2,zae ⟨C,by show i < ((ix o b).length:Int);omega⟩];rfl
   rcases H f F with ⟨e,_⟩ | ⟨e,_⟩ | ⟨e,_⟩ | ⟨e,_⟩ | ⟨g,v,⟨e,_⟩ | ⟨e,_⟩ | ⟨e,_⟩ | ⟨e,_⟩⟩ | ⟨g,D,v,y,⟨e,rfl⟩ | ⟨e,_⟩ | ⟨e,_⟩ | ⟨e,_⟩⟩
   all_goals first | omega | skip
   rw [Bool.and_eq_true,P g v i C E,fb D y i C E];exact Iff.rfl
  ·rw [if_neg (m (by omega)),if_neg (m (by omega)),if_neg (m (by omega)),if_neg (m (by omega)),if_neg (m (by omega)),if_pos (tt (by omega)),zae G1,zae ⟨C,by show i < ((ix o a).length:Int);omega⟩];refine ⟨ix (ix o a) i || ix (ix o b) i,?_,fun f F => ?_⟩
   ·show (if ix (ix o a) i=true then _ else _)=_;cases ix (ix o a) i
    ·rw [if_neg (by simp),zae G2,zae ⟨C,by show i < ((ix o b).length:Int);omega⟩];rfl
    ·rfl
   rcases H f F with ⟨e,_⟩ | ⟨e,_⟩ | ⟨e,_⟩ | ⟨e,_⟩ | ⟨g,v,⟨e,_⟩ | ⟨e,_⟩ | ⟨e,_⟩ | ⟨e,_⟩⟩ | ⟨g,D,v,y,⟨e,_⟩ | ⟨e,rfl⟩ | ⟨e,_⟩ | ⟨e,_⟩⟩
   all_goals first | omega | skip
   rw [Bool.or_eq_true,P g v i C E,fb D y i C E];exact Iff.rfl
  ·rw [if_neg (m (by omega)),if_neg (m (by omega)),if_neg (m (by omega)),if_neg (m (by omega)),if_neg (m (by omega)),if_neg (m (by omega)),if_neg (m (by omega)),if_neg (m (by omega))];subst d;obtain ⟨r,S,I⟩:=zE4 Q (l:=l) N a0 Y ar b0 lb br _ i 0 rfl (by omega) (by omega) C E;refine ⟨r,S,fun f F => ?_⟩;rcases H f F with ⟨e,_⟩ | ⟨e,_⟩ | ⟨e,_⟩ | ⟨e,_⟩ | ⟨g,v,⟨e,_⟩ | ⟨e,_⟩ | ⟨e,_⟩ | ⟨e,_⟩⟩ | ⟨g,D,v,y,⟨e,_⟩ | ⟨e,_⟩ | ⟨e,rfl⟩ | ⟨e,_⟩⟩
   all_goals first | omega | skip
   rw [I];constructor
   ·rintro ⟨t,_,T,hs⟩;obtain ⟨J,L⟩:=zkR M t ⟨C,E⟩;exact ⟨t,(fb D y _ J L).1 T,fun s O=>by obtain ⟨J,L⟩:=zkR M s ⟨C,E⟩;exact (P g v _ J L).1 (hs s O)⟩
   ·intro hu;obtain ⟨t',q1,Z,q3⟩:=Un.bound M ⟨C,E⟩ hu;obtain ⟨J,L⟩:=zkR M t' ⟨C,E⟩;exact ⟨t',by omega,(fb D y _ J L).2 Z,fun s O=>by obtain ⟨J,L⟩:=zkR M s ⟨C,E⟩;exact (P g v _ J L).2 (q3 s O)⟩
  ·rw [if_neg (m (by omega)),if_neg (m (by omega)),if_neg (m (by omega)),if_neg (m (by omega)),if_neg (m (by omega)),if_neg (m (by omega)),if_neg (m (by omega)),if_neg (m (by omega))];subst d;obtain ⟨r,S,I⟩:=zE3 Q (l:=l) N a0 Y ar b0 lb br _ i 0 rfl (by omega) (by omega) C E;refine ⟨r,S,fun f F => ?_⟩;rcases H f F with ⟨e,_⟩ | ⟨e,_⟩ | ⟨e,_⟩ | ⟨e,_⟩ | ⟨g,v,⟨e,_⟩ | ⟨e,_⟩ | ⟨e,_⟩ | ⟨e,_⟩⟩ | ⟨g,D,v,y,⟨e,_⟩ | ⟨e,_⟩ | ⟨e,_⟩ | ⟨e,rfl⟩⟩
   all_goals first | omega | skip
   have U:r=false ↔ ¬ Hd n h (ix all) (.rel g D) i:=by
    rw [I];constructor
    ·rintro ⟨t,_,T,hs⟩ hall;obtain ⟨J,L⟩:=zkR M t ⟨C,E⟩;rcases hall t with W | ⟨s,O,W⟩
     ·exact (bf (fb D y _ J L)).1 T W
     ·obtain ⟨J,L⟩:=zkR M s ⟨C,E⟩;exact (bf (P g v _ J L)).1 (hs s O) W
    ·intro X;have:Un n h (fun p => ¬ Hd n h (ix all) g p) (fun p => ¬ Hd n h (ix all) D p) i:=Classical.byContradiction fun R=>X fun t=>Classical.byContradiction fun U=>R ⟨t,fun W=>U (.inl W),fun s hs W=>U (.inr ⟨s,hs,W⟩)⟩
     obtain ⟨t',q1,Z,q3⟩:=Un.bound M ⟨C,E⟩ this;obtain ⟨J,L⟩:=zkR M t' ⟨C,E⟩;exact ⟨t',by omega,(bf (fb D y _ J L)).2 Z,fun s O=>by obtain ⟨J,L⟩:=zkR M s ⟨C,E⟩;exact (bf (P g v _ J L)).2 (q3 s O)⟩
   cases r with
   | true=>exact ⟨fun _=>Classical.byContradiction fun R=>(by have:=U.2 R;cases this),fun _=>rfl⟩
   | false=>exact ⟨fun e=>(by cases e),fun e=>absurd e (U.1 rfl)⟩
theorem zBJ (u:Lr w all n h) (Z:(l.length:Int)<=30) (N:WR l) {d:Int} {f:Fm} (E:RS l d f):∃ b,ztm l d (w.1,(w.2.1,()))=some b/\(b=true↔Hd n h (ix all) f 0):=by
 have hh:=u.k.hw;have hm:=u.m;have h1:=u.k.h1;have n1:=u.k.n1;have h0:=u.k.h0;obtain ⟨D,U⟩:=E.rng;have T:(w.1.length:Int)+(w.2.1.length:Int)=n:=by omega
 unfold ztm;rw [zae (za4 (by show _<=(w.1.length:Int)+w.2.1.length;omega) (by show (w.1.length:Int)+w.2.1.length<=_;omega))];have B:∀ (m:Nat) (k:Int) (s:List (List Bool)),(l.length - k).toNat=m->0<=k->k<=l.length->RT n h all l k s->∃ b,zgO l d w k s=some b/\(b=true↔Hd n h (ix all) f 0):=by
  intro m;induction m with
  | zero=>
   intro k s A H S q;have ek:k=l.length:=by omega
   have sl:=q.ln;have sr:=q.r d D (by omega);rw [zpR];unfold zfP;rw [if_neg (by simp only [decide_eq_true_eq];omega),zae ⟨D,by omega⟩,zae (by omega),zae ⟨by omega,by omega⟩];exact ⟨_,rfl,q.s d D (by omega) f E 0 (by omega) (by omega)⟩
  | succ m Y=>
   intro k s A H S q;have sl:=q.ln;have ex:∀ i,∃ b:Bool,0<=i->i < n->zq8 l s k i (w.1,(w.2.1,()))=some b/\∀ f,RS l k f->(b=true↔Hd n h (ix all) f i):=fun i=>by
    by_cases c:0<=i/\i < n
    ·obtain ⟨b,e⟩:=zCP u N H (by omega) q c.1 c.2;exact ⟨b,fun _ _=>e⟩
    ·exact ⟨false,fun O c1=>absurd ⟨O,c1⟩ c⟩
   obtain ⟨v,M⟩:=Classical.axiomOfChoice ex;rw [zpR];unfold zfP;rw [if_pos (decide_eq_true (by omega)),T,zae ⟨by omega,by omega,by omega⟩];obtain ⟨own,⟨V,W⟩,C⟩:=zDD (len:=n) (lo:=0) (L:=fun t (p:List Bool)=>ze0 l w k s (zgO l d w) t p) (f:=fun t p=>p.set t.toNat (v t))
    (I:=fun t (p:List Bool)=>(p.length:Int)=n/\∀ j,0<=j->j < t->ix p j=v j) (s:=List.replicate n.toNat false) (by omega) ⟨by simp;omega,fun j a b=>by omega⟩
    (fun t p z P Q=>by
     obtain ⟨U,X⟩:=Q;constructor
     ·show ze0 l w k s (zgO l d w) t p=ze0 l w k s (zgO l d w) (t+1) _
      conv=>lhs;rw [zpS];unfold zfQ
      rw [if_pos (decide_eq_true (by omega)),(M t z P).1];show G _ _=_;rw [zae ⟨z,by omega⟩,zae (by omega),zae (za4 (by omega) (by omega))]
     ·refine ⟨by simp;omega,fun j r y => ?_⟩;by_cases J:j=t
      ·subst J;rw [zfM r (by omega)]
      ·rw [zel z r (fun e=>J e.symm)];exact X j r (by omega))
   rw [show ze0 l w k s (zgO l d w) 0 (List.replicate n.toNat false)=_ from C];rw [zpS];unfold zfQ;rw [if_neg (by simp only [decide_eq_true_eq];omega),zae (znq (by simp only [List.length_singleton];omega)),zae (za4 (by omega) (by omega))];refine Y (k+1) (s++[own]) (by omega) (by omega) (by omega) ⟨by simp;omega,fun o x R => ?_,fun o x R g F j r y => ?_⟩
   ·by_cases e:o < k
    ·rw [zaq x (by omega)];exact q.r o x e
    ·have:o=s.length:=by omega
     rw [this,zas];exact V
   ·by_cases e:o < k
    ·rw [zaq x (by omega)];exact q.s o x e g F j r y
    ·have C:o=k:=by omega
     subst C;have:o=s.length:=by omega
     rw [show ix (s++[own]) o=own by rw [this,zas],W j r y];exact (M j r y).2 g F
 exact B _ 0 [] rfl (by omega) (by omega) ⟨rfl,fun o a b=>by omega,fun o a b=>by omega⟩
end
theorem zDC (l:L3):(fins l).Pairwise (· < ·):=by
 unfold fins;rw [List.pairwise_map];refine List.pairwise_lt_range.imp fun {a b} h => ?_
 have c:0 < uN l:=by unfold uN;omega
 have:((a:Int)+1) * uN l<=(b:Int) * uN l:=Int.mul_le_mul_of_nonneg_right (by omega) (by omega);rw [Int.add_mul] at this;omega
theorem zBb {n h:Int} (a:0<=h/\h < n):∀ t:Nat,(t:Int) < n->it n h t 0=t
 | 0,_=>rfl
 | t+1,ht=>by
  rw [zwi,zBb a t (by omega)];unfold nxt;rw [if_neg (by omega)];omega
theorem zE0 {n h:Int} (a:0<=h/\h < n) {t:Nat} (g:h<=t):it n h (t+(n - h).toNat) 0=it n h t 0:=by
 have b:it n h n.toNat 0=h:=by
  obtain ⟨m,f⟩:∃ m,n.toNat=m+1:=⟨n.toNat - 1,by omega⟩;rw [f,zwi,zBb a m (by omega)];unfold nxt;rw [if_pos (by omega)]
 have c:it n h h.toNat 0=h:=by rw [zBb a _ (by omega)];omega
 have d:t+(n - h).toNat=n.toNat+(t - h.toNat):=by omega
 have e:t=h.toNat+(t - h.toNat):=by omega
 rw [d,ztW,b]
 conv=>rhs;rw [e,ztW,c]
theorem zDR:zpc (0,0,[],[],[],())=some true:=by
 unfold zpc;rw [if_pos (by simp),if_pos (by simp),zae (by unfold fits;simp),zae (by unfold fits;simp)];simp
open Classical in
theorem zAs {l:L3} (h:TL l):∃ o,zeT l 0 l [] []=some (o,0)/\o.1=4/\autE o=0/\AuOk o/\∀ (u:Nat->Int) (V:Int->Nat->Prop),(∀ t,0<=u t/\u t < 4)->Val l u V->(InfA o u↔V ((l.length:Int) - 1) 0):=by
 have w:=h.all;have H:=zBY h;have z:=zBQ h;have I:0<=((2 ^ (tl l).length:Nat):Int) * uN l/\((2 ^ (tl l).length:Nat):Int) * uN l<=192:=by
  have:(uN l:Int)=1\/(uN l:Int)=2\/(uN l:Int)=3\/(uN l:Int)=4\/(uN l:Int)=5\/(uN l:Int)=6:=by omega
  rcases this with e | e | e | e | e | e<;>rw [e]<;>omega
 have A:(fins l).length<=32:=by unfold fins;rw [List.length_map,List.length_range];exact w.2
 obtain ⟨o,E,d⟩:=zyJ (c:=4) (c1:=((2 ^ (tl l).length:Nat):Int) * uN l+1) (l:=[((2 ^ (tl l).length:Nat):Int) * uN l]) (l1:=zsX l) (l2:=fins l) (by simp) (by omega) (by omega) (List.pairwise_singleton _ _) (zDC l);have f:∀ q∈fins l,0<=q/\q < ((2 ^ (tl l).length:Nat):Int) * uN l+1:=fun q g=>by
  obtain ⟨t,s,rfl⟩:=zwp.1 g;have:=ltU h (a:=(t:Int)) (b:=((2 ^ (tl l).length:Nat):Int)) (c:=(uN l:Int) - 1) (by omega) (by omega);have B:0<=(t:Int) * uN l:=Int.mul_nonneg (by omega) (by omega);omega
 have m:∀ x∈zsX l,(0<=x.1/\x.1 < ((2 ^ (tl l).length:Nat):Int) * uN l+1)/\(0<=x.2.1/\x.2.1 < 4)/\(0<=x.2.2.1/\x.2.2.1 < ((2 ^ (tl l).length:Nat):Int) * uN l+1):=fun x i=>by
  obtain ⟨p,y,q,_⟩:=x;obtain ⟨F,bits,J,v⟩:=zt3.1 i;have C:0<=(bits:Int) * uN l:=Int.mul_nonneg (by omega) (by omega);refine ⟨?_,F,?_⟩
  ·rcases v with ⟨_,e,_⟩ | ⟨told,k,s,hk,_,e,_⟩
   ·have e:p=_:=e;show 0<=p/\p < _;rw [e];omega
   ·have:=ltU h (a:=(told:Int)) (b:=((2 ^ (tl l).length:Nat):Int)) (c:=(k:Int)) (by omega) (by omega);have B:0<=(told:Int) * uN l:=Int.mul_nonneg (by omega) (by omega);have e:p=_:=e;show 0<=p/\p < _;rw [e];omega
  ·rcases v with ⟨_,_,e⟩ | ⟨told,k,s,hk,_,_,e⟩
   ·have:=ltU h (a:=(bits:Int)) (b:=((2 ^ (tl l).length:Nat):Int)) (c:=0) (by omega) (by omega);have e:q=_:=e;show 0<=q/\q < _;rw [e];omega
   ·have D:=zyL (l:=l) (nv l y bits) (k:=(k:Int)) (by omega) (by omega);have:=ltU h (a:=(bits:Int)) (b:=((2 ^ (tl l).length:Nat):Int)) (c:=toF l (nv l y bits) k) D.2 (by omega);have e:q=_:=e;show 0<=q/\q < _;rw [e];omega
 have r:=d.autE ⟨by omega,by omega⟩ ⟨by omega,by omega⟩ (by omega) (fun q g=>by rw [List.mem_singleton.1 g];omega) f m;refine ⟨o,?_,d.c,r,zAr r,fun u V i n=>⟨fun j => ?_,fun j => ?_⟩⟩
 ·rw [zDk h,E];rfl
 ·exact zFg h n (fun p x q=>d.m1 _) (fun q=>(d.m q).trans List.mem_singleton) d.m2 j
 ·exact zFf h i n (fun p x q=>d.m1 _) (fun q=>(d.m q).trans List.mem_singleton) d.m2 j
open Classical in
theorem law_true (c:List UInt8) (w:W3):zoq c w=some true:=by
 have C:(w.1,w.2.1,())=w:=rfl;unfold zoq zuA;rcases zz3 c with ⟨l,b,l2,r,s,v,F,x,k,z,⟨f,H,I⟩,htm⟩ | ⟨cd,pl,r,s,hcd⟩
 ·obtain ⟨o,J,L,M,a,N⟩:=zAs (l:=l) ⟨k,F,v,htm⟩;have p:(o.1,o.2.1,o.2.2.1,o.2.2.2.1,o.2.2.2.2.1,())=o:=rfl;have hol:AuLen o:=⟨by have:=a.ls;omega,by have:=a.lf;omega⟩;simp only [r,s,J,Option.bind_some,not_true_eq_false,decide_false,Bool.false_eq_true,if_false];rw [p,zwD hol,M];simp only [Option.bind_some,L,not_true_eq_false,decide_false,Bool.false_eq_true,if_false];rw [show zqW 4 (w.1,(w.2.1,()))=some (lasE 4 w) from zwB];simp only [Option.bind_some];by_cases q:lasE 4 w=0
  ·obtain ⟨O,P,g⟩:=zBe q;obtain ⟨_,W,Q⟩:=zxg O;obtain ⟨_,X,S⟩:=zxg P;simp only [q,not_true_eq_false,decide_false,Bool.false_eq_true,if_false];have lk:Lk w (w.1++w.2.1) ((w.1.length:Int)+w.2.1.length) w.1.length:=⟨rfl,by simp,by omega,by omega,by omega,fun i m A=>by
    by_cases e:i < w.1.length
    ·rw [zaq m e];exact Q _ (zlH m e)
    ·rw [zit (by omega)];exact S _ (zlH (by omega) (by omega))⟩
   have D:Lr w (w.1++w.2.1) ((w.1.length:Int)+w.2.1.length) w.1.length:=⟨lk,by omega,rfl⟩;obtain ⟨y,T,U⟩:=zBJ D x z I;have n:0<=(w.1.length:Int)/\(w.1.length:Int) < (w.1.length:Int)+w.2.1.length:=⟨by omega,by omega⟩
   let u:Nat->Int:=fun t=>ix (w.1++w.2.1) (it ((w.1.length:Int)+w.2.1.length) w.1.length t 0)
   have h:∀ t,w.1.length<=t->u (t+w.2.1.length)=u t:=fun t V=>by
    have:=zE0 n (t:=t) (by omega);rw [show ((w.1.length:Int)+w.2.1.length - w.1.length).toNat=w.2.1.length by omega] at this;show ix _ (it _ _ (t+w.2.1.length) 0)=_;rw [this]
   have R:zmy o w=some (decide (InfA o u)):=by
    rw [zxI (l:=w) (u:=u) a (by omega) rfl (by omega) rfl g (fun i B => ?_) (fun i B => ?_)]
    ·congr 1;exact decide_eq_decide.2 (zD1 a g h)
    ·show _=ix (w.1++w.2.1) (it _ _ i 0);rw [zBb n i (by omega),zaq (by omega) (by omega)]
    ·show _=ix (w.1++w.2.1) (it _ _ (w.1.length+i) 0);rw [zBb n (w.1.length+i) (by omega),zit (by omega)];congr 1;omega
   have E:∀ t,0<=u t/\u t < 4:=fun t=>by
    obtain ⟨m,A⟩:=zkR n t (i:=0) ⟨by omega,by omega⟩;exact lk.lt _ m A
   have d:=N u _ E (zFu k ((w.1.length:Int)+w.2.1.length) w.1.length (ix (w.1++w.2.1)));rw [Vt.iff H] at d;have j:InfA o u↔y=true:=d.trans ((zrr f 0).trans U.symm);rw [T,C,R];simp only [Option.bind_some];have:decide (InfA o u)=y:=by cases y<;>simp [j]
   rw [this];simp
  ·simp only [q,not_false_eq_true,decide_true,if_true]
 ·simp only [r,s,Option.bind_some,hcd,not_false_eq_true,decide_true,if_true];rw [zDR];simp
end
end Go.Proofs.Ytajabcfngklacaa.timeAutoW
