/- The law 'BranchPaths' of the plain functions. -/
import Derived.Test.YtegenlccllgjoaaBranchPathsD
set_option maxHeartbeats 1000000
set_option maxRecDepth 20000
set_option linter.unusedSimpArgs false
set_option linter.unusedVariables false
set_option linter.unusedSectionVars false
namespace Go.Proofs.Ytegenlccllgjoaa.branchPathsW
open Go Go.Ab
abbrev ND:=Int×Bool×Int×Unit
abbrev L5:=List (Int×Bool×Int×Int×Int×Unit)
def nowT (c:List UInt8) (i:Int):Int:=if i < c.length then bAt c i else 0
theorem zoJ {c:List UInt8} {i:Int} (h:nowT c i≠0):i < c.length:=by
 unfold nowT at h;by_cases h1:i < c.length
 ·exact h1
 ·rw [if_neg h1] at h;exact absurd rfl h
section
variable {c:List UInt8} {i n s f a:Int} {l:L5}
theorem zzD (h0:0<=i):zb5 (c,(i,(s,(n,()))))=some (nowT c i):=by
 unfold zb5 nowT;by_cases h:i < (c.length:Int)
 ·rw [if_pos (by simp [h]),zad ⟨h0,h⟩,if_pos h]
 ·simp [h]
theorem zwA (h0:0<=i):zdg (c,(i,(s,(n,(l,((f,(a,())),()))))))=some (nowT c i):=by
 unfold zdg nowT;by_cases h:(c.length:Int)<=i
 ·have : ¬ i < (c.length:Int):=by omega
  simp [h,this]
 ·have h2:i < c.length:=by omega
  simp only [h,decide_false,Bool.false_eq_true,if_false,if_pos h2];exact zad ⟨h0,h2⟩
theorem r_ok:zh2 (c,(i,(s,(n,(l,((f,(a,())),()))))))=some (decide (f=0)):=rfl
theorem zqg {k:Int}:zcm k c i s n f a l=if f=0 then some (c,i,s,n,l,k,i) else some (c,i,s,n,l,f,a):=by
 unfold zcm;by_cases h:f=0<;>simp [h]
theorem zoL (h0:0<=i) (h1:i<=c.length) (hc:c.length<=4000) (hn:0<=n/\n<=30):
  zaO c i s n=if 30 < n+1 then some (.inr (7,i)) else some (.inl (c,i+1,s,n+1)):=by
 unfold zaO;rw [zad (zaE (by omega) (by omega))]
 by_cases h:(30:Int) < n+1
 ·simp [h,p_fail,pbind_inr]
 ·simp only [h,decide_false,Bool.false_eq_true,if_false];exact zad (zaE (by omega) (by omega))
theorem zo9 (h0:0<=i) (h1:i<=c.length) (hc:c.length<=4000) (hn:0<=n/\n<=30):
  zbf c i s n 0 0 l=if 30 < n+1 then some (c,i+1,s,n+1,l,7,i) else some (c,i+1,s,n+1,l,0,0):=by
 have f3:fits (i+1):=zaE (by omega) (by omega)
 unfold zbf;rw [zad (zaE (by omega) (by omega))]
 by_cases h:(30:Int) < n+1
 ·simp [h,zqg,zad f3]
 ·simp [h,zad f3]
theorem zl9 (h:l.length<=1000) {k v x y:Int} {b:Bool}:zbV (k,(b,(v,(x,(y,()))))) c i s n f a l=some ((l.length:Int),c,i,s,n,l++[(k,b,v,x,y,())],f,a):=by
 unfold zbV;have e:(((l++[(k,(b,(v,(x,(y,())))))]).length:Int) - 1)=(l.length:Int):=by simp
 rw [zad (zkP (by simp;omega))]
 simp only [e];rw [zad (zaE (by omega) (by omega))]
theorem zCk (h0:0<=i/\i<=5000) (hs:0<=s/\s<=40):zdG c i s n=if s=40 then some (.inr (7,i)) else some (.inl (c,i+1,s+1,n)):=by
 unfold zdG;by_cases h:s=40
 ·simp [h,p_fail,pbind_inr]
 ·simp only [h,decide_false,Bool.false_eq_true,if_false];rw [zad (zaE (by omega) (by omega)),zad (zaE (by omega) (by omega))]
theorem zCo (h0:0<=i/\i<=5000) (hs:0<=s/\s<=40):zdl c i s n 0 0 l=if s=40 then some (c,i+1,s+1,n,l,7,i) else some (c,i+1,s+1,n,l,0,0):=by
 have f1:fits (s+1):=zaE (by omega) (by omega)
 have f2:fits (i+1):=zaE (by omega) (by omega)
 unfold zdl;by_cases h:s=40
 ·have f4:fits (41:Int):=zaE (by omega) (by omega)
  subst h;simp [zqg,zad f4,zad f2]
 ·simp [h,zad f1,zad f2]
theorem zCm {k:Int} (h0:0<=i/\i<=5000):zdI k c i s n=if nowT c i=k then some (.inl (c,i+1,s,n)) else some (.inr (4,i)):=by
 have f2:fits (i+1):=zaE (by omega) (by omega)
 unfold zdI;rw [zzD h0.1];by_cases h:nowT c i=k
 ·simp [h,zad f2]
 ·simp [h,p_fail,pbind_inr]
theorem zBa {k:Int} (h0:0<=i/\i<=5000):zcN k c i s n 0 0 l=if nowT c i=k then some (c,i+1,s,n,l,0,0) else some (c,i+1,s,n,l,4,i):=by
 have f2:fits (i+1):=zaE (by omega) (by omega)
 unfold zcN;rw [zwA h0.1];by_cases h:nowT c i=k
 ·simp [h,zad f2]
 ·simp [h,zqg,zad f2]
theorem zp1 {k:Int} (hf:f≠0) (h0:0<=i/\i<=5000):zcN k c i s n f a l=some (c,i+1,s,n,l,f,a):=by
 have f2:fits (i+1):=zaE (by omega) (by omega)
 unfold zcN;rw [zwA h0.1];by_cases h:nowT c i=k
 ·simp [h,zad f2]
 ·simp [h,zqg,hf,zad f2]
theorem zyM (hf:f≠0):zau c i s n f a l=some (0,c,i,s,n,l,f,a):=by
 rw [zlC];unfold zcD;rw [r_ok];simp [hf]
theorem zwc (hf:f≠0) (h0:0<=i) (x:Int):zbN zau x c i s n f a l=some (x,c,i,s,n,l,f,a):=by
 rw [zjr];unfold zbJ;rw [zwA h0];simp only [Option.bind_some];rw [r_ok];simp [hf]
theorem zCf (hf:f≠0) (h0:0<=i):zbW zau c i s n f a l=some (0,c,i,s,n,l,f,a):=by
 unfold zbW;rw [zyM hf];simp only [Option.bind_some];exact zwc hf h0 0
theorem ztF (hf:f≠0) (h0:0<=i) (x:Int):zbA zau x c i s n f a l=some (x,c,i,s,n,l,f,a):=by
 rw [ziK];unfold zbB;rw [zwA h0];simp only [Option.bind_some];rw [r_ok];simp [hf]
theorem zqw (hf:f≠0) (h0:0<=i):zbb zau c i s n f a l=some (0,c,i,s,n,l,f,a):=by
 unfold zbb;rw [zCf hf h0];simp only [Option.bind_some];exact ztF hf h0 0
end
def vT (x:Int×Bool×Int×Int×Int×Unit):ND:=(x.1,x.2.1,x.2.2.1,())
def xA (x:Int×Bool×Int×Int×Int×Unit):Int:=x.2.2.2.1
def xB (x:Int×Bool×Int×Int×Int×Unit):Int:=x.2.2.2.2.1
inductive Stn (l:L5):Tr ND->Int->Prop
 | leaf (k:Int) (h0:0<=k) (h1:k < l.length) (hs:(ix l k).1=48\/(ix l k).1=49\/(ix l k).1=97):Stn l (Tr.mk (vT (ix l k)) []) k
 | one (k:Int) (a:Tr ND) (h0:0<=k) (h1:k < l.length) (hs:(ix l k).1=33\/(ix l k).1=88\/(ix l k).1=70\/(ix l k).1=71) (ha:Stn l a (xA (ix l k))):Stn l (Tr.mk (vT (ix l k)) [a]) k
 | two (k:Int) (a b:Tr ND) (h0:0<=k) (h1:k < l.length) (hs:(ix l k).1=38\/(ix l k).1=124\/(ix l k).1=85) (ha:Stn l a (xA (ix l k))) (hb:Stn l b (xB (ix l k))):Stn l (Tr.mk (vT (ix l k)) [a,b]) k
theorem Stn.mono {l m:L5} {t:Tr ND} {k:Int} (h:Stn l t k):Stn (l++m) t k:=by
 induction h with
 | leaf k h0 h1 hs=>
  have e:ix (l++m) k=ix l k:=zbd h0 h1;rw [<- e] at hs ⊢;exact .leaf k h0 (by simp;omega) hs
 | one k a h0 h1 hs ha iha=>
  have e:ix (l++m) k=ix l k:=zbd h0 h1;rw [<- e] at hs iha ⊢;exact .one k a h0 (by simp;omega) hs iha
 | two k a b h0 h1 hs ha hb iha ihb=>
  have e:ix (l++m) k=ix l k:=zbd h0 h1;rw [<- e] at hs iha ihb ⊢;exact .two k a b h0 (by simp;omega) hs iha ihb
abbrev NR:=Int×Bool×Int×Int×Int×Unit
theorem Stn.put_leaf {l:L5} {x:NR} (hs:x.1=48\/x.1=49\/x.1=97):Stn (l++[x]) (Tr.mk (vT x) []) l.length:=by
 have e:ix (l++[x]) (l.length:Int)=x:=zdc;have:=Stn.leaf (l:=l++[x]) l.length (by omega) (by simp;omega) (by rw [e];exact hs)
 rw [e] at this;exact this
theorem Stn.put_one {l:L5} {x:NR} {a:Tr ND} (hs:x.1=33\/x.1=88\/x.1=70\/x.1=71) (ha:Stn l a (xA x)):Stn (l++[x]) (Tr.mk (vT x) [a]) l.length:=by
 have e:ix (l++[x]) (l.length:Int)=x:=zdc;have:=Stn.one (l:=l++[x]) l.length a (by omega) (by simp;omega) (by rw [e];exact hs) (by rw [e];exact ha.mono)
 rw [e] at this;exact this
theorem Stn.put_two {l:L5} {x:NR} {a b:Tr ND} (hs:x.1=38\/x.1=124\/x.1=85) (ha:Stn l a (xA x)) (hb:Stn l b (xB x)):Stn (l++[x]) (Tr.mk (vT x) [a,b]) l.length:=by
 have e:ix (l++[x]) (l.length:Int)=x:=zdc;have:=Stn.two (l:=l++[x]) l.length a b (by omega) (by simp;omega) (by rw [e];exact hs) (by rw [e];exact ha.mono) (by rw [e];exact hb.mono)
 rw [e] at this;exact this
def Ext (l l':L5):Prop:=∃ m,l'=l++m
theorem Ext.refl (l:L5):Ext l l:=⟨[],by simp⟩
theorem Ext.trans {l l' l2:L5} (h:Ext l l') (h2:Ext l' l2):Ext l l2:=by
 obtain ⟨m,rfl⟩:=h;obtain ⟨m',rfl⟩:=h2;exact ⟨m++m',by simp⟩
theorem Ext.snoc (l:L5) (x:NR):Ext l (l++[x]):=⟨[x],rfl⟩
theorem Ext.put {l l':L5} (h:Ext l l') (x:NR):Ext l (l'++[x]):=h.trans (Ext.snoc l' x)
theorem Ext.stn {l l':L5} (h:Ext l l') {t:Tr ND} {k:Int} (h2:Stn l t k):Stn l' t k:=by
 obtain ⟨m,rfl⟩:=h;exact h2.mono
structure Pre (c:List UInt8) (i n s:Int) (l:L5):Prop where
 i0:0<=i
 i1:i<=c.length
 c1:c.length<=4000
 n0:0<=n
 n1:n<=30
 s0:0<=s
 s1:s<=40
 l1:(l.length:Int)<=n
def Sm (c:List UInt8) (i n s:Int) (l:L5) (o:Option ((Tr ND×List UInt8×Int×Int×Int)⊕(Int×Int))) (r:Option (Int×List UInt8×Int×Int×Int×L5×Int×Int)):Prop:=
 (∃ a b i' n' l',o=some (.inl (a,c,i',s,n'))/\r=some (b,c,i',s,n',l',0,0)/\i<=i'/\i'<=c.length/\n<=n'/\n'<=30/\(l'.length:Int)+n<=l.length+n'/\Ext l l'/\Stn l' a b)
 \/(∃ cd pl b i' n' l',o=some (.inr (cd,pl))/\r=some (b,c,i',s,n',l',cd,pl)/\cd≠0/\0<=i'/\i'<=c.length+4 * (41 - s)/\n'<=31/\(l'.length:Int)+n<=l.length+n')
def Part (c:List UInt8) (m:Nat):Prop:=∀ i n s l,Pre c i n s l->((c.length:Int) - i).toNat<=m->Sm c i n s l (zaA c i s n) (zau c i s n 0 0 l)
def Term (c:List UInt8) (m:Nat):Prop:=∀ i n s l,Pre c i n s l->((c.length:Int) - i).toNat<=m->Sm c i n s l (zbp zaA c i s n) (zbW zau c i s n 0 0 l)
def zzT (c:List UInt8) (m:Nat):Prop:=∀ i n s l,Pre c i n s l->((c.length:Int) - i).toNat<=m->Sm c i n s l (zaS zaA c i s n) (zbb zau c i s n 0 0 l)
theorem zBm {c:List UInt8}:∀ m:Nat,(∀ m' < m,Part c m')->∀ a b i n s l,Pre c i n s l->Stn l a b->((c.length:Int) - i).toNat<=m->
  Sm c i n s l (zby zaA a c i s n) (zbN zau b c i s n 0 0 l):=by
 intro m
 induction m using Nat.strongRecOn with
 | ind m ih=>
  intro hP a b i n s l hp hab hm;obtain ⟨i0,i1,c1,n0,n1,s0,s1,q1⟩:=hp;rw [zmi,zjr];unfold zbD zbJ;rw [zzD i0,zwA i0];simp only [Option.bind_some];rw [r_ok];by_cases hb:nowT c i=38
  ·have hlt:i < c.length:=zoJ (by rw [hb];decide)
   simp only [hb,Option.bind_some,decide_true,not_true_eq_false,decide_false,Bool.not_true,Bool.false_eq_true,if_true,if_false];rw [zoL i0 i1 c1 ⟨n0,n1⟩,zo9 i0 i1 c1 ⟨n0,n1⟩];by_cases hbad:30 < n+1
   ·simp only [hbad,if_true,pbind_inr,Option.bind_some];rw [zyM (by decide)]
    simp only [Option.bind_some];rw [zl9 (by omega)]
    simp only [Option.bind_some];rw [zwc (by decide) (by omega)]
    exact .inr ⟨7,i,_,_,_,_,rfl,rfl,by decide,by omega,by omega,by omega,by (first | omega | (simp only [List.length_append,List.length_cons,List.length_nil] at *; omega) | (simp;done) | (simp;omega))⟩
   ·simp only [hbad,if_false,pbind_inl,Option.bind_some];rcases hP (((c.length:Int) - (i+1)).toNat) (by omega) (i+1) (n+1) s l ⟨by omega,by omega,c1,by omega,by omega,s0,s1,by omega⟩ (Nat.le_refl _) with
     ⟨a1,b1,i',n',l',e1,e2,g1,g2,g3,g4,g5,g6,g7⟩ | ⟨cd,pl,b1,i',n',l',e1,e2,g1,g2,g3,g4,g5⟩
    ·simp only [e1,e2,pbind_inl,Option.bind_some];rw [zl9 (by omega)]
     simp only [Option.bind_some];rcases ih (((c.length:Int) - i').toNat) (by omega) (fun m' hm'=>hP m' (by omega)) (Tr.mk (38,(false,(0,()))) [a,a1]) (l'.length:Int) i' n' s (l'++[(38,false,0,b,b1,())])
      ⟨by omega,g2,c1,by omega,g4,s0,s1,by (first | omega | (simp only [List.length_append,List.length_cons,List.length_nil] at *; omega) | (simp;done) | (simp;omega))⟩ (Stn.put_two (x:=(38,false,0,b,b1,())) (.inl rfl) (g6.stn hab) g7) (Nat.le_refl _) with
      ⟨a2,b2,i2,n2,l3,w1,w2,w3,w4,w5,w6,w7,w8,w9⟩ | ⟨cd,pl,b2,i2,n2,l3,w1,w2,w3,w4,w5,w6,w7⟩
     ·exact .inl ⟨a2,b2,i2,n2,l3,w1,w2,by omega,w4,by omega,w6,by (first | omega | (simp only [List.length_append,List.length_cons,List.length_nil] at *; omega) | (simp;done) | (simp;omega)),Ext.trans (g6.put _) w8,w9⟩
     ·exact .inr ⟨cd,pl,b2,i2,n2,l3,w1,w2,w3,w4,w5,w6,by (first | omega | (simp only [List.length_append,List.length_cons,List.length_nil] at *; omega) | (simp;done) | (simp;omega))⟩
    ·simp only [e1,e2,pbind_inr,Option.bind_some];rw [zl9 (by omega)]
     simp only [Option.bind_some];rw [zwc g1 g2];exact .inr ⟨cd,pl,_,_,_,_,rfl,rfl,g1,g2,g3,g4,by (first | omega | (simp only [List.length_append,List.length_cons,List.length_nil] at *; omega) | (simp;done) | (simp;omega))⟩
  ·simp only [hb,Option.bind_some,decide_true,not_false_eq_true,decide_false,Bool.not_true,Bool.false_eq_true,if_true,if_false];exact .inl ⟨a,b,i,n,l,rfl,rfl,by omega,i1,by omega,n1,by omega,Ext.refl _,hab⟩
theorem zDU {c:List UInt8} {m:Nat} (hP:∀ m'<=m,Part c m'):Term c m:=by
 intro i n s l hp hm;have hp':=hp;obtain ⟨i0,i1,c1,n0,n1,s0,s1,q1⟩:=hp;unfold zbp zbW;rcases hP m (Nat.le_refl _) i n s l hp' hm with
  ⟨a1,b1,i',n',l',e1,e2,g1,g2,g3,g4,g5,g6,g7⟩ | ⟨cd,pl,b1,i',n',l',e1,e2,g1,g2,g3,g4,g5⟩
 ·simp only [e1,e2,pbind_inl,Option.bind_some];rcases zBm m (fun m' hm'=>hP m' (by omega)) a1 b1 i' n' s l' ⟨by omega,g2,c1,by omega,g4,s0,s1,by omega⟩ g7 (by omega) with
   ⟨a2,b2,i2,n2,l3,w1,w2,w3,w4,w5,w6,w7,w8,w9⟩ | ⟨cd,pl,b2,i2,n2,l3,w1,w2,w3,w4,w5,w6,w7⟩
  ·exact .inl ⟨a2,b2,i2,n2,l3,w1,w2,by omega,w4,by omega,w6,by omega,g6.trans w8,w9⟩
  ·exact .inr ⟨cd,pl,b2,i2,n2,l3,w1,w2,w3,w4,w5,w6,by omega⟩
 ·simp only [e1,e2,pbind_inr,Option.bind_some];rw [zwc g1 g2];exact .inr ⟨cd,pl,_,_,_,_,rfl,rfl,g1,g2,g3,g4,g5⟩
theorem zzO {c:List UInt8}:∀ m:Nat,(∀ m' < m,Term c m')->∀ a b i n s l,Pre c i n s l->Stn l a b->((c.length:Int) - i).toNat<=m->
  Sm c i n s l (zbm zaA a c i s n) (zbA zau b c i s n 0 0 l):=by
 intro m
 induction m using Nat.strongRecOn with
 | ind m ih=>
  intro hP a b i n s l hp hab hm;obtain ⟨i0,i1,c1,n0,n1,s0,s1,q1⟩:=hp;rw [zlW,ziK];unfold zbu zbB;rw [zzD i0,zwA i0];simp only [Option.bind_some];rw [r_ok];by_cases hb:nowT c i=124
  ·have hlt:i < c.length:=zoJ (by rw [hb];decide)
   simp only [hb,Option.bind_some,decide_true,not_true_eq_false,decide_false,Bool.not_true,Bool.false_eq_true,if_true,if_false];rw [zoL i0 i1 c1 ⟨n0,n1⟩,zo9 i0 i1 c1 ⟨n0,n1⟩];by_cases hbad:30 < n+1
   ·simp only [hbad,if_true,pbind_inr,Option.bind_some];rw [zCf (by decide) (by omega)]
    simp only [Option.bind_some];rw [zl9 (by omega)]
    simp only [Option.bind_some];rw [ztF (by decide) (by omega)]
    exact .inr ⟨7,i,_,_,_,_,rfl,rfl,by decide,by omega,by omega,by omega,by (first | omega | (simp only [List.length_append,List.length_cons,List.length_nil] at *; omega) | (simp;done) | (simp;omega))⟩
   ·simp only [hbad,if_false,pbind_inl,Option.bind_some];rcases hP (((c.length:Int) - (i+1)).toNat) (by omega) (i+1) (n+1) s l ⟨by omega,by omega,c1,by omega,by omega,s0,s1,by omega⟩ (Nat.le_refl _) with
     ⟨a1,b1,i',n',l',e1,e2,g1,g2,g3,g4,g5,g6,g7⟩ | ⟨cd,pl,b1,i',n',l',e1,e2,g1,g2,g3,g4,g5⟩
    ·simp only [e1,e2,pbind_inl,Option.bind_some];rw [zl9 (by omega)]
     simp only [Option.bind_some];rcases ih (((c.length:Int) - i').toNat) (by omega) (fun m' hm'=>hP m' (by omega)) (Tr.mk (124,(false,(0,()))) [a,a1]) (l'.length:Int) i' n' s (l'++[(124,false,0,b,b1,())])
      ⟨by omega,g2,c1,by omega,g4,s0,s1,by (first | omega | (simp only [List.length_append,List.length_cons,List.length_nil] at *; omega) | (simp;done) | (simp;omega))⟩ (Stn.put_two (x:=(124,false,0,b,b1,())) (.inr (.inl rfl)) (g6.stn hab) g7) (Nat.le_refl _) with
      ⟨a2,b2,i2,n2,l3,w1,w2,w3,w4,w5,w6,w7,w8,w9⟩ | ⟨cd,pl,b2,i2,n2,l3,w1,w2,w3,w4,w5,w6,w7⟩
     ·exact .inl ⟨a2,b2,i2,n2,l3,w1,w2,by omega,w4,by omega,w6,by (first | omega | (simp only [List.length_append,List.length_cons,List.length_nil] at *; omega) | (simp;done) | (simp;omega)),Ext.trans (g6.put _) w8,w9⟩
     ·exact .inr ⟨cd,pl,b2,i2,n2,l3,w1,w2,w3,w4,w5,w6,by (first | omega | (simp only [List.length_append,List.length_cons,List.length_nil] at *; omega) | (simp;done) | (simp;omega))⟩
    ·simp only [e1,e2,pbind_inr,Option.bind_some];rw [zl9 (by omega)]
     simp only [Option.bind_some];rw [ztF g1 g2];exact .inr ⟨cd,pl,_,_,_,_,rfl,rfl,g1,g2,g3,g4,by (first | omega | (simp only [List.length_append,List.length_cons,List.length_nil] at *; omega) | (simp;done) | (simp;omega))⟩
  ·simp only [hb,Option.bind_some,decide_true,not_false_eq_true,decide_false,Bool.not_true,Bool.false_eq_true,if_true,if_false];exact .inl ⟨a,b,i,n,l,rfl,rfl,by omega,i1,by omega,n1,by omega,Ext.refl _,hab⟩
theorem zB6 {c:List UInt8} {m:Nat} (hP:∀ m'<=m,Term c m'):zzT c m:=by
 intro i n s l hp hm;have hp':=hp;obtain ⟨i0,i1,c1,n0,n1,s0,s1,q1⟩:=hp;unfold zaS zbb;rcases hP m (Nat.le_refl _) i n s l hp' hm with
  ⟨a1,b1,i',n',l',e1,e2,g1,g2,g3,g4,g5,g6,g7⟩ | ⟨cd,pl,b1,i',n',l',e1,e2,g1,g2,g3,g4,g5⟩
 ·simp only [e1,e2,pbind_inl,Option.bind_some];rcases zzO m (fun m' hm'=>hP m' (by omega)) a1 b1 i' n' s l' ⟨by omega,g2,c1,by omega,g4,s0,s1,by omega⟩ g7 (by omega) with
   ⟨a2,b2,i2,n2,l3,w1,w2,w3,w4,w5,w6,w7,w8,w9⟩ | ⟨cd,pl,b2,i2,n2,l3,w1,w2,w3,w4,w5,w6,w7⟩
  ·exact .inl ⟨a2,b2,i2,n2,l3,w1,w2,by omega,w4,by omega,w6,by omega,g6.trans w8,w9⟩
  ·exact .inr ⟨cd,pl,b2,i2,n2,l3,w1,w2,w3,w4,w5,w6,by omega⟩
 ·simp only [e1,e2,pbind_inr,Option.bind_some];rw [ztF g1 g2];exact .inr ⟨cd,pl,_,_,_,_,rfl,rfl,g1,g2,g3,g4,g5⟩
theorem zEc {c:List UInt8} {i n s f a:Int} {l:L5} (hf:f≠0) (h0:0<=i/\i<=5000) (hs:0<=s/\s<=40):zdl c i s n f a l=some (c,i+1,s+1,n,l,f,a):=by
 have f1:fits (s+1):=zaE (by omega) (by omega)
 have f2:fits (i+1):=zaE (by omega) (by omega)
 have f4:fits (41:Int):=zaE (by omega) (by omega)
 unfold zdl;by_cases h:s=40
 ·subst h;simp [zqg,hf,zad f4,zad f2]
 ·simp [h,zad f1,zad f2]
theorem zCR {c:List UInt8} {i n s f a ch:Int} {l:L5} {al t:Bool} (hf:f≠0) (h0:0<=i/\i<=4900) (hs:0<=s/\s<=40) (hl:l.length<=900):
  ∃ b i' l',zaR zau al c i s n l f a ch t=some (b,c,i',s,n,l',f,a)/\i<=i'/\i'<=i+3/\l'.length<=l.length+1:=by
 unfold zaR
 cases t with
 | true=>
  simp only [if_true];rw [zad (zaE (by omega) (by omega)),zyM hf]
  simp only [Option.bind_some];rw [zl9 (by omega)]
  simp only [Option.bind_some];exact ⟨_,_,_,rfl,by omega,by omega,by simp⟩
 | false=>
  by_cases h:ch=40
  ·simp only [h,Bool.false_eq_true,if_false,not_true_eq_false,decide_false];rw [zEc hf (by omega) hs]
   simp only [Option.bind_some];rw [zqw hf (by omega)]
   simp only [Option.bind_some];rw [zp1 hf (by omega)]
   simp only [Option.bind_some];rw [zqw hf (by omega)]
   simp only [Option.bind_some];rw [zp1 hf (by omega)]
   simp only [Option.bind_some];rw [zad (zaE (by omega) (by omega)),zl9 (by omega)]
   have es:s+1 - 1=s:=by omega
   simp only [es,Option.bind_some];exact ⟨_,_,_,rfl,by omega,by omega,by simp⟩
  ·simp only [h,Bool.false_eq_true,if_false,not_false_eq_true,decide_true,if_true];rw [zqg,if_neg hf];exact ⟨_,_,_,rfl,by simp,by simp;omega,by simp⟩
theorem zCl {c:List UInt8} {i n s:Int} (h0:0<=i/\i<=5000) (hs:0<=s/\s<=40):zdH c i (s+1) n=if nowT c i=41 then some (.inl (c,i+1,s,n)) else some (.inr (4,i)):=by
 unfold zdH;rw [zCm h0];have es:s+1 - 1=s:=by omega
 have fs:fits s:=zaE (by omega) (by omega)
 by_cases h:nowT c i=41
 ·simp only [h,if_true,pbind_inl,es];exact zad fs
 ·simp only [h,if_false,pbind_inr]
theorem waysJ {c:List UInt8} {m:Nat} (hP:∀ m' < m,Part c m') (hW:∀ m' < m,zzT c m') {al t:Bool} {i n s:Int} {l:L5} (hn:0<=n) (hp:Pre c i (n+1) s l) (hl:(l.length:Int)<=n) (hm:((c.length:Int) - i).toNat < m) (ht:t=true->nowT c i=88\/nowT c i=70\/nowT c i=71):
  Sm c i n s l (za1 zaA al c i s (n+1) (nowT c i) t) (zaR zau al c i s (n+1) l 0 0 (nowT c i) t):=by
 obtain ⟨i0,i1,c1,n0,n1,s0,s1,q1⟩:=hp;unfold za1 zaR;have es:s+1 - 1=s:=by omega
 have fs:fits s:=zaE (by omega) (by omega)
 cases t with
 | true=>
  have hlt:i < c.length:=zoJ (by have:=ht rfl;omega)
  have fi:fits (i+1):=zaE (by omega) (by omega)
  simp only [if_true,zad fi];rcases hP (((c.length:Int) - (i+1)).toNat) (by omega) (i+1) (n+1) s l ⟨by omega,by omega,c1,by omega,by omega,s0,s1,by omega⟩ (Nat.le_refl _) with
   ⟨a1,b1,i',n',l',e1,e2,g1,g2,g3,g4,g5,g6,g7⟩ | ⟨cd,pl,b1,i',n',l',e1,e2,g1,g2,g3,g4,g5⟩
  ·simp only [e1,e2,pbind_inl,Option.bind_some];rw [zl9 (by omega)]
   simp only [Option.bind_some];exact .inl ⟨_,_,_,_,_,rfl,rfl,by omega,g2,by omega,g4,by (first | omega | (simp only [List.length_append,List.length_cons,List.length_nil] at *; omega) | (simp;done) | (simp;omega)),g6.put _,Stn.put_one (x:=(nowT c i,al,0,b1,0,())) (.inr (ht rfl)) g7⟩
  ·simp only [e1,e2,pbind_inr,Option.bind_some];rw [zl9 (by omega)]
   simp only [Option.bind_some];exact .inr ⟨cd,pl,_,_,_,_,rfl,rfl,g1,g2,g3,g4,by (first | omega | (simp only [List.length_append,List.length_cons,List.length_nil] at *; omega) | (simp;done) | (simp;omega))⟩
 | false=>
  by_cases h40:nowT c i=40
  ·have hlt:i < c.length:=zoJ (by rw [h40];decide)
   simp only [h40,Bool.false_eq_true,if_false,decide_true,if_true,not_true_eq_false,decide_false];rw [zCk (by omega) ⟨s0,s1⟩,zCo (by omega) ⟨s0,s1⟩]
   by_cases hs:s=40
   ·simp only [hs,if_true,pbind_inr,Option.bind_some];rw [zqw (by decide) (by omega)]
    simp only [Option.bind_some];rw [zp1 (by decide) (by omega)]
    simp only [Option.bind_some];rw [zqw (by decide) (by omega)]
    simp only [Option.bind_some];rw [zp1 (by decide) (by omega)]
    simp only [Option.bind_some];rw [zad (zaE (by omega) (by omega)),zl9 (by omega)]
    simp only [Option.bind_some];exact .inr ⟨7,i,_,_,_,_,rfl,rfl,by decide,by omega,by omega,by omega,by (first | omega | (simp only [List.length_append,List.length_cons,List.length_nil] at *; omega) | (simp;done) | (simp;omega))⟩
   ·simp only [hs,if_false,pbind_inl,Option.bind_some];rcases hW (((c.length:Int) - (i+1)).toNat) (by omega) (i+1) (n+1) (s+1) l ⟨by omega,by omega,c1,by omega,by omega,by omega,by omega,by omega⟩ (Nat.le_refl _) with
     ⟨a1,b1,i',n',l',e1,e2,g1,g2,g3,g4,g5,g6,g7⟩ | ⟨cd,pl,b1,i',n',l',e1,e2,g1,g2,g3,g4,g5⟩
    ·simp only [e1,e2,pbind_inl,Option.bind_some];rw [zCm (by omega),zBa (by omega)]
     by_cases h85:nowT c i'=85
     ·have hlt2:i' < c.length:=zoJ (by rw [h85];decide)
      simp only [h85,if_true,pbind_inl,Option.bind_some];rcases hW (((c.length:Int) - (i'+1)).toNat) (by omega) (i'+1) n' (s+1) l' ⟨by omega,by omega,c1,by omega,by omega,by omega,by omega,by omega⟩ (Nat.le_refl _) with
       ⟨a2,b2,i2,n2,l2,w1,w2,v1,v2,v3,v4,v5,v6,v7⟩ | ⟨cd,pl,b2,i2,n2,l2,w1,w2,v1,v2,v3,v4,v5⟩
      ·simp only [w1,w2,pbind_inl,Option.bind_some];rw [zCl (by omega) ⟨s0,s1⟩,zBa (by omega)]
       by_cases h41:nowT c i2=41
       ·have hlt3:i2 < c.length:=zoJ (by rw [h41];decide)
        simp only [h41,if_true,pbind_inl,Option.bind_some,es,zad fs];rw [zl9 (by omega)]
        simp only [Option.bind_some];exact .inl ⟨_,_,_,_,_,rfl,rfl,by omega,by omega,by omega,v4,by (first | omega | (simp only [List.length_append,List.length_cons,List.length_nil] at *; omega) | (simp;done) | (simp;omega)),(g6.trans v6).put _,Stn.put_two (x:=(85,al,0,b1,b2,())) (.inr (.inr rfl)) (v6.stn g7) v7⟩
       ·simp only [h41,if_false,pbind_inr,Option.bind_some,es,zad fs];rw [zl9 (by omega)]
        simp only [Option.bind_some];exact .inr ⟨4,i2,_,_,_,_,rfl,rfl,by decide,by omega,by omega,by omega,by (first | omega | (simp only [List.length_append,List.length_cons,List.length_nil] at *; omega) | (simp;done) | (simp;omega))⟩
      ·simp only [w1,w2,pbind_inr,Option.bind_some];rw [zp1 v1 (by omega)]
       simp only [Option.bind_some,es,zad fs];rw [zl9 (by omega)]
       simp only [Option.bind_some];exact .inr ⟨cd,pl,_,_,_,_,rfl,rfl,v1,by omega,by omega,v4,by (first | omega | (simp only [List.length_append,List.length_cons,List.length_nil] at *; omega) | (simp;done) | (simp;omega))⟩
     ·simp only [h85,if_false,pbind_inr,Option.bind_some];rw [zqw (by decide) (by omega)]
      simp only [Option.bind_some];rw [zp1 (by decide) (by omega)]
      simp only [Option.bind_some,es,zad fs];rw [zl9 (by omega)]
      simp only [Option.bind_some];exact .inr ⟨4,i',_,_,_,_,rfl,rfl,by decide,by omega,by omega,by omega,by (first | omega | (simp only [List.length_append,List.length_cons,List.length_nil] at *; omega) | (simp;done) | (simp;omega))⟩
    ·simp only [e1,e2,pbind_inr,Option.bind_some];rw [zp1 g1 (by omega)]
     simp only [Option.bind_some];rw [zqw g1 (by omega)]
     simp only [Option.bind_some];rw [zp1 g1 (by omega)]
     simp only [Option.bind_some,es,zad fs];rw [zl9 (by omega)]
     simp only [Option.bind_some];exact .inr ⟨cd,pl,_,_,_,_,rfl,rfl,g1,by omega,by omega,g4,by (first | omega | (simp only [List.length_append,List.length_cons,List.length_nil] at *; omega) | (simp;done) | (simp;omega))⟩
  ·simp only [h40,Bool.false_eq_true,if_false,not_false_eq_true,decide_true,decide_false,if_true,p_fail,pbind_inr,zqg,Option.bind_some];exact .inr ⟨4,i,_,_,_,_,rfl,rfl,by decide,by omega,by omega,by omega,by omega⟩
theorem zDY {c:List UInt8} {m:Nat} (hP:∀ m' < m,Part c m') (hW:∀ m' < m,zzT c m') {al:Bool} {i n s:Int} {l:L5} (hp:Pre c i n s l) (hlt:i < c.length) (hm:((c.length:Int) - i).toNat<=m):
  Sm c i n s l (zcc zaA al c i s n) (zdm zau al c i s n 0 0 l):=by
 obtain ⟨i0,i1,c1,n0,n1,s0,s1,q1⟩:=hp;unfold zcc zdm;rw [zoL i0 i1 c1 ⟨n0,n1⟩,zo9 i0 i1 c1 ⟨n0,n1⟩];by_cases hbad:30 < n+1
 ·simp only [hbad,if_true,pbind_inr,Option.bind_some];rw [zwA (by omega)]
  simp only [Option.bind_some];have key:∀ t,Sm c i n s l (some (.inr (7,i))) (zaR zau al c (i+1) s (n+1) l 7 i (nowT c (i+1)) t):=by
   intro t;obtain ⟨b,i',l',e,g1,g2,g3⟩:=zCR (c:=c) (i:=i+1) (n:=n+1) (s:=s) (f:=7) (a:=i) (ch:=nowT c (i+1)) (l:=l) (al:=al) (t:=t) (by decide) (by omega) ⟨s0,s1⟩ (by omega)
   rw [e];exact .inr ⟨7,i,b,i',n+1,l',rfl,rfl,by decide,by omega,by omega,by omega,by omega⟩
  split
  ·exact key _
  ·split
   ·exact key _
   ·exact key _
 ·simp only [hbad,if_false,pbind_inl,Option.bind_some];rw [zzD (by omega),zwA (by omega)]
  simp only [Option.bind_some];have key:∀ t,(t=true->nowT c (i+1)=88\/nowT c (i+1)=70\/nowT c (i+1)=71)->Sm c i n s l (za1 zaA al c (i+1) s (n+1) (nowT c (i+1)) t) (zaR zau al c (i+1) s (n+1) l 0 0 (nowT c (i+1)) t):=by
   intro t ht;rcases waysJ hP hW (al:=al) (t:=t) (i:=i+1) (n:=n) (s:=s) (l:=l) n0 ⟨by omega,by omega,c1,by omega,by omega,s0,s1,by omega⟩ q1 (by omega) ht with
    ⟨a1,b1,i',n',l',e1,e2,g1,g2,g3,g4,g5,g6,g7⟩ | ⟨cd,pl,b1,i',n',l',e1,e2,g1,g2,g3,g4,g5⟩
   ·exact .inl ⟨a1,b1,i',n',l',e1,e2,by omega,g2,by omega,g4,by omega,g6,g7⟩
   ·exact .inr ⟨cd,pl,b1,i',n',l',e1,e2,g1,g2,g3,g4,g5⟩
  by_cases h88:nowT c (i+1)=88
  ·have:=key true (fun _ => .inl h88)
   simpa [h88] using this
  ·by_cases h70:nowT c (i+1)=70
   ·have:=key true (fun _ => .inr (.inl h70))
    simpa [h70] using this
   ·have:=key (decide (nowT c (i+1)=71)) (fun h => .inr (.inr (of_decide_eq_true h)))
    simpa [h88,h70] using this
theorem zBs {n:Nat} (h:n < 9223372036854775808):IntKind.wrap .i64 (n:Int)=n:=by
 unfold IntKind.wrap;simp [IntKind.bits,IntKind.signed];omega
theorem wr64 {x:Int} (h0:0<=x) (h1:x<=1000):IntKind.wrap .i64 x=x:=by
 obtain ⟨n,rfl⟩:=Int.eq_ofNat_of_zero_le h0;exact zBs (by omega)
theorem wru8 {x:Int} (h0:0<=x) (h1:x<=100):IntKind.wrap .i64 (IntKind.wrap .u8 x)=x:=by
 have e:IntKind.wrap .u8 x=x:=by
  unfold IntKind.wrap;simp [IntKind.bits,IntKind.signed];omega
 rw [e];exact wr64 h0 (by omega)
theorem zC6 {c:List UInt8} {m:Nat} (hP:∀ m' < m,Part c m') (hW:∀ m' < m,zzT c m'):Part c m:=by
 intro i n s l hp hm;have hp':=hp;obtain ⟨i0,i1,c1,n0,n1,s0,s1,q1⟩:=hp;rw [zje,zlC];unfold zbI zcD;rw [zzD i0,r_ok,zwA i0];simp only [Option.bind_some,decide_true,Bool.not_true,Bool.false_eq_true,if_false];have es:s+1 - 1=s:=by omega
 have fs:fits s:=zaE (by omega) (by omega)
 have leaf:∀ (k v:Int),nowT c i≠0->(k=48\/k=49\/k=97)->Sm c i n s l (pbind (zaO c i s n) (fun y=>some (.inl (Tr.mk (k,(false,(v,()))) [],y.1,y.2.1,y.2.2.1,y.2.2.2))) (fun p=>some (.inr (p.1,p.2))))
   ((zbf c i s n 0 0 l).bind fun y=>(zbV (k,(false,(v,(0,(0,()))))) y.1 y.2.1 y.2.2.1 y.2.2.2.1 y.2.2.2.2.2.1 y.2.2.2.2.2.2 y.2.2.2.2.1).bind fun y=>some (y.1,y.2.1,y.2.2.1,y.2.2.2.1,y.2.2.2.2.1,y.2.2.2.2.2.1,y.2.2.2.2.2.2.1,y.2.2.2.2.2.2.2)):=by
  intro k v h hk;have hlt:=zoJ h;rw [zoL i0 i1 c1 ⟨n0,n1⟩,zo9 i0 i1 c1 ⟨n0,n1⟩];by_cases hbad:30 < n+1
  ·simp only [hbad,if_true,pbind_inr,Option.bind_some];rw [zl9 (by omega)]
   simp only [Option.bind_some];exact .inr ⟨7,i,_,_,_,_,rfl,rfl,by decide,by omega,by omega,by omega,by (first | omega | (simp only [List.length_append,List.length_cons,List.length_nil] at *; omega) | (simp;done) | (simp;omega))⟩
  ·simp only [hbad,if_false,pbind_inl,Option.bind_some];rw [zl9 (by omega)]
   simp only [Option.bind_some];exact .inl ⟨_,_,_,_,_,rfl,rfl,by omega,by omega,by omega,by omega,by (first | omega | (simp only [List.length_append,List.length_cons,List.length_nil] at *; omega) | (simp;done) | (simp;omega)),Ext.snoc _ _,Stn.put_leaf (x:=(k,false,v,0,0,())) hk⟩
 have j2:∀ t,(t=true->nowT c i=48\/nowT c i=49)->Sm c i n s l (zbg zaA c i s n (nowT c i) t) (zco zau c i s n 0 0 l (nowT c i) t):=by
  intro t ht;unfold zbg zco
  cases t with
  | true=>simp only [if_true];exact leaf _ _ (by have:=ht rfl;omega) (by have:=ht rfl;omega)
  | false=>
   simp only [Bool.false_eq_true,if_false];have j5:∀ t,(t=true->97<=nowT c i/\nowT c i<=100)->Sm c i n s l (zbh zaA c i s n (nowT c i) t) (zcp zau c i s n 0 0 l (nowT c i) t):=by
    intro t ht;unfold zbh zcp
    cases t with
    | true=>
     obtain ⟨h1,h2⟩:=ht rfl;have fw:fits (IntKind.wrap .i64 (nowT c i) - 97):=by rw [wr64 (by omega) (by omega)];exact zaE (by omega) (by omega)
     simp only [if_true,zad fw];rw [wr64 (x:=nowT c i) (by omega) (by omega),wru8 (x:=nowT c i - 97) (by omega) (by omega)];exact leaf _ _ (by omega) (.inr (.inr rfl))
    | false=>
     simp only [Bool.false_eq_true,if_false];by_cases h33:nowT c i=33
     ·have hlt:i < c.length:=zoJ (by rw [h33];decide)
      simp only [h33,decide_true,if_true];rw [zoL i0 i1 c1 ⟨n0,n1⟩,zo9 i0 i1 c1 ⟨n0,n1⟩];by_cases hbad:30 < n+1
      ·simp only [hbad,if_true,pbind_inr,Option.bind_some];rw [zyM (by decide)]
       simp only [Option.bind_some];rw [zl9 (by omega)]
       simp only [Option.bind_some];exact .inr ⟨7,i,_,_,_,_,rfl,rfl,by decide,by omega,by omega,by omega,by (first | omega | (simp only [List.length_append,List.length_cons,List.length_nil] at *; omega) | (simp;done) | (simp;omega))⟩
      ·simp only [hbad,if_false,pbind_inl,Option.bind_some];rcases hP (((c.length:Int) - (i+1)).toNat) (by omega) (i+1) (n+1) s l ⟨by omega,by omega,c1,by omega,by omega,s0,s1,by omega⟩ (Nat.le_refl _) with
        ⟨a1,b1,i',n',l',e1,e2,g1,g2,g3,g4,g5,g6,g7⟩ | ⟨cd,pl,b1,i',n',l',e1,e2,g1,g2,g3,g4,g5⟩
       ·simp only [e1,e2,pbind_inl,Option.bind_some];rw [zl9 (by omega)]
        simp only [Option.bind_some];exact .inl ⟨_,_,_,_,_,rfl,rfl,by omega,g2,by omega,g4,by (first | omega | (simp only [List.length_append,List.length_cons,List.length_nil] at *; omega) | (simp;done) | (simp;omega)),g6.put _,Stn.put_one (x:=(33,false,0,b1,0,())) (.inl rfl) g7⟩
       ·simp only [e1,e2,pbind_inr,Option.bind_some];rw [zl9 (by omega)]
        simp only [Option.bind_some];exact .inr ⟨cd,pl,_,_,_,_,rfl,rfl,g1,g2,g3,g4,by (first | omega | (simp only [List.length_append,List.length_cons,List.length_nil] at *; omega) | (simp;done) | (simp;omega))⟩
     ·simp only [h33,decide_false,Bool.false_eq_true,if_false];have j11:∀ t,(t=true->nowT c i≠0)->Sm c i n s l (za7 zaA c i s n (nowT c i) t) (zb2 zau c i s n 0 0 l (nowT c i) t):=by
       intro t ht;unfold za7 zb2
       cases t with
       | true=>
        simp only [if_true];rcases zDY hP hW (al:=decide (nowT c i=65)) hp' (zoJ (ht rfl)) hm with
         ⟨a1,b1,i',n',l',e1,e2,g1,g2,g3,g4,g5,g6,g7⟩ | ⟨cd,pl,b1,i',n',l',e1,e2,g1,g2,g3,g4,g5⟩
        ·simp only [e1,e2,pbind_inl,Option.bind_some];exact .inl ⟨_,_,_,_,_,rfl,rfl,g1,g2,g3,g4,g5,g6,g7⟩
        ·simp only [e1,e2,pbind_inr,Option.bind_some];exact .inr ⟨cd,pl,_,_,_,_,rfl,rfl,g1,g2,g3,g4,g5⟩
       | false=>
        simp only [Bool.false_eq_true,if_false];by_cases h40:nowT c i=40
        ·have hlt:i < c.length:=zoJ (by rw [h40];decide)
         simp only [h40,not_true_eq_false,decide_false,Bool.false_eq_true,if_false];unfold zbP;rw [zCk (by omega) ⟨s0,s1⟩,zCo (by omega) ⟨s0,s1⟩]
         by_cases hs:s=40
         ·simp only [hs,if_true,pbind_inr,Option.bind_some];rw [zqw (by decide) (by omega)]
          simp only [Option.bind_some];rw [zp1 (by decide) (by omega)]
          simp only [Option.bind_some];rw [zad (zaE (by omega) (by omega))]
          exact .inr ⟨7,i,_,_,_,_,rfl,rfl,by decide,by omega,by omega,by omega,by omega⟩
         ·simp only [hs,if_false,pbind_inl,Option.bind_some];rcases hW (((c.length:Int) - (i+1)).toNat) (by omega) (i+1) n (s+1) l ⟨by omega,by omega,c1,by omega,by omega,by omega,by omega,by omega⟩ (Nat.le_refl _) with
           ⟨a1,b1,i',n',l',e1,e2,g1,g2,g3,g4,g5,g6,g7⟩ | ⟨cd,pl,b1,i',n',l',e1,e2,g1,g2,g3,g4,g5⟩
          ·simp only [e1,e2,pbind_inl,Option.bind_some];rw [zCl (by omega) ⟨s0,s1⟩,zBa (by omega)]
           by_cases h41:nowT c i'=41
           ·have hlt3:i' < c.length:=zoJ (by rw [h41];decide)
            simp only [h41,if_true,pbind_inl,Option.bind_some,es,zad fs];exact .inl ⟨_,_,_,_,_,rfl,rfl,by omega,by omega,by omega,g4,by omega,g6,g7⟩
           ·simp only [h41,if_false,pbind_inr,Option.bind_some,es,zad fs];exact .inr ⟨4,i',_,_,_,_,rfl,rfl,by decide,by omega,by omega,by omega,by omega⟩
          ·simp only [e1,e2,pbind_inr,Option.bind_some];rw [zp1 g1 (by omega)]
           simp only [Option.bind_some,es,zad fs];exact .inr ⟨cd,pl,_,_,_,_,rfl,rfl,g1,by omega,by omega,g4,by omega⟩
        ·simp only [h40,not_false_eq_true,decide_true,if_true,p_fail,pbind_inr,zqg,Option.bind_some];exact .inr ⟨4,i,_,_,_,_,rfl,rfl,by decide,by omega,by omega,by omega,by omega⟩
      by_cases h69:nowT c i=69
      ·have:=j11 true (fun _=>by rw [h69];decide)
       simpa [h69] using this
      ·have:=j11 (decide (nowT c i=65)) (fun h=>by rw [of_decide_eq_true h];decide)
       simpa [h69] using this
   by_cases h97:97<=nowT c i
   ·have:=j5 (decide (nowT c i<=100)) (fun h=>⟨h97,of_decide_eq_true h⟩)
    simpa [h97] using this
   ·have:=j5 false (fun h=>by cases h)
    simpa [h97] using this
 by_cases h48:nowT c i=48
 ·have:=j2 true (fun _ => .inl h48)
  simpa [h48] using this
 ·have:=j2 (decide (nowT c i=49)) (fun h => .inr (of_decide_eq_true h))
  simpa [h48] using this
theorem zD2 {c:List UInt8}:∀ m:Nat,Part c m/\zzT c m:=by
 intro m
 induction m using Nat.strongRecOn with
 | ind m ih=>
  have hP:Part c m:=zC6 (fun m' h=>(ih m' h).1) (fun m' h=>(ih m' h).2)
  have hP':∀ m'<=m,Part c m':=fun m' h=>by
   rcases Nat.lt_or_eq_of_le h with h | rfl
   ·exact (ih m' h).1
   ·exact hP
  have hT:∀ m'<=m,Term c m':=fun m' h=>zDU fun m'' h'=>hP' m'' (Nat.le_trans h' h)
  exact ⟨hP,zB6 hT⟩
theorem zvw (c:List UInt8):(∃ a b l,zbL c=some (a,(0,(0,())))/\zkz c=some (b,(0,(0,())),l)/\(l.length:Int)<=30/\Stn l a b)
  \/(∃ a cd pl,zbL c=some (a,(cd,(pl,())))/\zkz c=some (0,(cd,(pl,())),[])/\cd≠0):=by
 unfold zbL zkz;by_cases hc:(4000:Int) < c.length
 ·simp only [hc,decide_true,if_true,Option.bind_some];exact .inr ⟨_,1,0,rfl,rfl,by decide⟩
 ·simp only [hc,decide_false,Bool.false_eq_true,if_false];unfold ze8 zlI;rcases (zD2 (c:=c) (((c.length:Int) - 0).toNat)).2 0 0 0 [] ⟨by omega,by omega,by omega,by omega,by omega,by omega,by omega,by simp⟩ (Nat.le_refl _) with
   ⟨a1,b1,i',n',l',e1,e2,g1,g2,g3,g4,g5,g6,g7⟩ | ⟨cd,pl,b1,i',n',l',e1,e2,g1,g2,g3,g4,g5⟩
  ·simp only [e1,e2,pbind_inl,Option.bind_some];by_cases hi:i' < (c.length:Int)
   ·simp only [hi,decide_true,if_true,p_fail,pbind_inr,zqg,Option.bind_some,Int.reduceEq,not_false_eq_true];exact .inr ⟨_,4,i',rfl,rfl,by decide⟩
   ·simp only [hi,decide_false,Bool.false_eq_true,if_false,not_true_eq_false,Option.bind_some];exact .inl ⟨_,_,_,rfl,rfl,by simp at g5;omega,g7⟩
  ·simp only [e1,e2,pbind_inr,Option.bind_some];by_cases hi:i' < (c.length:Int)
   ·simp only [hi,decide_true,if_true,zqg,g1,if_false,not_false_eq_true,Option.bind_some];exact .inr ⟨_,cd,pl,rfl,rfl,g1⟩
   ·simp only [hi,decide_false,Bool.false_eq_true,if_false,g1,not_false_eq_true,decide_true,if_true,Option.bind_some];exact .inr ⟨_,cd,pl,rfl,rfl,g1⟩
def zdi (o:Option Bool) (P:Prop):Prop:=∃ b,o=some b/\(b=true↔P)
theorem zdi.of {b:Bool} {P:Prop} (h:b=true↔P):zdi (some b) P:=⟨b,rfl,h⟩
theorem zdi.dec {P Q:Prop} [Decidable P] (h:P↔Q):zdi (some (decide P)) Q:=⟨_,rfl,by simpa using h⟩
theorem zdi.iff {o:Option Bool} {P Q:Prop} (h:zdi o P) (k:P↔Q):zdi o Q:=let ⟨b,h1,h2⟩:=h;⟨b,h1,h2.trans k⟩
theorem zdi.eq {o:Option Bool} {P:Prop} [Decidable P] (h:zdi o P):o=some (decide P):=by
 obtain ⟨b,rfl,hb⟩:=h;by_cases hp:P
 ·simp [hp,hb.2 hp]
 ·have:b=false:=by cases b;rfl;exact absurd (hb.1 rfl) hp
  simp [hp,this]
theorem zdi.to {R:Type} {o:Option Bool} {P:Prop} {k1 k2 x:Option R} (h:zdi o P) (h1:P->k1=x) (h2 : ¬ P->k2=x):(o.bind fun y=>if y=true then k1 else k2)=x:=by
 obtain ⟨b,rfl,hb⟩:=h;refine zav rfl ?_
 cases b
 ·exact h2 fun hp=>by simpa using hb.2 hp
 ·exact h1 (hb.1 rfl)
section
variable {α C:Type} [Inhabited α]
theorem zoA {l:List α} {P:α->Prop}:(∃ x∈l,P x)↔∃ i:Int,0<=i/\i < l.length/\P (ix l i):=by
 constructor
 ·rintro ⟨x,hx,hp⟩;obtain ⟨i,hi,rfl⟩:=List.mem_iff_getElem.1 hx;refine ⟨i,by omega,by omega,?_⟩
  rwa [zul (by omega) (by omega)]
 ·rintro ⟨i,h0,h1,hp⟩;exact ⟨_,zeP h0 h1,hp⟩
theorem zkb {s:List α} {f:α->Option Bool} {L:Int->Option Int} {P:α->Prop} (hs:s.length<=4611686018427387904)
  (hL:∀ t,L t=if decide (t < (s.length:Int))=true then G (0<=t/\t < (s.length:Int)) ((f (ix s t)).bind fun y=>if y=true then some t else G (fits (t+1)) (L (t+1))) else some (-1))
  (hf:∀ x∈s,zdi (f x) (P x)):∀ (n:Nat) (t:Int),0<=t->t<=s.length->(s.length - t).toNat=n->
   ∃ i,L t=some i/\((i = -1/\∀ j:Int,t<=j->j < s.length -> ¬ P (ix s j))\/(t<=i/\i < s.length/\P (ix s i)/\∀ j:Int,t<=j->j < i -> ¬ P (ix s j))):=by
 intro n
 induction n with
 | zero=>
  intro t h0 h1 hn;refine ⟨-1,?_,.inl ⟨rfl,fun j a b=>by omega⟩⟩
  rw [hL,if_neg (by simp;omega)]
 | succ n ih=>
  intro t h0 h1 hn;rw [hL,if_pos (by simp;omega),zad (by omega)]
  obtain ⟨b,hb,hbp⟩:=hf _ (zeP h0 (by omega:t < s.length))
  rw [hb]
  cases b with
  | true=>exact ⟨t,rfl,.inr ⟨by omega,by omega,hbp.1 rfl,fun j a b=>by omega⟩⟩
  | false=>
   have hnp : ¬ P (ix s t):=fun hp=>by simpa using hbp.2 hp
   obtain ⟨i,hi,hc⟩:=ih (t+1) (by omega) (by omega) (by omega)
   refine ⟨i,?_,?_⟩
   ·refine (if_neg (by simp):(if false=true then some t else G (fits (t+1)) (L (t+1)))=_).trans ?_
    rw [zad (by unfold fits;omega),hi]
   ·rcases hc with ⟨h2,h3⟩ | ⟨h2,h3,h4,h5⟩
    ·refine .inl ⟨h2,fun j a b => ?_⟩
     by_cases e:j=t
     ·rw [e];exact hnp
     ·exact h3 j (by omega) b
    ·refine .inr ⟨by omega,h3,h4,fun j a b => ?_⟩
     by_cases e:j=t
     ·rw [e];exact hnp
     ·exact h5 j (by omega) b
theorem zi7 {s:List α} {f:α->Option Bool} {L:Int->Option Int} {P:α->Prop}
  (hL:∀ t,L t=if decide (t < (s.length:Int))=true then G (0<=t/\t < (s.length:Int)) ((f (ix s t)).bind fun y=>if y=true then some t else G (fits (t+1)) (L (t+1))) else some (-1))
  (hs:s.length<=4611686018427387904) (hf:∀ x∈s,zdi (f x) (P x)):zdi ((L 0).bind fun y=>some (decide ((0:Int)<=y))) (∃ x∈s,P x):=by
 obtain ⟨i,hi,hc⟩:=zkb hs hL hf _ 0 (by omega) (by omega) rfl
 rw [hi];refine ⟨decide (0<=i),rfl,?_⟩
 rw [decide_eq_true_iff,zoA];rcases hc with ⟨h2,h3⟩ | ⟨h2,h3,h4,h5⟩
 ·constructor
  ·intro h;omega
  ·rintro ⟨j,h0,h1,hp⟩;exact absurd hp (h3 j h0 h1)
 ·exact ⟨fun _=>⟨i,by omega,h3,h4⟩,fun _=>by omega⟩
theorem zt3 {s:List α} {c:C} {f:α->C->Option (Bool×C)} {L:Int->C->Option (Int×C)} {P:α->Prop}
  (hL:∀ t c,L t c=if decide (t < (s.length:Int))=true then G (0<=t/\t < (s.length:Int)) ((f (ix s t) c).bind fun y=>if y.1=true then some (t,y.2) else G (fits (t+1)) (L (t+1) y.2)) else some (-1,c))
  (hs:s.length<=4611686018427387904) (hf:∀ x∈s,∃ b,f x c=some (b,c)/\(b=true↔P x)):∃ b,((L 0 c).bind fun y=>some (decide ((0:Int)<=y.1),y.2))=some (b,c)/\(b=true↔∃ x∈s,P x):=by
 have key:∀ (n:Nat) (t:Int),0<=t->t<=s.length->(s.length - t).toNat=n->
   ∃ i,L t c=some (i,c)/\((i = -1/\∀ j:Int,t<=j->j < s.length -> ¬ P (ix s j))\/(t<=i/\i < s.length/\P (ix s i))):=by
  intro n
  induction n with
  | zero=>
   intro t h0 h1 hn;refine ⟨-1,?_,.inl ⟨rfl,fun j a b=>by omega⟩⟩
   rw [hL,if_neg (by simp;omega)]
  | succ n ih=>
   intro t h0 h1 hn;rw [hL,if_pos (by simp;omega),zad (by omega)]
   obtain ⟨b,hb,hbp⟩:=hf _ (zeP h0 (by omega:t < s.length))
   rw [hb]
   cases b with
   | true=>exact ⟨t,rfl,.inr ⟨by omega,by omega,hbp.1 rfl⟩⟩
   | false=>
    have hnp : ¬ P (ix s t):=fun hp=>by simpa using hbp.2 hp
    obtain ⟨i,hi,hc⟩:=ih (t+1) (by omega) (by omega) (by omega)
    refine ⟨i,?_,?_⟩
    ·refine (if_neg (by simp):(if false=true then some (t,c) else G (fits (t+1)) (L (t+1) c))=_).trans ?_
     rw [zad (by unfold fits;omega),hi]
    ·rcases hc with ⟨h2,h3⟩ | ⟨h2,h3,h4⟩
     ·refine .inl ⟨h2,fun j a b => ?_⟩
      by_cases e:j=t
      ·rw [e];exact hnp
      ·exact h3 j (by omega) b
     ·exact .inr ⟨by omega,h3,h4⟩
 obtain ⟨i,hi,hc⟩:=key _ 0 (by omega) (by omega) rfl
 rw [hi];refine ⟨decide (0<=i),rfl,?_⟩
 rw [decide_eq_true_iff,zoA];rcases hc with ⟨h2,h3⟩ | ⟨h2,h3,h4⟩
 ·constructor
  ·intro h;omega
  ·rintro ⟨j,h0,h1,hp⟩;exact absurd hp (h3 j h0 h1)
 ·exact ⟨fun _=>⟨i,by omega,h3,h4⟩,fun _=>by omega⟩
end
theorem zfr {R:Type} {len:Int} {L:Int->Option R} {bad:Int->Prop} {x:Option R} {lo:Int} (h0:lo<=len)
  (hs:∀ t,lo<=t->t < len->(bad t->L t=x)/\(¬ bad t->L t=L (t+1))) (hf:(∀ t,lo<=t->t < len -> ¬ bad t)->L len=x):L lo=x:=by
 have key:∀ (n:Nat) (t:Int),lo<=t->t<=len->(len - t).toNat=n->(∀ j,lo<=j->j < t -> ¬ bad j)->L t=x:=by
  intro n
  induction n with
  | zero=>
   intro t h1 h2 hn h;obtain rfl:t=len:=by omega
   exact hf h
  | succ n ih=>
   intro t h1 h2 hn h;by_cases hb:bad t
   ·exact (hs t h1 (by omega)).1 hb
   ·rw [(hs t h1 (by omega)).2 hb]
    refine ih (t+1) (by omega) (by omega) (by omega) fun j a b => ?_
    by_cases e:j=t
    ·rw [e];exact hb
    ·exact h j a (by omega)
 exact key _ lo (Int.le_refl _) h0 rfl (fun j a b=>by omega)
theorem zue {R S:Type} {len:Int} {L:Int->S->Option R} {f:Int->S->S} {lo:Int} {I:Int->S->Prop} {s:S} (h0:lo<=len) (hI:I lo s)
  (hs:∀ t s,lo<=t->t < len->I t s->L t s=L (t+1) (f t s)/\I (t+1) (f t s)):∃ s',I len s'/\L lo s=L len s':=by
 have key:∀ (n:Nat) (t:Int) (s:S),lo<=t->t<=len->(len - t).toNat=n->I t s->∃ s',I len s'/\L t s=L len s':=by
  intro n
  induction n with
  | zero=>
   intro t s h1 h2 hn h;obtain rfl:t=len:=by omega
   exact ⟨s,h,rfl⟩
  | succ n ih=>
   intro t s h1 h2 hn h;obtain ⟨e,h3⟩:=hs t s h1 (by omega) h
   obtain ⟨s',h4,h5⟩:=ih (t+1) _ (by omega) (by omega) (by omega) h3
   exact ⟨s',h4,e.trans h5⟩
 exact key _ lo s (Int.le_refl _) h0 rfl hI
theorem zjA {s:List Int} {v:Int} (hs:s.length<=4611686018427387904):zdi (zfs s v) (v∈s):=
 zdi.iff (zi7 (f:=fun x=>some (decide (v=x))) (P:=fun x=>v=x) (zr5 s v) hs (fun x _=>zdi.dec Iff.rfl)) ⟨fun ⟨x,hx,e⟩=>e ▸ hx,fun h=>⟨v,h,rfl⟩⟩
abbrev Arc:=Int×Int×Int×Unit
abbrev Gr:=Int×Int×(List Arc)×Unit
def SLt (x y:Arc):Prop:=x.1 < y.1\/x.1=y.1/\(x.2.1 < y.2.1\/x.2.1=y.2.1/\x.2.2.1 < y.2.2.1)
def GLet (g:Gr):Prop:=g.1 < 1\/4 < g.1
def zwK (g:Gr):Prop:=g.2.1 < 1\/12 < g.2.1\/60 < g.2.2.1.length
def ABad (g:Gr) (x:Arc):Prop:=x.1 < 0\/g.2.1<=x.1\/x.2.2.1 < 0\/g.2.1<=x.2.2.1\/x.2.1 < 0\/g.1<=x.2.1
def GBad (g:Gr):Prop:=∃ x∈g.2.2.1,ABad g x
def GOrd (g:Gr):Prop:=∃ i:Int,1<=i/\i < g.2.2.1.length /\ ¬ SLt (ix g.2.2.1 (i - 1)) (ix g.2.2.1 i)
open Classical in
noncomputable def grE (g:Gr):Int:=if GLet g then 2 else if zwK g then 1 else if GBad g then 2 else if GOrd g then 3 else 0
theorem chk1 (p:Int) (g:Gr):zdi (zjw p g) (p < 0\/g.2.1<=p):=by
 unfold zjw;by_cases h:p < 0
 ·rw [if_pos (decide_eq_true h)];exact zdi.of (by simp [h])
 ·rw [if_neg (by simpa using h)];exact zdi.dec (by omega)
theorem chk2 (x:Arc) (g:Gr):∃ b,zjx x g g=some (b,g)/\(b=true↔ABad g x):=by
 unfold zjx ABad;obtain ⟨b,e,hb⟩:=chk1 x.1 g;obtain ⟨c,e2,hc⟩:=chk1 x.2.2.1 g;rw [e,e2];simp only [Option.bind_some]
 cases b with
 | true=>exact ⟨true,rfl,by have:=hb.1 rfl;simp;omega⟩
 | false=>
  have hb : ¬ (x.1 < 0\/g.2.1<=x.1):=fun h=>by cases hb.2 h
  cases c with
  | true=>exact ⟨true,rfl,by have:=hc.1 rfl;simp;omega⟩
  | false=>
   have hc : ¬ (x.2.2.1 < 0\/g.2.1<=x.2.2.1):=fun h=>by cases hc.2 h
   by_cases h:x.2.1 < 0
   ·exact ⟨true,by simp [h],by simp;omega⟩
   ·exact ⟨decide (g.1<=x.2.1),by simp [h],by rw [decide_eq_true_iff];omega⟩
theorem zvO (x y:Int):ziY x y=some (if x < y then -1 else if y < x then 1 else 0):=by
 unfold ziY zqO;simp only [Option.bind_some,not_true,decide_false,Bool.false_eq_true,if_false,decide_eq_true_eq];by_cases h:x < y
 ·simp [h]
 ·by_cases h2:y < x<;>simp [h,h2]
theorem zC5 (a b c:Int):zyG [a,b,c]=some (if a≠0 then a else if b≠0 then b else c):=by
 unfold zyG;rw [zlt];unfold zeC;have e0:ix [a,b,c] 0=a:=rfl;have e1:ix [a,b,c] (0+1)=b:=rfl;have e2:ix [a,b,c] (0+1+1)=c:=rfl;rw [if_pos (by simp),zad (by simp),e0]
 by_cases h:a=0
 ·rw [if_neg (by simp [h]),zad (by decide),zlt];unfold zeC
  rw [if_pos (by simp),zad (by simp),e1]
  by_cases h2:b=0
  ·rw [if_neg (by simp [h2]),zad (by decide),zlt];unfold zeC
   rw [if_pos (by simp),zad (by simp),e2]
   by_cases h3:c=0
   ·rw [if_neg (by simp [h3]),zad (by decide),zlt];unfold zeC
    rw [if_neg (by simp)]
    simp [h,h2,h3]
   ·rw [if_pos (by simp [h3])];simp [h,h2]
  ·rw [if_pos (by simp [h2])];simp [h,h2]
 ·rw [if_pos (by simp [h])];simp [h]
theorem zvr (x y:Arc):∃ o,zpF x y=some o/\(0<=o ↔ ¬ SLt x y):=by
 unfold zpF SLt;rw [zvO,zvO,zvO];simp only [Option.bind_some];rw [zC5];refine ⟨_,rfl,?_⟩
 repeat' split
 all_goals omega
theorem ztO (x y:Arc):zdi (zrm x y) (SLt x y):=by
 unfold zrm SLt;by_cases h:x.1=y.1
 ·rw [if_neg (by simp [h])]
  by_cases h2:x.2.1=y.2.1
  ·rw [if_neg (by simp [h2])];exact zdi.dec (by omega)
  ·rw [if_pos (by simp [h2])];exact zdi.dec (by omega)
 ·rw [if_pos (by simp [h])];exact zdi.dec (by omega)
section
variable {g:Gr}
theorem zpe:zdF g=some (grE g):=by
 unfold zdF grE;by_cases c1:GLet g
 ·rw [if_pos c1];unfold GLet at c1
  (try dsimp only);(repeat' first | (with_reducible refine G_to ?_ ?_;focus (first | omega | (unfold fits;omega) | (unfold room;(try simp only [List.length_append,List.length_cons,List.length_nil]);omega))) | (with_reducible refine zdC ?_ ?_) | (with_reducible refine itet_to ?_) | (with_reducible refine itef_to ?_) | (with_reducible refine zmM (fun _ => ?_) (fun _ => ?_)))<;>try (exfalso;omega)
  all_goals rfl
 rw [if_neg c1];unfold GLet at c1;by_cases c2:zwK g
 ·rw [if_pos c2];unfold zwK at c2
  (try dsimp only);(repeat' first | (with_reducible refine G_to ?_ ?_;focus (first | omega | (unfold fits;omega) | (unfold room;(try simp only [List.length_append,List.length_cons,List.length_nil]);omega))) | (with_reducible refine zdC ?_ ?_) | (with_reducible refine itet_to ?_) | (with_reducible refine itef_to ?_) | (with_reducible refine zmM (fun _ => ?_) (fun _ => ?_)))<;>try (exfalso;omega)
  all_goals rfl
 rw [if_neg c2];unfold zwK at c2
 (try dsimp only);(repeat' first | (with_reducible refine G_to ?_ ?_;focus (first | omega | (unfold fits;omega) | (unfold room;(try simp only [List.length_append,List.length_cons,List.length_nil]);omega))) | (with_reducible refine zdC ?_ ?_) | (with_reducible refine itet_to ?_) | (with_reducible refine itef_to ?_) | (with_reducible refine zmM (fun _ => ?_) (fun _ => ?_)))<;>try (exfalso;omega)
 obtain ⟨b,hb,hb2⟩:∃ b,zgN g.2.2.1 g g=some (b,g)/\(b=true↔GBad g):=
  zt3 (f:=fun x c=>zjx x g c) (zog g.2.2.1 g) (by omega) (fun x _=>chk2 x g)
 refine zav hb ?_
 refine zCW (fun h=>by rw [if_pos (hb2.1 h)]) (fun h2 => ?_)
 have c3 : ¬ GBad g:=fun h=>by rw [hb2.2 h] at h2;cases h2
 rw [if_neg c3];refine zfr (len:=(g.2.2.1.length:Int)) (bad:=fun i=>1<=i /\ ¬ SLt (ix g.2.2.1 (i - 1)) (ix g.2.2.1 i)) (by omega) (fun i h0 h1=>⟨fun hb => ?_,fun hb => ?_⟩) (fun hh => ?_)
 ·rw [if_pos (show GOrd g from ⟨i,hb.1,h1,hb.2⟩)];rw [zjO];unfold zcP
  (try dsimp only);(repeat' first | (with_reducible refine G_to ?_ ?_;focus (first | omega | (unfold fits;omega) | (unfold room;(try simp only [List.length_append,List.length_cons,List.length_nil]);omega))) | (with_reducible refine zdC ?_ ?_) | (with_reducible refine itet_to ?_) | (with_reducible refine itef_to ?_) | (with_reducible refine zmM (fun _ => ?_) (fun _ => ?_)))<;>try (exfalso;omega)
  obtain ⟨o,e,ho⟩:=zvr (ix g.2.2.1 (i - 1)) (ix g.2.2.1 i);refine zav e ?_
  rw [if_pos (decide_eq_true (ho.2 hb.2))]
 ·conv=>lhs;rw [zjO];unfold zcP
  by_cases h:0 < i
  ·(try dsimp only);(repeat' first | (with_reducible refine G_to ?_ ?_;focus (first | omega | (unfold fits;omega) | (unfold room;(try simp only [List.length_append,List.length_cons,List.length_nil]);omega))) | (with_reducible refine zdC ?_ ?_) | (with_reducible refine itet_to ?_) | (with_reducible refine itef_to ?_) | (with_reducible refine zmM (fun _ => ?_) (fun _ => ?_)))<;>try (exfalso;omega)
   obtain ⟨o,e,ho⟩:=zvr (ix g.2.2.1 (i - 1)) (ix g.2.2.1 i);refine zav e ?_
   rw [if_neg (by rw [decide_eq_true_iff,ho];exact fun h=>hb ⟨by omega,h⟩),zad (by unfold fits;omega)]
  ·(try dsimp only);(repeat' first | (with_reducible refine G_to ?_ ?_;focus (first | omega | (unfold fits;omega) | (unfold room;(try simp only [List.length_append,List.length_cons,List.length_nil]);omega))) | (with_reducible refine zdC ?_ ?_) | (with_reducible refine itet_to ?_) | (with_reducible refine itef_to ?_) | (with_reducible refine zmM (fun _ => ?_) (fun _ => ?_)))<;>try (exfalso;omega)
   all_goals rfl
 ·rw [if_neg (show ¬ GOrd g from fun ⟨i,i0,i1,i2⟩=>hh i (by omega) i1 ⟨i0,i2⟩)]
  rw [zjO];unfold zcP;rw [if_neg (by simp)]
theorem zu3:zrr g=some (grE g):=by
 unfold zrr grE;by_cases c1:GLet g
 ·rw [if_pos c1];unfold GLet at c1
  (try dsimp only);(repeat' first | (with_reducible refine G_to ?_ ?_;focus (first | omega | (unfold fits;omega) | (unfold room;(try simp only [List.length_append,List.length_cons,List.length_nil]);omega))) | (with_reducible refine zdC ?_ ?_) | (with_reducible refine itet_to ?_) | (with_reducible refine itef_to ?_) | (with_reducible refine zmM (fun _ => ?_) (fun _ => ?_)))<;>try (exfalso;omega)
  all_goals rfl
 rw [if_neg c1];unfold GLet at c1;by_cases c2:zwK g
 ·rw [if_pos c2];unfold zwK at c2
  (try dsimp only);(repeat' first | (with_reducible refine G_to ?_ ?_;focus (first | omega | (unfold fits;omega) | (unfold room;(try simp only [List.length_append,List.length_cons,List.length_nil]);omega))) | (with_reducible refine zdC ?_ ?_) | (with_reducible refine itet_to ?_) | (with_reducible refine itef_to ?_) | (with_reducible refine zmM (fun _ => ?_) (fun _ => ?_)))<;>try (exfalso;omega)
  all_goals rfl
 rw [if_neg c2];unfold zwK at c2
 (try dsimp only);(repeat' first | (with_reducible refine G_to ?_ ?_;focus (first | omega | (unfold fits;omega) | (unfold room;(try simp only [List.length_append,List.length_cons,List.length_nil]);omega))) | (with_reducible refine zdC ?_ ?_) | (with_reducible refine itet_to ?_) | (with_reducible refine itef_to ?_) | (with_reducible refine zmM (fun _ => ?_) (fun _ => ?_)))<;>try (exfalso;omega)
 refine zfr (len:=(g.2.2.1.length:Int)) (bad:=fun i=>ABad g (ix g.2.2.1 i)) (by omega) (fun i h0 h1=>⟨fun hb => ?_,fun hb => ?_⟩) (fun hh => ?_)
 ·rw [if_pos (show GBad g from zoA.2 ⟨i,h0,h1,hb⟩)];rw [zkx];unfold zdf;unfold ABad at hb
  (try dsimp only);(repeat' first | (with_reducible refine G_to ?_ ?_;focus (first | omega | (unfold fits;omega) | (unfold room;(try simp only [List.length_append,List.length_cons,List.length_nil]);omega))) | (with_reducible refine zdC ?_ ?_) | (with_reducible refine itet_to ?_) | (with_reducible refine itef_to ?_) | (with_reducible refine zmM (fun _ => ?_) (fun _ => ?_)))<;>try (exfalso;omega)
  all_goals rfl
 ·conv=>lhs;rw [zkx];unfold zdf
  unfold ABad at hb
  (try dsimp only);(repeat' first | (with_reducible refine G_to ?_ ?_;focus (first | omega | (unfold fits;omega) | (unfold room;(try simp only [List.length_append,List.length_cons,List.length_nil]);omega))) | (with_reducible refine zdC ?_ ?_) | (with_reducible refine itet_to ?_) | (with_reducible refine itef_to ?_) | (with_reducible refine zmM (fun _ => ?_) (fun _ => ?_)))<;>try (exfalso;omega)
  all_goals rfl
 rw [if_neg (show ¬ GBad g from fun h=>by obtain ⟨i,i0,i1,i2⟩:=zoA.1 h;exact hh i i0 i1 i2)]
 rw [zkx];unfold zdf;rw [if_neg (by simp)]
 by_cases c4:g.2.2.1.length=0
 ·rw [if_neg (show ¬ GOrd g from fun ⟨i,i0,i1,i2⟩=>by omega)]
  rw [zgE];unfold zcl;rw [if_neg (by simp;omega)]
 refine zfr (len:=(g.2.2.1.length:Int)) (bad:=fun i => ¬ SLt (ix g.2.2.1 (i - 1)) (ix g.2.2.1 i)) (by omega) (fun i h0 h1=>⟨fun hb => ?_,fun hb => ?_⟩) (fun hh => ?_)
 ·rw [if_pos (show GOrd g from ⟨i,h0,h1,hb⟩)];rw [zgE];unfold zcl
  (try dsimp only);(repeat' first | (with_reducible refine G_to ?_ ?_;focus (first | omega | (unfold fits;omega) | (unfold room;(try simp only [List.length_append,List.length_cons,List.length_nil]);omega))) | (with_reducible refine zdC ?_ ?_) | (with_reducible refine itet_to ?_) | (with_reducible refine itef_to ?_) | (with_reducible refine zmM (fun _ => ?_) (fun _ => ?_)))<;>try (exfalso;omega)
  obtain ⟨o,e,ho⟩:=ztO (ix g.2.2.1 (i - 1)) (ix g.2.2.1 i);refine zav e ?_
  rw [if_pos (by cases o;rfl;exact absurd (ho.1 rfl) hb)]
 ·conv=>lhs;rw [zgE];unfold zcl
  (try dsimp only);(repeat' first | (with_reducible refine G_to ?_ ?_;focus (first | omega | (unfold fits;omega) | (unfold room;(try simp only [List.length_append,List.length_cons,List.length_nil]);omega))) | (with_reducible refine zdC ?_ ?_) | (with_reducible refine itet_to ?_) | (with_reducible refine itef_to ?_) | (with_reducible refine zmM (fun _ => ?_) (fun _ => ?_)))<;>try (exfalso;omega)
  obtain ⟨o,e,ho⟩:=ztO (ix g.2.2.1 (i - 1)) (ix g.2.2.1 i);refine zav e ?_
  rw [if_neg (by rw [ho.2 (Classical.not_not.1 hb)];decide),zad (by unfold fits;omega)]
 ·rw [if_neg (show ¬ GOrd g from fun ⟨i,i0,i1,i2⟩=>hh i (by omega) i1 i2)]
  rw [zgE];unfold zcl;rw [if_neg (by simp)]
end
structure GrOk (g:Gr):Prop where
 l:1<=g.1/\g.1<=4
 n:1<=g.2.1/\g.2.1<=12
 a:g.2.2.1.length<=60
 x:∀ x∈g.2.2.1,0<=x.1/\x.1 < g.2.1/\0<=x.2.2.1/\x.2.2.1 < g.2.1/\0<=x.2.1/\x.2.1 < g.1
theorem zBE {g:Gr} (h:grE g=0):GrOk g:=by
 unfold grE at h
 split at h
 ·cases h
 split at h
 ·cases h
 split at h
 ·cases h
 rename_i c1 c2 c3;unfold GLet at c1;unfold zwK at c2;refine ⟨by omega,by omega,by omega,fun x hx => ?_⟩
 have : ¬ ABad g x:=fun h=>c3 ⟨x,hx,h⟩
 unfold ABad at this;omega
section
variable {g:Gr}
theorem zCA {C:Type} {c:C} {R:Int->Int->Prop} {A:Int->Option Bool} {F:Arc->C->Option (Bool×C)} {p q:Int} (ha:g.2.2.1.length<=60)
  (hF:∀ x∈g.2.2.1,∃ b,F x c=some (b,c)/\(b=true↔∃ y∈g.2.2.1,y.1=q/\y.2.1=x.2.1/\R x.2.2.1 y.2.2.1))
  (hA:∀ t:Int,0<=t->t < g.2.2.1.length->A t=if (ix g.2.2.1 t).1=p then (F (ix g.2.2.1 t) c).bind (fun y=>if (!y.1)=true then some false else A (t+1)) else A (t+1)) (hE:A g.2.2.1.length=some true):zdi (A 0) (Ans g R p q):=by
 by_cases h:Ans g R p q
 ·refine ⟨true,?_,fun _=>h,fun _=>rfl⟩
  refine zfr (len:=g.2.2.1.length) (bad:=fun _=>False) (by omega) (fun t t0 t1=>⟨fun h=>h.elim,fun _ => ?_⟩) (fun _=>hE)
  rw [hA t t0 t1];by_cases c1:(ix g.2.2.1 t).1=p
  ·rw [if_pos c1];obtain ⟨b,e,hb⟩:=hF _ (zeP t0 t1);have:b=true:=hb.2 (h _ (zeP t0 t1) c1);rw [e,this];rfl
  ·rw [if_neg c1]
 ·refine ⟨false,?_,fun e=>(by cases e),fun k=>absurd k h⟩
  refine zfr (len:=g.2.2.1.length) (bad:=fun t=>(ix g.2.2.1 t).1=p /\ ¬ ∃ y∈g.2.2.1,y.1=q/\y.2.1=(ix g.2.2.1 t).2.1/\R (ix g.2.2.1 t).2.2.1 y.2.2.1) (by omega) (fun t t0 t1 => ?_) (fun hh => ?_)
  ·obtain ⟨b,e,hb⟩:=hF _ (zeP t0 t1);constructor
   ·rintro ⟨h1,h2⟩;rw [hA t t0 t1,if_pos h1,e];have:b=false:=by cases b;rfl;exact absurd (hb.1 rfl) h2
    rw [this];rfl
   ·intro hn;rw [hA t t0 t1];by_cases c1:(ix g.2.2.1 t).1=p
    ·rw [if_pos c1,e];have:b=true:=by
      cases b with
      | true=>rfl
      | false=>exact absurd ⟨c1,fun h=>by cases hb.2 h⟩ hn
     rw [this];rfl
    ·rw [if_neg c1]
  ·refine absurd (fun x hx hp => ?_) h
   obtain ⟨t,t0,t1,rfl⟩:=zoA (P:=fun y=>y=x).1 ⟨x,hx,rfl⟩
   exact Classical.byContradiction fun hn=>hh t t0 t1 ⟨hp,hn⟩
end
def tb (N:Int) (f:Int->Bool):List Bool:=(List.range N.toNat).map fun p:Nat=>f (p:Int)
theorem zdh {N:Int} {f:Int->Bool} (h:0<=N):((tb N f).length:Int)=N:=by unfold tb;simp;omega
theorem zdE {N:Int} {f:Int->Bool} {p:Int} (h0:0<=p) (h1:p < N):ix (tb N f) p=f p:=by
 unfold tb;rw [zul h0 (by simp;omega),List.getElem_map,List.getElem_range]
 congr 1;omega
theorem zzc {N:Int} {l:List Bool} {f:Int->Bool} (hN:0<=N) (hl:(l.length:Int)=N) (h:∀ p,0<=p->p < N->ix l p=f p):l=tb N f:=by
 have:=zdh (f:=f) hN;exact zxg (by omega) fun j j0 j1=>by rw [zdE j0 (by omega)];exact h j j0 (by omega)
theorem fill {β:Type} {N:Int} (hN:0<=N) {loop:Int->List Bool->Option β} {fin:List Bool->Option β} {f:Int->Bool}
  (hs:∀ t out,0<=t->t < N->(out.length:Int)=N->loop t out=loop (t+1) (out.set t.toNat (f t)))
  (hf:∀ out,(out.length:Int)=N->loop N out=fin out) {out:List Bool} (ho:(out.length:Int)=N):loop 0 out=fin (tb N f):=by
 obtain ⟨s',⟨h1,h2⟩,h3⟩:=zue (len:=N) (L:=loop) (f:=fun t s=>s.set t.toNat (f t)) (lo:=0) (I:=fun t s=>(s.length:Int)=N/\∀ j,0<=j->j < t->ix s j=f j) (s:=out) hN ⟨ho,fun j a b=>by omega⟩
  (fun t s t0 t1 hI=>⟨hs t s t0 t1 hI.1,by simp [hI.1],fun j j0 j1=>by
   by_cases e:j=t
   ·subst e;rw [zgL j0 (by omega)]
   ·rw [zmN t0 j0 (fun h=>e h.symm)];exact hI.2 j j0 (by omega)⟩)
 rw [h3,hf s' h1,zzc hN h1 h2]
theorem zkM {N:Int} (h:0<=N):((List.replicate N.toNat false).length:Int)=N:=by simp;omega
theorem zyD {a b:List Bool} (ha:a.length<=1000):zfk a b=some (decide (a=b)):=by
 unfold zfk;by_cases hl:(a.length:Int)=b.length
 ·rw [if_neg (by simpa using hl)]
  refine zfr (len:=(a.length:Int)) (bad:=fun t=>ix a t≠ix b t) (lo:=0) (by omega) (fun t t0 t1=>⟨fun hb => ?_,fun hb => ?_⟩) (fun hh => ?_)
  ·rw [zkw];unfold zde;rw [if_pos (by simp;omega)]
   refine G_to (by omega) (G_to (by omega) ?_)
   rw [if_pos (by simpa using hb),decide_eq_false (fun e=>hb (by rw [e]))]
  ·conv=>lhs;rw [zkw];unfold zde
   rw [if_pos (by simp;omega)]
   refine G_to (by omega) (G_to (by omega) ?_)
   rw [if_neg (by simpa using hb)]
   exact G_to (by unfold fits;omega) rfl
  ·rw [zkw];unfold zde;rw [if_neg (by simp),decide_eq_true (zxg (by omega) fun t t0 t1=>Decidable.not_not.1 (hh t t0 t1))]
 ·rw [if_pos (by simpa using hl),decide_eq_false (fun e=>hl (by rw [e]))]
theorem zyJ {a b:List Bool} (ha:a.length<=1000):zjB a b=some (decide (a=b)):=by
 unfold zjB;by_cases hl:(a.length:Int)=b.length
 ·rw [if_neg (by simpa using hl)]
  refine zfr (len:=(a.length:Int)) (bad:=fun t=>ix a t≠ix b t) (lo:=0) (by omega) (fun t t0 t1=>⟨fun hb => ?_,fun hb => ?_⟩) (fun hh => ?_)
  ·rw [zie];unfold zb8;rw [if_pos (by simp;omega)]
   refine G_to (by omega) (G_to (by omega) ?_)
   rw [if_pos (by simpa using hb),decide_eq_false (fun e=>hb (by rw [e]))]
  ·conv=>lhs;rw [zie];unfold zb8
   rw [if_pos (by simp;omega)]
   refine G_to (by omega) (G_to (by omega) ?_)
   rw [if_neg (by simpa using hb)]
   exact G_to (by unfold fits;omega) rfl
  ·rw [zie];unfold zb8;rw [if_neg (by simp),decide_eq_true (zxg (by omega) fun t t0 t1=>Decidable.not_not.1 (hh t t0 t1))]
 ·rw [if_pos (by simpa using hl),decide_eq_false (fun e=>hl (by rw [e]))]
theorem zvN {s:List Bool} (hs:s.length<=1000):zhs s=some s:=by
 have hr:G (room ([]:List Bool) s 1) (some (([]:List Bool)++s))=some s:=by
  rw [zad (zkP (by simp;omega))];rfl
 unfold zhs;refine zAO (fun h => ?_) (fun h=>hr)
 obtain rfl:s=[]:=List.length_eq_zero_iff.1 h;rw [hr];exact zqI (ts:=[(.list .bool)]) (some ([]:List Bool))
def cnt (X:List Bool):Nat:=(X.filter id).length
theorem zD4 (X:List Bool):cnt X<=X.length:=List.length_filter_le _ _
theorem zyH:∀ (X Y:List Bool),X.length=Y.length->(∀ j:Nat,X[j]? =some true->Y[j]? =some true)->cnt X<=cnt Y/\(X≠Y->cnt X < cnt Y)
 | [],[],_,_=>⟨Nat.le_refl _,fun h=>absurd rfl h⟩
 | [],_::_,h,_=>by simp at h
 | _::_,[],h,_=>by simp at h
 | x::X,y::Y,h,hj=>by
  obtain ⟨h1,h2⟩:=zyH X Y (by simpa using h) (fun j=>by simpa using hj (j+1))
  have h0:=hj 0;unfold cnt at h1 h2 ⊢
  cases x<;>cases y
  ·simp only [List.filter_cons,id_eq,Bool.false_eq_true,if_false];exact ⟨h1,fun hne=>h2 (fun e=>hne (by rw [e]))⟩
  ·simp only [List.filter_cons,id_eq,Bool.false_eq_true,if_false,if_true,List.length_cons];exact ⟨by omega,fun _=>by omega⟩
  ·simp at h0
  ·simp only [List.filter_cons,id_eq,if_true,List.length_cons];exact ⟨by omega,fun hne=>by have:=h2 (fun e=>hne (by rw [e]));omega⟩
theorem zCc {X Y:List Bool} {N:Int} (hx:(X.length:Int)=N) (hy:(Y.length:Int)=N) (h:∀ p,0<=p->p < N->ix X p=true->ix Y p=true) (hne:X≠Y):cnt X < cnt Y:=by
 refine (zyH X Y (by omega) fun j hj => ?_).2 hne
 obtain ⟨h1,h2⟩:=List.getElem?_eq_some_iff.1 hj;have e:=h j (by omega) (by omega) (by rw [zul (by omega) (by omega)];simpa using h2)
 rw [zul (by omega) (by omega)] at e
 rw [List.getElem?_eq_getElem (by omega)]
 simpa using e
theorem zCv {N:Int} {F:List Bool->List Bool} {loop:List Bool->Option (List Bool)} {P:List Bool->Prop} {μ:List Bool->Nat}
  (hl:∀ X,(X.length:Int)=N->loop X=if F X=X then some X else loop (F X))
  (hF:∀ X,(X.length:Int)=N->((F X).length:Int)=N) (hP:∀ X,(X.length:Int)=N->P X->P (F X)/\(F X≠X->μ (F X) < μ X)):
  ∀ (m:Nat) X,μ X=m->(X.length:Int)=N->P X->∃ R,loop X=some R/\(R.length:Int)=N/\P R/\F R=R:=by
 intro m
 induction m using Nat.strongRecOn with
 | ind m ih=>
  intro X hm hX hp;rw [hl X hX];by_cases e:F X=X
  ·exact ⟨X,by rw [if_pos e],hX,hp,e⟩
  ·rw [if_neg e];obtain ⟨h1,h2⟩:=hP X hX hp;exact ih _ (by have:=h2 e;omega) _ rfl (hF X hX) h1
theorem zxy {N:Int} {F:List Bool->List Bool} {loop:List Bool->Option (List Bool)} {P:List Bool->Prop}
  (hl:∀ X,(X.length:Int)=N->loop X=if F X=X then some X else loop (F X))
  (hF:∀ X,(X.length:Int)=N->((F X).length:Int)=N) (hP:∀ X,(X.length:Int)=N->P X->P (F X)/\∀ p,0<=p->p < N->ix X p=true->ix (F X) p=true)
  {X:List Bool} (hX:(X.length:Int)=N) (hp:P X):∃ R,loop X=some R/\(R.length:Int)=N/\P R/\F R=R:=
 zCv (μ:=fun X=>N.toNat - cnt X) hl hF (fun X hX hp=>⟨(hP X hX hp).1,fun hne=>by
  have h1:=zCc hX (hF X hX) (hP X hX hp).2 (fun e=>hne e.symm)
  have h2:=zD4 (F X);have h3:=hF X hX;show N.toNat - cnt (F X) < N.toNat - cnt X;omega⟩) _ X rfl hX hp
theorem zuG {N:Int} {F:List Bool->List Bool} {loop:List Bool->Option (List Bool)} {P:List Bool->Prop}
  (hl:∀ X,(X.length:Int)=N->loop X=if F X=X then some X else loop (F X))
  (hF:∀ X,(X.length:Int)=N->((F X).length:Int)=N) (hP:∀ X,(X.length:Int)=N->P X->P (F X)/\∀ p,0<=p->p < N->ix (F X) p=true->ix X p=true)
  {X:List Bool} (hX:(X.length:Int)=N) (hp:P X):∃ R,loop X=some R/\(R.length:Int)=N/\P R/\F R=R:=
 zCv (μ:=cnt) hl hF (fun X hX hp=>⟨(hP X hX hp).1,fun hne=>zCc (hF X hX) hX (hP X hX hp).2 hne⟩) _ X rfl hX hp
def Go (g:Gr) (p q:Int):Prop:=(∃ x∈g.2.2.1,x.1=p/\x.2.2.1=q)\/((∀ x∈g.2.2.1,x.1≠p)/\p=q)
theorem Go.rng {g:Gr} (ok:GrOk g) {p q:Int} (h:Go g p q) (h0:0<=p) (h1:p < g.2.1):0<=q/\q < g.2.1:=by
 rcases h with ⟨x,hx,_,rfl⟩ | ⟨_,rfl⟩
 ·have:=ok.x x hx;omega
 ·exact ⟨h0,h1⟩
open Classical in
noncomputable def St (g:Gr) (all:Bool) (X:List Bool) (p:Int):Bool:=if all then decide (∀ q,Go g p q->ix X q=true) else decide (∃ q,Go g p q/\ix X q=true)
theorem zgI {g:Gr} {X:List Bool} {p:Int}:St g false X p=true↔∃ q,Go g p q/\ix X q=true:=by unfold St;simp
theorem zhx {g:Gr} {X:List Bool} {p:Int}:St g true X p=true↔∀ q,Go g p q->ix X q=true:=by unfold St;simp
theorem zqq {g:Gr} (ok:GrOk g) {all:Bool} {X Y:List Bool} (h:∀ p,0<=p->p < g.2.1->ix X p=true->ix Y p=true) {p:Int} (h0:0<=p) (h1:p < g.2.1) (hs:St g all X p=true):St g all Y p=true:=by
 cases all
 ·obtain ⟨q,hq,hx⟩:=zgI.1 hs;obtain ⟨a,b⟩:=hq.rng ok h0 h1;exact zgI.2 ⟨q,hq,h q a b hx⟩
 ·exact zhx.2 fun q hq=>by
   obtain ⟨a,b⟩:=hq.rng ok h0 h1;exact h q a b (zhx.1 hs q hq)
section
variable {g:Gr}
theorem zuD (ok:GrOk g) (p q:Int):zdi (znv g p q) (Go g p q):=by
 have hn:=ok.a;have key:∀ (n:Nat) (any:Bool) (i:Int),0<=i->i<=g.2.2.1.length->((g.2.2.1.length:Int) - i).toNat=n->(any=true↔∃ j:Int,0<=j/\j < i/\(ix g.2.2.1 j).1=p)->(∀ j:Int,0<=j->j < i -> ¬ ((ix g.2.2.1 j).1=p/\(ix g.2.2.1 j).2.2.1=q))->
   zdi (znw g p q any i) (Go g p q):=by
  intro n
  induction n with
  | zero=>
   intro any i h0 h1 hn ha hb;rw [zp8];unfold zeF;rw [if_neg (by simp;omega)]
   have hno : ¬ ∃ x∈g.2.2.1,x.1=p/\x.2.2.1=q:=by
    rw [zoA];rintro ⟨j,j0,j1,h⟩;exact hb j j0 (by omega) h
   cases any with
   | true=>
    rw [if_neg (by simp)]
    obtain ⟨j,j0,j1,hj⟩:=ha.1 rfl;refine zdi.of ⟨fun h=>(by cases h),fun h => ?_⟩
    rcases h with h | ⟨h,_⟩
    ·exact absurd h hno
    ·exact absurd hj (h _ (zeP j0 (by omega)))
   | false=>
    rw [if_pos (by simp)]
    have hall:∀ x∈g.2.2.1,x.1≠p:=fun x hx e=>by
     have:∃ x∈g.2.2.1,x.1=p:=⟨x,hx,e⟩;rw [zoA] at this;obtain ⟨j,j0,j1,hj⟩:=this;have:=ha.2 ⟨j,j0,by omega,hj⟩
     cases this
    exact zdi.dec ⟨fun h => .inr ⟨hall,h⟩,fun h=>by
     rcases h with h | ⟨_,h⟩
     ·exact absurd h hno
     ·exact h⟩
  | succ n ih=>
   intro any i h0 h1 hn ha hb;rw [zp8];unfold zeF;have i1:0<=i+1/\i+1<=g.2.2.1.length/\((g.2.2.1.length:Int) - (i+1)).toNat=n/\i < g.2.2.1.length:=by clear ha hb;omega
   obtain ⟨i1,i2,i3,i4⟩:=i1;rw [if_pos (decide_eq_true i4),zad ⟨h0,i4⟩];by_cases e1:(ix g.2.2.1 i).1=p
   ·rw [if_pos (decide_eq_true e1),zad ⟨h0,i4⟩];by_cases e2:(ix g.2.2.1 i).2.2.1=q
    ·rw [if_pos (decide_eq_true e2)];exact zdi.of ⟨fun _ => .inl ⟨_,zeP h0 i4,e1,e2⟩,fun _=>rfl⟩
    ·rw [if_neg (by simpa using e2),zad (zaE (by clear ha hb;omega) (by clear ha hb;omega))]
     refine ih true (i+1) i1 i2 i3 ⟨fun _=>⟨i,h0,by omega,e1⟩,fun _=>rfl⟩ fun j j0 j1 h => ?_
     by_cases ej:j=i
     ·subst ej;exact e2 h.2
     ·exact hb j j0 (by omega) h
   ·rw [if_neg (by simpa using e1),zad (zaE (by clear ha hb;omega) (by clear ha hb;omega))]
    refine ih any (i+1) i1 i2 i3 (ha.trans ⟨fun ⟨j,a,b,c⟩=>⟨j,a,by omega,c⟩,fun ⟨j,a,b,c⟩=>⟨j,a,?_,c⟩⟩) fun j j0 j1 h => ?_
    ·by_cases ej:j=i
     ·subst ej;exact absurd c e1
     ·omega
    ·by_cases ej:j=i
     ·subst ej;exact e1 h.1
     ·exact hb j j0 (by omega) h
 exact key _ false 0 (by omega) (by omega) rfl ⟨fun h=>(by cases h),fun ⟨j,a,b,_⟩=>by omega⟩ (fun j a b=>by omega)
theorem zA9 (ok:GrOk g) {X:List Bool} (hX:(X.length:Int)=g.2.1) {p:Int} (h0:0<=p) (h1:p < g.2.1):znz g p X=some (St g false X p):=by
 have hn:=ok.n;have t:zdi (znz g p X) (∃ q,Go g p q/\ix X q=true):=by
  unfold znz;by_cases hh:∃ q,Go g p q/\ix X q=true
  ·refine zdi.iff (P:=True) ⟨true,?_,by simp⟩ (by simp [hh])
   refine zfr (len:=g.2.1) (bad:=fun q=>Go g p q/\ix X q=true) (lo:=0) (by omega) (fun q q0 q1=>⟨fun hb => ?_,fun hb => ?_⟩) (fun hx => ?_)
   ·rw [zi9];unfold zc9;rw [if_pos (decide_eq_true q1)];refine (zuD ok p q).to (fun _ => ?_) (fun h=>absurd hb.1 h)
    rw [zad (by omega),if_pos hb.2]
   ·conv=>lhs;rw [zi9];unfold zc9
    rw [if_pos (decide_eq_true q1)];refine (zuD ok p q).to (fun h => ?_) (fun h => ?_)
    ·rw [zad (by omega),if_neg (fun e=>hb ⟨h,e⟩),zad (by unfold fits;omega)]
    ·rw [zad (by unfold fits;omega)]
   ·obtain ⟨q,hq,e⟩:=hh;obtain ⟨a,b⟩:=hq.rng ok h0 h1;exact absurd ⟨hq,e⟩ (hx q a b)
  ·refine zdi.iff (P:=False) ⟨false,?_,by simp⟩ (by simp [hh])
   refine zfr (len:=g.2.1) (bad:=fun q=>Go g p q/\ix X q=true) (lo:=0) (by omega) (fun q q0 q1=>⟨fun hb=>absurd ⟨q,hb⟩ hh,fun hb => ?_⟩) (fun hx => ?_)
   ·conv=>lhs;rw [zi9];unfold zc9
    rw [if_pos (decide_eq_true q1)];refine (zuD ok p q).to (fun h => ?_) (fun h => ?_)
    ·rw [zad (by omega),if_neg (fun e=>hb ⟨h,e⟩),zad (by unfold fits;omega)]
    ·rw [zad (by unfold fits;omega)]
   ·rw [zi9];unfold zc9;rw [if_neg (by simp)]
 obtain ⟨b,e,hb⟩:=t;rw [e];have:b=true↔St g false X p=true:=hb.trans zgI.symm;congr 1
 exact Bool.eq_iff_iff.2 this
theorem zym (ok:GrOk g) {X:List Bool} (hX:(X.length:Int)=g.2.1) {p:Int} (h0:0<=p) (h1:p < g.2.1):zky g p X=some (St g true X p):=by
 have hn:=ok.n;have t:zdi (zky g p X) (∀ q,Go g p q->ix X q=true):=by
  unfold zky;by_cases hh:∃ q,Go g p q/\ix X q≠true
  ·refine zdi.iff (P:=False) ⟨false,?_,by simp⟩ ⟨fun h=>h.elim,fun h => ?_⟩
   ·refine zfr (len:=g.2.1) (bad:=fun q=>Go g p q/\ix X q≠true) (lo:=0) (by omega) (fun q q0 q1=>⟨fun hb => ?_,fun hb => ?_⟩) (fun hx => ?_)
    ·rw [zh1];unfold zcI;rw [if_pos (decide_eq_true q1)];refine (zuD ok p q).to (fun _ => ?_) (fun h=>absurd hb.1 h)
     rw [zad (by omega),if_pos (by simpa using hb.2)]
    ·conv=>lhs;rw [zh1];unfold zcI
     rw [if_pos (decide_eq_true q1)];refine (zuD ok p q).to (fun h => ?_) (fun h => ?_)
     ·rw [zad (by omega),if_neg (fun e=>hb ⟨h,by simpa using e⟩),zad (by unfold fits;omega)]
     ·rw [zad (by unfold fits;omega)]
    ·obtain ⟨q,hq,e⟩:=hh;obtain ⟨a,b⟩:=hq.rng ok h0 h1;exact absurd ⟨hq,e⟩ (hx q a b)
   ·obtain ⟨q,hq,e⟩:=hh;exact e (h q hq)
  ·have hall:∀ q,Go g p q->ix X q=true:=fun q hq=>Classical.byContradiction fun e=>hh ⟨q,hq,e⟩
   refine zdi.iff (P:=True) ⟨true,?_,by simp⟩ ⟨fun _=>hall,fun _=>trivial⟩
   refine zfr (len:=g.2.1) (bad:=fun q=>Go g p q/\ix X q≠true) (lo:=0) (by omega) (fun q q0 q1=>⟨fun hb=>absurd ⟨q,hb⟩ hh,fun hb => ?_⟩) (fun hx => ?_)
   ·conv=>lhs;rw [zh1];unfold zcI
    rw [if_pos (decide_eq_true q1)];refine (zuD ok p q).to (fun h => ?_) (fun h => ?_)
    ·rw [zad (by omega),if_neg (fun e=>hb ⟨h,by simpa using e⟩),zad (by unfold fits;omega)]
    ·rw [zad (by unfold fits;omega)]
   ·rw [zh1];unfold zcI;rw [if_neg (by simp)]
 obtain ⟨b,e,hb⟩:=t;rw [e];have:b=true↔St g true X p=true:=hb.trans zhx.symm;congr 1
 exact Bool.eq_iff_iff.2 this
end
theorem zt2 {s:List Int} {v:Int} (hs:s.length<=4611686018427387904):zdi (zi4 s v) (v∈s):=
 zdi.iff (zi7 (f:=fun x=>some (decide (v=x))) (P:=fun x=>v=x) (zfP s v) hs (fun x _=>zdi.dec Iff.rfl)) ⟨fun ⟨x,hx,e⟩=>e ▸ hx,fun h=>⟨v,h,rfl⟩⟩
abbrev Wlk:=Gr×List (List Int)×Unit
structure WOk (g:Gr) (w:Wlk):Prop where
 e:w.1=g
 l:(w.2.1.length:Int)=g.2.1
 r:∀ p,0<=p->p < g.2.1->(ix w.2.1 p).length<=61/\∀ q,q∈ix w.2.1 p↔Go g p q
theorem zsm {N:Int} {b:Nat} (h0:0<=N) (h1:N<=12) (hb:b<=24):mkOK N N b:=⟨h0,by omega,by
 have:N * b<=12 * 24:=Int.mul_le_mul h1 (by omega) (by omega) (by omega)
 omega⟩
structure Lf (g:Gr) (all:Bool) (a b R:List Bool):Prop where
 l:(R.length:Int)=g.2.1
 t:∀ p,0<=p->p < g.2.1->ix b p=true->ix R p=true
 s:∀ p,0<=p->p < g.2.1->ix a p=true->St g all R p=true->ix R p=true
 m:∀ S:List Bool,(S.length:Int)=g.2.1->(∀ p,0<=p->p < g.2.1->ix b p=true->ix S p=true)->(∀ p,0<=p->p < g.2.1->ix a p=true->St g all S p=true->ix S p=true)->∀ p,0<=p->p < g.2.1->ix R p=true->ix S p=true
structure Gf (g:Gr) (all:Bool) (a R:List Bool):Prop where
 l:(R.length:Int)=g.2.1
 s:∀ p,0<=p->p < g.2.1->ix R p=true->ix a p=true/\St g all R p=true
 m:∀ S:List Bool,(S.length:Int)=g.2.1->(∀ p,0<=p->p < g.2.1->ix S p=true->ix a p=true/\St g all S p=true)->∀ p,0<=p->p < g.2.1->ix S p=true->ix R p=true
theorem zCw {N:Int} {X Y:List Bool} (hx:(X.length:Int)=N) (hy:(Y.length:Int)=N) (h:∀ p,0<=p->p < N->(ix X p=true↔ix Y p=true)):X=Y:=
 zxg (by omega) fun p p0 p1=>Bool.eq_iff_iff.2 (h p p0 (by omega))
theorem Lf.uniq {g:Gr} {all:Bool} {a b R S:List Bool} (h:Lf g all a b R) (k:Lf g all a b S):R=S:=
 zCw h.l k.l fun p p0 p1=>⟨h.m S k.l k.t k.s p p0 p1,k.m R h.l h.t h.s p p0 p1⟩
theorem Gf.uniq {g:Gr} {all:Bool} {a R S:List Bool} (h:Gf g all a R) (k:Gf g all a S):R=S:=
 zCw h.l k.l fun p p0 p1=>⟨k.m R h.l h.s p p0 p1,h.m S k.l k.s p p0 p1⟩
section
variable {g:Gr} {w:Wlk}
theorem zwo (ok:GrOk g) (hw:WOk g w) {X:List Bool} (hX:(X.length:Int)=g.2.1) {p:Int} (h0:0<=p) (h1:p < g.2.1):zcz w p X=some (St g false X p):=by
 have hr:=hw.r p h0 h1;unfold zcz;rw [zad ⟨h0,by have:=hw.l;omega⟩]
 have t:zdi (zd4 (ix w.2.1 p) X) (∃ q∈ix w.2.1 p,ix X q=true):=by
  unfold zd4 zih;refine zi7 (s:=ix w.2.1 p) (f:=fun q=>zcL q X) (L:=fun t=>zd6 (ix w.2.1 p) X t) (P:=fun q=>ix X q=true) (fun t => ?_) (by omega) (fun q hq => ?_)
  ·exact zm3 _ _ _
  ·obtain ⟨a,b⟩:=((hr.2 q).1 hq).rng ok h0 h1;show zdi (zcL q X) _;unfold zcL;rw [zad ⟨a,by omega⟩]
   exact ⟨_,rfl,Iff.rfl⟩
 obtain ⟨b,e,hb⟩:=t;rw [e];have:b=true↔St g false X p=true:=hb.trans ((Iff.intro (fun ⟨q,a,c⟩=>⟨q,(hr.2 q).1 a,c⟩) (fun ⟨q,a,c⟩=>⟨q,(hr.2 q).2 a,c⟩)).trans zgI.symm)
 exact congrArg some (Bool.eq_iff_iff.2 this)
theorem zvp {N:Int} {a:List Bool} (ha:(a.length:Int)=N) (h1:N<=12):zcR a=some (tb N fun p => !ix a p):=by
 unfold zcR;rw [zvN (by omega)]
 show zfu a 0 a=_;refine fill (N:=N) (by omega) (loop:=fun t out=>zfu a t out) (fin:=fun out=>some out) (fun t out t0 t1 ho => ?_) (fun out ho => ?_) ha
 ·conv=>lhs;rw [znI];unfold zdk
  rw [if_pos (decide_eq_true (by omega)),zad ⟨t0,by omega⟩,zad ⟨t0,by omega⟩,zad (by omega),zad (zaE (by omega) (by omega))]
 ·show zfu a N out=some out;rw [znI];unfold zdk;rw [if_neg (by simp;omega)]
theorem wlen (ok:GrOk g) (hw:WOk g w):((List.replicate (w.1.2.1).toNat (false:Bool)).length:Int)=g.2.1:=by
 have:=ok.n;rw [hw.e];simp;omega
theorem zmI (ok:GrOk g) (hw:WOk g w) {f:Int->Bool} {loop:Int->List Bool->Option (List Bool)} {rule:Int->Option Bool}
  (hl:∀ t out,loop t out=if (decide (t < ((List.replicate (w.1.2.1).toNat (false:Bool)).length:Int)))=true then (rule t).bind (fun y'=>G (0<=t/\t < (out.length:Int)) (G ((t).toNat < out.length) (G (fits (t+(1:Int))) (loop (t+(1:Int)) (out.set (t).toNat y'))))) else some out)
  (hr:∀ t,0<=t->t < g.2.1->rule t=some (f t)):G (mkOK w.1.2.1 w.1.2.1 1) (loop 0 (List.replicate (w.1.2.1).toNat (false:Bool)))=some (tb g.2.1 f):=by
 have hn:=ok.n;have hwl:=wlen ok hw;rw [zad (by rw [hw.e];exact zsm (by omega) (by omega) (by omega))]
 refine fill (N:=g.2.1) (by omega) (loop:=loop) (fin:=fun out=>some out) (f:=f) (fun t out t0 t1 ho => ?_) (fun out ho => ?_) hwl
 ·rw [hl,if_pos (decide_eq_true (by omega)),hr t t0 t1]
  show G _ _=_;rw [zad ⟨t0,by omega⟩,zad (by omega),zad (zaE (by omega) (by omega))]
 ·rw [hl,if_neg (by simp only [decide_eq_true_eq];omega)]
theorem zAf (ok:GrOk g) (hw:WOk g w) {a b:List Bool} (ha:(a.length:Int)=g.2.1) (hb:(b.length:Int)=g.2.1):zek w a b=some (tb g.2.1 fun p=>ix a p && ix b p):=by
 unfold zek;refine zmI ok hw (loop:=fun t out=>zc4 w a b t out) (rule:=fun t=>zdS t a b) (fun t out=>zk4 _ _ _ _ _) (fun t t0 t1 => ?_)
 unfold zdS;rw [zad ⟨t0,by omega⟩]
 cases ix a t<;>simp [zad (show 0<=t/\t < (b.length:Int) from ⟨t0,by omega⟩)]
theorem zAg (ok:GrOk g) (hw:WOk g w) {a b:List Bool} (ha:(a.length:Int)=g.2.1) (hb:(b.length:Int)=g.2.1):zel w a b=some (tb g.2.1 fun p=>ix a p || ix b p):=by
 unfold zel;refine zmI ok hw (loop:=fun t out=>zc5 w a b t out) (rule:=fun t=>zdT t a b) (fun t out=>zk6 _ _ _ _ _) (fun t t0 t1 => ?_)
 unfold zdT;rw [zad ⟨t0,by omega⟩]
 cases ix a t<;>simp [zad (show 0<=t/\t < (b.length:Int) from ⟨t0,by omega⟩)]
theorem zAj (ok:GrOk g) (hw:WOk g w) {a b:List Bool} (ha:(a.length:Int)=g.2.1) (hb:(b.length:Int)=g.2.1):zcw w a b=some (tb g.2.1 fun p => !ix a p && !ix b p):=by
 unfold zcw;refine zmI ok hw (loop:=fun t out=>zc6 w a b t out) (rule:=fun t=>zdU t a b) (fun t out=>zla _ _ _ _ _) (fun t t0 t1 => ?_)
 unfold zdU;rw [zad ⟨t0,by omega⟩]
 cases ix a t<;>simp [zad (show 0<=t/\t < (b.length:Int) from ⟨t0,by omega⟩)]
theorem zAk (ok:GrOk g) (hw:WOk g w) {a b:List Bool} (ha:(a.length:Int)=g.2.1) (hb:(b.length:Int)=g.2.1):zeo w a b=some (tb g.2.1 fun p => !ix a p && !ix b p):=by
 unfold zeo;refine zmI ok hw (loop:=fun t out=>zc7 w a b t out) (rule:=fun t=>zdV t a b) (fun t out=>zlc _ _ _ _ _) (fun t t0 t1 => ?_)
 unfold zdV;rw [zad ⟨t0,by omega⟩]
 cases ix a t<;>simp [zad (show 0<=t/\t < (b.length:Int) from ⟨t0,by omega⟩)]
theorem zvq (ok:GrOk g) (hw:WOk g w):zb7 w=some (tb g.2.1 fun _=>true):=by
 have:zdL w=some (tb g.2.1 fun _=>true):=by
  unfold zdL;exact zmI ok hw (loop:=fun t out=>zcT w t out) (rule:=fun t=>zgK t) (fun t out=>zkh _ _ _) (fun t t0 t1=>rfl)
 unfold zb7;rw [this];rfl
theorem zvf (ok:GrOk g) (hw:WOk g w) {a:List Bool} (ha:(a.length:Int)=g.2.1):zdK w a w=some (tb g.2.1 fun p=>St g false a p,w):=by
 have hn:=ok.n;have hwl:=wlen ok hw;unfold zdK;rw [zad (by rw [hw.e];exact zsm (by omega) (by omega) (by omega))]
 refine fill (N:=g.2.1) (by omega) (loop:=fun t out=>zb6 w a t w out) (fin:=fun out=>some (out,w)) (f:=fun p=>St g false a p) (fun t out t0 t1 ho => ?_) (fun out ho => ?_) hwl
 ·conv=>lhs;rw [ze9];unfold zaY zfg
  rw [if_pos (decide_eq_true (by omega)),zwo ok hw ha t0 t1]
  show G _ _=_;rw [zad ⟨t0,by omega⟩,zad (by omega),zad (zaE (by omega) (by omega))]
 ·show zb6 w a g.2.1 w out=_;rw [ze9];unfold zaY;rw [if_neg (by simp only [decide_eq_true_eq];omega)]
theorem zAh (ok:GrOk g) (hw:WOk g w) {a X:List Bool} (ha:(a.length:Int)=g.2.1) (hX:(X.length:Int)=g.2.1):zem w a w X=some (tb g.2.1 fun p=>ix X p || (ix a p && St g false X p),X,a,w):=by
 have hn:=ok.n;have hwl:=wlen ok hw;unfold zem;rw [zad (by rw [hw.e];exact zsm (by omega) (by omega) (by omega))]
 refine fill (N:=g.2.1) (by omega) (loop:=fun t out=>zce w t a w out X) (fin:=fun out=>some (out,X,a,w)) (f:=fun p=>ix X p || (ix a p && St g false X p)) (fun t out t0 t1 ho => ?_) (fun out ho => ?_) hwl
 ·have hu:zc8 t a w X=some (ix X t || (ix a t && St g false X t),X,a,w):=by
   unfold zc8;rw [zad ⟨t0,by omega⟩,zad (by omega)]
   cases hx:ix X t
   ·rw [if_neg (by simp),zad ⟨t0,by omega⟩]
    cases hy:ix a t
    ·rfl
    ·rw [if_pos rfl,zwo ok hw hX t0 t1];rfl
   ·rfl
  conv=>lhs;rw [zfH];unfold za5
  rw [if_pos (decide_eq_true (by omega)),hu]
  show G _ _=_;rw [zad ⟨t0,by omega⟩,zad (by omega),zad (zaE (by omega) (by omega))]
 ·show zce w g.2.1 a w out X=_;rw [zfH];unfold za5;rw [if_neg (by simp only [decide_eq_true_eq];omega)]
theorem zAi (ok:GrOk g) (hw:WOk g w) {X:List Bool} (hX:(X.length:Int)=g.2.1):zen w w X=some (tb g.2.1 fun p=>ix X p && St g false X p,X,w):=by
 have hn:=ok.n;have hwl:=wlen ok hw;unfold zen;rw [zad (by rw [hw.e];exact zsm (by omega) (by omega) (by omega))]
 refine fill (N:=g.2.1) (by omega) (loop:=fun t out=>zcf w t w out X) (fin:=fun out=>some (out,X,w)) (f:=fun p=>ix X p && St g false X p) (fun t out t0 t1 ho => ?_) (fun out ho => ?_) hwl
 ·have hu:zdw t w X=some (ix X t && St g false X t,X,w):=by
   unfold zdw;rw [zad ⟨t0,by omega⟩,zad (by omega)]
   cases hx:ix X t
   ·rfl
   ·rw [if_pos rfl,zwo ok hw hX t0 t1];rfl
  conv=>lhs;rw [zfI];unfold za6
  rw [if_pos (decide_eq_true (by omega)),hu]
  show G _ _=_;rw [zad ⟨t0,by omega⟩,zad (by omega),zad (zaE (by omega) (by omega))]
 ·show zcf w g.2.1 w out X=_;rw [zfI];unfold za6;rw [if_neg (by simp only [decide_eq_true_eq];omega)]
theorem zpH (ok:GrOk g) (hw:WOk g w) {a b:List Bool} (ha:(a.length:Int)=g.2.1) (hb:(b.length:Int)=g.2.1):∃ R,zaT w a b=some R/\Lf g false a b R:=by
 have hn:=ok.n;unfold zaT;rw [zvN (by omega)]
 obtain ⟨R,e,hl,⟨p1,p2⟩,hf⟩:=zxy (N:=g.2.1) (F:=fun X=>tb g.2.1 fun p=>ix X p || (ix a p && St g false X p)) (loop:=fun X=>zdz w a X)
  (P:=fun X=>(∀ p,0<=p->p < g.2.1->ix b p=true->ix X p=true)/\∀ S:List Bool,(S.length:Int)=g.2.1->(∀ p,0<=p->p < g.2.1->ix b p=true->ix S p=true)->(∀ p,0<=p->p < g.2.1->ix a p=true->St g false S p=true->ix S p=true)->∀ p,0<=p->p < g.2.1->ix X p=true->ix S p=true)
  (fun X hX=>by
   conv=>lhs;rw [zl2];unfold zbw
   rw [zAh ok hw ha hX];simp only [Option.bind_some];rw [zyJ (by have:=zdh (N:=g.2.1) (f:=fun p=>ix X p || (ix a p && St g false X p)) (by omega);omega)]
   simp only [Option.bind_some,decide_eq_true_eq])
  (fun X _=>zdh (by omega))
  (fun X hX hp=>⟨⟨fun p p0 p1 h=>by rw [zdE p0 p1,hp.1 p p0 p1 h];rfl,fun S hS s1 s2 p p0 p1 h=>by
   rw [zdE p0 p1] at h;rcases (Bool.or_eq_true _ _).mp h with h | h
   ·exact hp.2 S hS s1 s2 p p0 p1 h
   ·obtain ⟨h1,h2⟩:=(Bool.and_eq_true _ _).mp h;exact s2 p p0 p1 h1 (zqq ok (hp.2 S hS s1 s2) p0 p1 h2)⟩,fun p p0 p1 h=>by rw [zdE p0 p1,h];rfl⟩)
  hb ⟨fun p _ _ h=>h,fun S hS s1 s2=>s1⟩
 refine ⟨R,e,hl,p1,fun p q0 q1 h1 h2 => ?_,p2⟩
 rw [<- hf,zdE q0 q1,h1,h2];simp
theorem zwb (ok:GrOk g) (hw:WOk g w) {a:List Bool} (ha:(a.length:Int)=g.2.1):∃ R,zbM w a=some R/\Gf g false a R:=by
 have hn:=ok.n;unfold zbM;rw [zvN (by omega)]
 obtain ⟨R,e,hl,⟨p1,p2⟩,hf⟩:=zuG (N:=g.2.1) (F:=fun X=>tb g.2.1 fun p=>ix X p && St g false X p) (loop:=fun X=>zdN w X)
  (P:=fun X=>(∀ p,0<=p->p < g.2.1->ix X p=true->ix a p=true)/\∀ S:List Bool,(S.length:Int)=g.2.1->(∀ p,0<=p->p < g.2.1->ix S p=true->ix a p=true/\St g false S p=true)->∀ p,0<=p->p < g.2.1->ix S p=true->ix X p=true)
  (fun X hX=>by
   conv=>lhs;rw [zmp];unfold zbE
   rw [zAi ok hw hX];simp only [Option.bind_some];rw [zyJ (by have:=zdh (N:=g.2.1) (f:=fun p=>ix X p && St g false X p) (by omega);omega)]
   simp only [Option.bind_some,decide_eq_true_eq])
  (fun X _=>zdh (by omega))
  (fun X hX hp=>⟨⟨fun p p0 p1 h=>by
    rw [zdE p0 p1] at h;exact hp.1 p p0 p1 ((Bool.and_eq_true _ _).mp h).1,fun S hS s1 p p0 p1 h=>by
    rw [zdE p0 p1,hp.2 S hS s1 p p0 p1 h,zqq ok (hp.2 S hS s1) p0 p1 (s1 p p0 p1 h).2];rfl⟩,fun p p0 p1 h=>by
    rw [zdE p0 p1] at h;exact ((Bool.and_eq_true _ _).mp h).1⟩)
  ha ⟨fun p _ _ h=>h,fun S hS s1 p p0 p1 h=>(s1 p p0 p1 h).1⟩
 refine ⟨R,e,hl,fun p q0 q1 h=>⟨p1 p q0 q1 h,?_⟩,p2⟩
 rw [<- hf,zdE q0 q1] at h;exact ((Bool.and_eq_true _ _).mp h).2
theorem zBq (ok:GrOk g) {all:Bool} {a b:List Bool} (ha:(a.length:Int)=g.2.1) (hb:(b.length:Int)=g.2.1):∃ R,zlJ g all a b=some R/\Lf g all a b R:=by
 have hn:=ok.n;have eg:(g.1,g.2.1,g.2.2.1,())=g:=rfl;have hb0 : ¬ b.length=0:=by omega
 have mk:=zsm (N:=g.2.1) (b:=1) (by omega) (by omega) (by omega)
 have st:zlJ g all a b=zbK g all a b (tb g.2.1 fun _=>false):=by
  unfold zlJ;rw [zad mk];refine fill (N:=g.2.1) (by omega) (loop:=fun t out=>zkL g all a b t out) (fin:=fun out=>zbK g all a b out) (f:=fun _=>false) (fun t out t0 t1 ho => ?_) (fun out ho => ?_) (zkM (by omega))
  ·conv=>lhs;rw [zqc];unfold zeI
   rw [if_pos (decide_eq_true t1),if_neg hb0,zad ⟨t0,by omega⟩,zad (by omega),zad (zaE (by omega) (by omega))]
  ·show zkL g all a b g.2.1 out=_;rw [zqc];unfold zeI;rw [if_neg (by simp)]
 rw [st];obtain ⟨R,e,hl,⟨p1,p2⟩,hf⟩:=zxy (N:=g.2.1) (F:=fun X=>tb g.2.1 fun p=>ix b p || (ix a p && St g all X p)) (loop:=fun X=>zbK g all a b X)
  (P:=fun X=>(∀ p,0<=p->p < g.2.1->ix X p=true->ix (tb g.2.1 fun p=>ix b p || (ix a p && St g all X p)) p=true)/\∀ S:List Bool,(S.length:Int)=g.2.1->(∀ p,0<=p->p < g.2.1->ix b p=true->ix S p=true)->(∀ p,0<=p->p < g.2.1->ix a p=true->St g all S p=true->ix S p=true)->∀ p,0<=p->p < g.2.1->ix X p=true->ix S p=true)
  (fun X hX=>by
   have h1:zbK g all a b X=(fun out=>(zfk out X).bind fun y=>if y=true then some X else zbK g all a b out) (tb g.2.1 fun p=>ix b p || (ix a p && St g all X p)):=by
    conv=>lhs;rw [zu8];unfold zfz
    rw [zad mk];refine fill (N:=g.2.1) (by omega) (loop:=fun t out=>zcX g all a b X (zbK g all a b) t out) (fin:=fun out=>(zfk out X).bind fun y=>if y=true then some X else zbK g all a b out) (f:=fun p=>ix b p || (ix a p && St g all X p)) (fun t out t0 t1 ho => ?_) (fun out ho => ?_) (zkM (by omega))
    ·have j12:∀ goes,zfn a b t out (zcX g all a b X (zbK g all a b)) goes=zcX g all a b X (zbK g all a b) (t+1) (out.set t.toNat (ix b t || (ix a t && goes))):=by
      intro goes;have j14:∀ v,zfo b t (zcX g all a b X (zbK g all a b)) (out.set t.toNat v)=zcX g all a b X (zbK g all a b) (t+1) (out.set t.toNat (ix b t || v)):=by
       intro v;have hl2:((out.set t.toNat v).length:Int)=g.2.1:=by simp;omega
       unfold zfo zfp;rw [if_neg hb0,if_pos rfl,zad ⟨t0,by omega⟩]
       cases ix b t
       ·rw [if_neg (by simp),zad ⟨t0,by omega⟩,zad (by omega),zad ⟨t0,by omega⟩,zad (by omega),zad (zaE (by omega) (by omega)),zgL t0 (by omega),List.set_set];rfl
       ·rw [if_pos rfl,zad ⟨t0,by omega⟩,zad (by omega),zad (zaE (by omega) (by omega)),List.set_set];rfl
      unfold zfn;rw [zad ⟨t0,by omega⟩]
      cases ix a t
      ·rw [if_neg (by simp),zad ⟨t0,by omega⟩,zad (by omega),j14];rfl
      ·rw [if_pos rfl,zad ⟨t0,by omega⟩,zad (by omega),j14];rfl
     conv=>lhs;rw [zqe];unfold zeJ
     rw [if_pos (decide_eq_true t1),eg,zA9 ok hX t0 t1];show (if all=true then _ else _)=_
     cases all
     ·rw [if_neg (by simp)];exact j12 _
     ·rw [if_pos rfl,zym ok hX t0 t1];exact j12 _
    ·show zcX g all a b X (zbK g all a b) g.2.1 out=_;rw [zqe];unfold zeJ;rw [if_neg (by simp)]
   show zbK g all a b X=_;rw [h1];show (zfk _ X).bind _=_;rw [zyD (by have:=zdh (N:=g.2.1) (f:=fun p=>ix b p || (ix a p && St g all X p)) (by omega);omega)]
   simp only [Option.bind_some,decide_eq_true_eq])
  (fun X _=>zdh (by omega))
  (fun X hX hp=>⟨⟨fun p p0 p1 h=>by
    have h':=h;rw [zdE p0 p1] at h;rw [zdE p0 p1];rcases (Bool.or_eq_true _ _).mp h with h | h
    ·rw [h];rfl
    ·obtain ⟨h1,h2⟩:=(Bool.and_eq_true _ _).mp h;rw [h1,zqq ok hp.1 p0 p1 h2];simp,fun S hS s1 s2 p p0 p1 h=>by
    rw [zdE p0 p1] at h;rcases (Bool.or_eq_true _ _).mp h with h | h
    ·exact s1 p p0 p1 h
    ·obtain ⟨h1,h2⟩:=(Bool.and_eq_true _ _).mp h;exact s2 p p0 p1 h1 (zqq ok (hp.2 S hS s1 s2) p0 p1 h2)⟩,hp.1⟩)
  (X:=tb g.2.1 fun _=>false) (zdh (by omega)) ⟨fun p p0 p1 h=>(by rw [zdE p0 p1] at h;cases h),fun S hS s1 s2 p p0 p1 h=>(by rw [zdE p0 p1] at h;cases h)⟩
 refine ⟨R,e,hl,fun p q0 q1 h => ?_,fun p q0 q1 h1 h2 => ?_,p2⟩
 ·rw [<- hf,zdE q0 q1,h];rfl
 ·rw [<- hf,zdE q0 q1,h1,h2];simp
theorem zB5 (ok:GrOk g) {all:Bool} {a:List Bool} (ha:(a.length:Int)=g.2.1):∃ R,zmS g all a=some R/\Gf g all a R:=by
 have hn:=ok.n;have eg:(g.1,g.2.1,g.2.2.1,())=g:=rfl;have mk:=zsm (N:=g.2.1) (b:=1) (by omega) (by omega) (by omega)
 have st:zmS g all a=zbr g all a (tb g.2.1 fun _=>true):=by
  unfold zmS;rw [zad mk];refine fill (N:=g.2.1) (by omega) (loop:=fun t out=>zh8 g all a t out) (fin:=fun out=>zbr g all a out) (f:=fun _=>true) (fun t out t0 t1 ho => ?_) (fun out ho => ?_) (zkM (by omega))
  ·conv=>lhs;rw [znO];unfold zdq
   rw [if_pos (decide_eq_true t1),zad ⟨t0,by omega⟩,zad (by omega),zad (zaE (by omega) (by omega))]
  ·show zh8 g all a g.2.1 out=_;rw [znO];unfold zdq;rw [if_neg (by simp)]
 rw [st];obtain ⟨R,e,hl,⟨p1,p2⟩,hf⟩:=zuG (N:=g.2.1) (F:=fun X=>tb g.2.1 fun p=>ix a p && St g all X p) (loop:=fun X=>zbr g all a X)
  (P:=fun X=>(∀ p,0<=p->p < g.2.1->ix (tb g.2.1 fun p=>ix a p && St g all X p) p=true->ix X p=true)/\∀ S:List Bool,(S.length:Int)=g.2.1->(∀ p,0<=p->p < g.2.1->ix S p=true->ix a p=true/\St g all S p=true)->∀ p,0<=p->p < g.2.1->ix S p=true->ix X p=true)
  (fun X hX=>by
   have h1:zbr g all a X=(fun out=>(zfk out X).bind fun y=>if y=true then some X else zbr g all a out) (tb g.2.1 fun p=>ix a p && St g all X p):=by
    conv=>lhs;rw [zts];unfold zez
    rw [zad mk];refine fill (N:=g.2.1) (by omega) (loop:=fun t out=>zcJ g all a X (zbr g all a) t out) (fin:=fun out=>(zfk out X).bind fun y=>if y=true then some X else zbr g all a out) (f:=fun p=>ix a p && St g all X p) (fun t out t0 t1 ho => ?_) (fun out ho => ?_) (zkM (by omega))
    ·have j12:∀ goes,zef a t out (zcJ g all a X (zbr g all a)) goes=zcJ g all a X (zbr g all a) (t+1) (out.set t.toNat (ix a t && goes)):=by
      intro goes;unfold zef;rw [zad ⟨t0,by omega⟩]
      cases ix a t
      ·rw [if_neg (by simp),zad ⟨t0,by omega⟩,zad (by omega),zad (zaE (by omega) (by omega))];rfl
      ·rw [if_pos rfl,zad ⟨t0,by omega⟩,zad (by omega),zad (zaE (by omega) (by omega))];rfl
     conv=>lhs;rw [znQ];unfold zdr
     rw [if_pos (decide_eq_true t1),eg,zA9 ok hX t0 t1];show (if all=true then _ else _)=_
     cases all
     ·rw [if_neg (by simp)];exact j12 _
     ·rw [if_pos rfl,zym ok hX t0 t1];exact j12 _
    ·show zcJ g all a X (zbr g all a) g.2.1 out=_;rw [znQ];unfold zdr;rw [if_neg (by simp)]
   show zbr g all a X=_;rw [h1];show (zfk _ X).bind _=_;rw [zyD (by have:=zdh (N:=g.2.1) (f:=fun p=>ix a p && St g all X p) (by omega);omega)]
   simp only [Option.bind_some,decide_eq_true_eq])
  (fun X _=>zdh (by omega))
  (fun X hX hp=>⟨⟨fun p p0 p1 h=>by
    rw [zdE p0 p1] at h;rw [zdE p0 p1];obtain ⟨h1,h2⟩:=(Bool.and_eq_true _ _).mp h;rw [h1,zqq ok hp.1 p0 p1 h2];rfl,fun S hS s1 p p0 p1 h=>by
    rw [zdE p0 p1,(s1 p p0 p1 h).1,zqq ok (hp.2 S hS s1) p0 p1 (s1 p p0 p1 h).2];rfl⟩,hp.1⟩)
  (X:=tb g.2.1 fun _=>true) (zdh (by omega)) ⟨fun p p0 p1 h=>by rw [zdE p0 p1],fun S hS s1 p p0 p1 h=>by rw [zdE p0 p1]⟩
 refine ⟨R,e,hl,fun p q0 q1 h => ?_,p2⟩
 rw [<- hf,zdE q0 q1] at h;exact (Bool.and_eq_true _ _).mp h
end
section
variable {g:Gr}
def ng (N:Int) (X:List Bool):List Bool:=tb N fun p => !ix X p
theorem zku {N:Int} {X:List Bool} {p:Int} (p0:0<=p) (p1:p < N):ix (ng N X) p=true ↔ ¬ ix X p=true:=by
 unfold ng;rw [zdE p0 p1];cases ix X p<;>simp
theorem zp4 {N:Int} {X:List Bool} (h:0<=N):((ng N X).length:Int)=N:=zdh h
theorem zD1 (ok:GrOk g) {X:List Bool} {p:Int} (p0:0<=p) (p1:p < g.2.1):St g true (ng g.2.1 X) p=true ↔ ¬ St g false X p=true:=by
 rw [zhx,zgI];constructor
 ·rintro h ⟨q,hq,hx⟩;obtain ⟨a,b⟩:=hq.rng ok p0 p1;exact (zku a b).1 (h q hq) hx
 ·intro h q hq;obtain ⟨a,b⟩:=hq.rng ok p0 p1;exact (zku a b).2 fun hx=>h ⟨q,hq,hx⟩
theorem zzS (ok:GrOk g) {X:List Bool} {p:Int} (p0:0<=p) (p1:p < g.2.1):St g false (ng g.2.1 X) p=true ↔ ¬ St g true X p=true:=by
 rw [zhx,zgI];constructor
 ·rintro ⟨q,hq,hx⟩ h;obtain ⟨a,b⟩:=hq.rng ok p0 p1;exact (zku a b).1 hx (h q hq)
 ·intro h;refine Classical.byContradiction fun hn=>h fun q hq=>Classical.byContradiction fun hx=>hn ⟨q,hq,?_⟩
  obtain ⟨a,b⟩:=hq.rng ok p0 p1;exact (zku a b).2 hx
theorem zD5 (ok:GrOk g) {o a G:List Bool} (ho:∀ p,0<=p->p < g.2.1->ix o p=true) (h:Gf g false (ng g.2.1 a) G):Lf g true o a (ng g.2.1 G):=by
 have hn:=ok.n;refine ⟨zp4 (by omega),fun p p0 p1 ha=>(zku p0 p1).2 fun hg=>(zku p0 p1).1 (h.s p p0 p1 hg).1 ha,fun p p0 p1 _ hs=>(zku p0 p1).2 fun hg=>(zD1 ok p0 p1).1 hs (h.s p p0 p1 hg).2,fun S hS s1 s2 p p0 p1 hx => ?_⟩
 refine Classical.byContradiction fun hns=>(zku p0 p1).1 hx (h.m (ng g.2.1 S) (zp4 (by omega)) (fun q q0 q1 hq => ?_) p p0 p1 ((zku p0 p1).2 hns))
 have hq:=(zku q0 q1).1 hq;refine ⟨(zku q0 q1).2 fun ha=>hq (s1 q q0 q1 ha),(zzS ok q0 q1).2 fun hs=>hq (s2 q q0 q1 (ho q q0 q1) hs)⟩
theorem zD6 (ok:GrOk g) {o a U:List Bool} (ho:∀ p,0<=p->p < g.2.1->ix o p=true) (h:Lf g false o (ng g.2.1 a) U):Gf g true a (ng g.2.1 U):=by
 have hn:=ok.n;refine ⟨zp4 (by omega),fun p p0 p1 hx => ?_,fun S hS s1 p p0 p1 hx=>(zku p0 p1).2 fun hu => ?_⟩
 ·have hu:=(zku p0 p1).1 hx;exact ⟨Classical.byContradiction fun ha=>hu (h.t p p0 p1 ((zku p0 p1).2 ha)),(zD1 ok p0 p1).2 fun hs=>hu (h.s p p0 p1 (ho p p0 p1) hs)⟩
 ·refine (zku p0 p1).1 (h.m (ng g.2.1 S) (zp4 (by omega)) (fun q q0 q1 hq=>(zku q0 q1).2 fun hs=>(zku q0 q1).1 hq (s1 q q0 q1 hs).1) (fun q q0 q1 _ hq=>(zku q0 q1).2 fun hs=>(zzS ok q0 q1).1 hq (s1 q q0 q1 hs).2) p p0 p1 hu) hx
theorem zD7 (ok:GrOk g) {a b G U:List Bool} (hG:Gf g false (ng g.2.1 b) G) (hU:Lf g false (ng g.2.1 b) (tb g.2.1 fun p => !ix a p && !ix b p) U):Lf g true a b (tb g.2.1 fun p => !ix G p && !ix U p):=by
 have hn:=ok.n;have hr:∀ p,0<=p->p < g.2.1->(ix (tb g.2.1 fun p => !ix G p && !ix U p) p=true ↔ ¬ ix G p=true /\ ¬ ix U p=true):=fun p p0 p1=>by
  rw [zdE p0 p1];cases ix G p<;>cases ix U p<;>simp
 have hab:∀ p,0<=p->p < g.2.1->(ix (tb g.2.1 fun p => !ix a p && !ix b p) p=true ↔ ¬ ix a p=true /\ ¬ ix b p=true):=fun p p0 p1=>by
  rw [zdE p0 p1];cases ix a p<;>cases ix b p<;>simp
 have hin:∀ p,0<=p->p < g.2.1->ix U p=true -> ¬ ix b p=true/\(¬ ix a p=true\/St g false U p=true):=by
  intro p p0 p1 hp;have:=hU.m (tb g.2.1 fun p => !ix b p && (!ix a p || St g false U p)) (zdh (by omega)) (fun q q0 q1 hq=>by
    obtain ⟨h1,h2⟩:=(hab q q0 q1).1 hq;rw [zdE q0 q1];simp [h1,h2])
   (fun q q0 q1 hq hs=>by
    have h1:=(zku q0 q1).1 hq;rw [zdE q0 q1];have h2:St g false U q=true:=zqq ok (fun r r0 r1 hr=>by
     rw [zdE r0 r1] at hr;obtain ⟨h3,h4⟩:=(Bool.and_eq_true _ _).mp hr;have h3 : ¬ ix b r=true:=by simpa using h3
     rcases (Bool.or_eq_true _ _).mp h4 with h4 | h4
     ·exact hU.t r r0 r1 ((hab r r0 r1).2 ⟨by simpa using h4,h3⟩)
     ·exact hU.s r r0 r1 ((zku r0 r1).2 h3) h4) q0 q1 hs
    simp [h1,h2]) p p0 p1 hp
  rw [zdE p0 p1] at this;obtain ⟨h3,h4⟩:=(Bool.and_eq_true _ _).mp this;refine ⟨by simpa using h3,?_⟩
  rcases (Bool.or_eq_true _ _).mp h4 with h4 | h4
  ·exact .inl (by simpa using h4)
  ·exact .inr h4
 refine ⟨zdh (by omega),fun p p0 p1 hb=>(hr p p0 p1).2 ⟨fun hg=>(zku p0 p1).1 (hG.s p p0 p1 hg).1 hb,fun hu=>(hin p p0 p1 hu).1 hb⟩,fun p p0 p1 ha hs=>(hr p p0 p1).2 ⟨fun hg => ?_,fun hu => ?_⟩,fun S hS s1 s2 p p0 p1 hx => ?_⟩
 ·obtain ⟨q,hq,hx⟩:=zgI.1 (hG.s p p0 p1 hg).2;obtain ⟨q0,q1⟩:=hq.rng ok p0 p1;exact ((hr q q0 q1).1 (zhx.1 hs q hq)).1 hx
 ·rcases (hin p p0 p1 hu).2 with h | h
  ·exact h ha
  ·obtain ⟨q,hq,hx⟩:=zgI.1 h;obtain ⟨q0,q1⟩:=hq.rng ok p0 p1;exact ((hr q q0 q1).1 (zhx.1 hs q hq)).2 hx
 ·-- what is neither in S nor in U is for ever so
  refine Classical.byContradiction fun hns => ?_
  obtain ⟨h1,h2⟩:=(hr p p0 p1).1 hx;have hT:∀ q,0<=q->q < g.2.1->(ix (tb g.2.1 fun p => !ix S p && !ix U p) q=true ↔ ¬ ix S q=true /\ ¬ ix U q=true):=fun q q0 q1=>by
   rw [zdE q0 q1];cases ix S q<;>cases ix U q<;>simp
  refine h1 (hG.m (tb g.2.1 fun p => !ix S p && !ix U p) (zdh (by omega)) (fun q q0 q1 hq => ?_) p p0 p1 ((hT p p0 p1).2 ⟨hns,h2⟩))
  obtain ⟨k1,k2⟩:=(hT q q0 q1).1 hq;have kb : ¬ ix b q=true:=fun h=>k1 (s1 q q0 q1 h)
  have ka:ix a q=true:=Classical.byContradiction fun h=>k2 (hU.t q q0 q1 ((hab q q0 q1).2 ⟨h,kb⟩))
  have ks : ¬ St g true S q=true:=fun h=>k1 (s2 q q0 q1 ka h)
  have ku : ¬ St g false U q=true:=fun h=>k2 (hU.s q q0 q1 ((zku q0 q1).2 kb) h)
  refine ⟨(zku q0 q1).2 kb,zgI.2 ?_⟩
  refine Classical.byContradiction fun hno=>ks (zhx.2 fun r hr => ?_)
  obtain ⟨r0,r1⟩:=hr.rng ok q0 q1;refine Classical.byContradiction fun hrs=>hno ⟨r,hr,(hT r r0 r1).2 ⟨hrs,fun hru=>ku (zgI.2 ⟨r,hr,hru⟩)⟩⟩
end
section
variable {g:Gr} {w:Wlk}
theorem zzN (ok:GrOk g):∃ w,zca g=some w/\WOk g w:=by
 have hn:=ok.n;have ha:=ok.a;have mk:=zsm (N:=g.2.1) (b:=24) (by omega) (by omega) (by omega)
 have hmain:∃ w,zfv g g.1 g.2.1 g.2.2.1 (List.replicate (g.2.1).toNat ([]:List Int))=some w/\WOk g w:=by
  unfold zfv;obtain ⟨s1,⟨i1,i2⟩,e1⟩:=zue (len:=(g.2.2.1.length:Int)) (lo:=0) (L:=fun t (s:List (List Int))=>zcB g t g.1 g.2.1 g.2.2.1 s)
   (f:=fun t s=>if (ix g.2.2.1 t).2.2.1∈ix s (ix g.2.2.1 t).1 then s else s.set (ix g.2.2.1 t).1.toNat (ix s (ix g.2.2.1 t).1++[(ix g.2.2.1 t).2.2.1]))
   (I:=fun t (s:List (List Int))=>(s.length:Int)=g.2.1/\∀ p,0<=p->p < g.2.1->((ix s p).length:Int)<=t/\∀ q,q∈ix s p↔∃ j:Int,0<=j/\j < t/\(ix g.2.2.1 j).1=p/\(ix g.2.2.1 j).2.2.1=q)
   (s:=List.replicate (g.2.1).toNat ([]:List Int)) (by omega)
   ⟨by simp;omega,fun p p0 p1=>by
    rw [zsP p0 (by omega)]
    exact ⟨by simp,fun q=>⟨fun h=>by simp at h,fun ⟨j,j0,j1,_⟩=>by omega⟩⟩⟩
   (fun t s t0 t1 hI=>by
    obtain ⟨hl,hr⟩:=hI;obtain ⟨x0,x1,x2,x3,_⟩:=ok.x _ (zeP t0 t1);obtain ⟨r1,r2⟩:=hr _ x0 x1;generalize hx:ix g.2.2.1 t=x at *
    have hc:=zt2 (s:=ix s x.1) (v:=x.2.2.1) (by omega)
    have fT:fits (t+1):=zaE (by omega) (by omega)
    constructor
    ·show zcB g t g.1 g.2.1 g.2.2.1 s=zcB g (t+1) g.1 g.2.1 g.2.2.1 _
     conv=>lhs;rw [zjR];unfold zb0
     rw [if_pos (decide_eq_true t1),zad ⟨t0,t1⟩,hx,zad ⟨x0,by omega⟩,zad (by omega),zad (by omega)]
     obtain ⟨b,e,hb⟩:=hc;rw [e];simp only [Option.bind_some]
     cases b with
     | true=>
      rw [if_neg (by simp),if_pos (hb.1 rfl)]
      unfold zbl;rw [zad fT]
     | false=>
      rw [if_pos (by simp),if_neg (fun h=>by have:=hb.2 h;cases this)]
      unfold zbl;have hro:room (ix s x.1) [x.2.2.1] 8:=zkP (by simp;omega)
      (repeat' first | with_reducible refine zdC ?_ ?_ | with_reducible refine G_to ?_ ?_)<;>first | rfl | omega | exact hro | exact fT | trivial | exact ⟨x0,by omega⟩
    ·skip
     have stp:∀ p q:Int,(∃ j:Int,0<=j/\j < t+1/\(ix g.2.2.1 j).1=p/\(ix g.2.2.1 j).2.2.1=q)↔((∃ j:Int,0<=j/\j < t/\(ix g.2.2.1 j).1=p/\(ix g.2.2.1 j).2.2.1=q)\/(x.1=p/\x.2.2.1=q)):=by
      intro p q;constructor
      ·rintro ⟨j,j0,j1,h⟩;by_cases e:j=t
       ·subst e;rw [hx] at h;exact .inr h
       ·exact .inl ⟨j,j0,by omega,h⟩
      ·rintro (⟨j,j0,j1,h⟩ | h)
       ·exact ⟨j,j0,by omega,h⟩
       ·exact ⟨t,t0,by omega,by rw [hx];exact h⟩
     split
     ·rename_i hin;refine ⟨hl,fun p p0 p1=>⟨by have:=(hr p p0 p1).1;omega,fun q => ?_⟩⟩
      rw [stp,(hr p p0 p1).2 q];constructor
      ·exact fun h => .inl h
      ·rintro (h | ⟨rfl,rfl⟩)
       ·exact h
       ·exact (r2 _).1 hin
     ·refine ⟨by simp;omega,fun p p0 p1 => ?_⟩
      by_cases e:p=x.1
      ·subst e;rw [zgL p0 (by omega)]
       refine ⟨by simp;omega,fun q => ?_⟩
       rw [stp,List.mem_append,r2 q,List.mem_singleton];exact ⟨fun h=>h.elim .inl fun h => .inr ⟨rfl,h.symm⟩,fun h=>h.elim .inl fun h => .inr h.2.symm⟩
      ·rw [zmN x0 p0 (fun h=>e h.symm)]
       refine ⟨by have:=(hr p p0 p1).1;omega,fun q => ?_⟩
       rw [stp,(hr p p0 p1).2 q];exact ⟨fun h => .inl h,fun h=>h.elim id fun h=>absurd h.1.symm e⟩)
  rw [show zcB g 0 g.1 g.2.1 g.2.2.1 (List.replicate (g.2.1).toNat ([]:List Int))=_ from e1];rw [zjR];unfold zb0;rw [if_neg (by simp)]
  obtain ⟨s2,⟨k1,k2⟩,e2⟩:=zue (len:=(s1.length:Int)) (lo:=0) (L:=fun t (s:List (List Int))=>zcC s1 t g.1 g.2.1 g.2.2.1 s)
   (f:=fun t s=>if (ix s t).length=0 then s.set t.toNat [t] else s)
   (I:=fun t (s:List (List Int))=>(s.length:Int)=g.2.1/\∀ p,0<=p->p < g.2.1->ix s p=if p < t/\(ix s1 p).length=0 then [p] else ix s1 p)
   (s:=s1) (by omega) ⟨i1,fun p p0 p1=>by rw [if_neg (by omega)]⟩
   (fun t s t0 t1 hI=>by
    obtain ⟨hl,hr⟩:=hI;have fT:fits (t+1):=zaE (by omega) (by omega)
    have ht:ix s t=ix s1 t:=by rw [hr t t0 (by omega),if_neg (by omega)]
    constructor
    ·show zcC s1 t g.1 g.2.1 g.2.2.1 s=zcC s1 (t+1) g.1 g.2.1 g.2.2.1 _
     conv=>lhs;rw [zjS];unfold zb1
     rw [if_pos (decide_eq_true t1),zad ⟨t0,by omega⟩,zad (by omega),zad (by omega)]
     by_cases e:(ix s t).length=0
     ·rw [if_pos (by simp [e]),if_pos e,zad ⟨t0,by omega⟩,zad fT]
     ·rw [if_neg (by simpa using e),if_neg e,zad fT]
    ·skip
     split
     ·rename_i e;refine ⟨by simp;omega,fun p p0 p1 => ?_⟩
      by_cases ep:p=t
      ·subst ep;rw [zgL p0 (by omega),if_pos ⟨by omega,by rw [<- ht];exact e⟩]
      ·rw [zmN t0 p0 (fun h=>ep h.symm),hr p p0 p1]
       by_cases c:p < t/\(ix s1 p).length=0
       ·rw [if_pos c,if_pos ⟨by omega,c.2⟩]
       ·rw [if_neg c,if_neg (fun h=>c ⟨by omega,h.2⟩)]
     ·rename_i e;refine ⟨hl,fun p p0 p1 => ?_⟩
      rw [hr p p0 p1];by_cases c:p < t/\(ix s1 p).length=0
      ·rw [if_pos c,if_pos ⟨by omega,c.2⟩]
      ·rw [if_neg c,if_neg (fun h => ?_)]
       by_cases ep:p=t
       ·subst ep;exact e (by rw [ht];exact h.2)
       ·exact c ⟨by omega,h.2⟩)
  rw [show zcC s1 0 g.1 g.2.1 g.2.2.1 s1=_ from e2];rw [zjS];unfold zb1;rw [if_neg (by simp)]
  refine ⟨_,rfl,⟨rfl,k1,fun p p0 p1 => ?_⟩⟩
  show (ix s2 p).length<=61/\∀ q,q∈ix s2 p↔Go g p q;obtain ⟨m1,m2⟩:=i2 p p0 p1;have hgo:∀ q,(∃ j:Int,0<=j/\j < (g.2.2.1.length:Int)/\(ix g.2.2.1 j).1=p/\(ix g.2.2.1 j).2.2.1=q)↔∃ x∈g.2.2.1,x.1=p/\x.2.2.1=q:=fun q=>(zoA (l:=g.2.2.1) (P:=fun x:Arc=>x.1=p/\x.2.2.1=q)).symm
  rw [k2 p p0 p1];by_cases e:(ix s1 p).length=0
  ·rw [if_pos ⟨by omega,e⟩]
   have hnil:ix s1 p=[]:=List.length_eq_zero_iff.1 e;have hno:∀ x∈g.2.2.1,x.1≠p:=fun x hx h=>by
    have:=(m2 x.2.2.1).2 ((hgo _).2 ⟨x,hx,h,rfl⟩);rw [hnil] at this;simp at this
   refine ⟨by simp,fun q => ?_⟩
   rw [List.mem_singleton];exact ⟨fun h => .inr ⟨hno,h.symm⟩,fun h=>h.elim (fun ⟨x,hx,h1,_⟩=>absurd h1 (hno x hx)) fun h=>h.2.symm⟩
  ·rw [if_neg (fun h=>e h.2)]
   refine ⟨by omega,fun q => ?_⟩
   rw [m2 q,hgo q];refine ⟨fun h => .inl h,fun h=>h.elim id fun h => ?_⟩
   exfalso
   cases hc:ix s1 p with
   | nil=>rw [hc] at e;simp at e
   | cons y ys=>
    obtain ⟨x,hx,h1,_⟩:=(hgo y).1 ((m2 y).1 (by rw [hc];exact List.mem_cons_self ..))
    exact h.1 x hx h1
 obtain ⟨w,e,hw⟩:=hmain;refine ⟨w,?_,hw⟩
 unfold zca;exact zdC (G_to mk e) (G_to mk e)
theorem zax {α:Type} {x:α} {K:List (Tr α)}:(Tr.mk x K).isMk=true:=rfl
theorem zxp (ok:GrOk g) (hw:WOk g w) {s v:Int} {al:Bool} (hs:s=48\/s=49):zai w (Tr.mk (s,al,v,()) [])=some (tb g.2.1 fun _=>decide (s=49)):=by
 have e:zdJ w (Tr.mk (s,al,v,()) [])=some (tb g.2.1 fun _=>decide (s=49)):=by
  unfold zdJ;refine zmI ok hw (loop:=fun t out=>zdM w (Tr.mk (s,al,v,()) []) t out) (rule:=fun t=>zdQ t (Tr.mk (s,al,v,()) [])) (fun t out=>zmn _ _ _ _) (fun t t0 t1 => ?_)
  unfold zdQ;exact zad zax
 have e':((zdJ w (Tr.mk (s,al,v,()) [])).bind fun y=>some y)=some (tb g.2.1 fun _=>decide (s=49)):=by rw [e];rfl
 rw [zeX];unfold zbj za9;rcases hs with rfl | rfl
 ·exact (zad zax).trans ((if_pos rfl).trans ((if_pos rfl).trans e'))
 ·exact (zad zax).trans ((if_neg (by exact Bool.false_ne_true)).trans ((if_pos rfl).trans e'))
theorem zAI (ok:GrOk g) {v p:Int} {al:Bool}:zdi (zd3 g.2.2.1 p (Tr.mk (97,al,v,()) [])) (∃ x∈g.2.2.1,x.1=p/\x.2.1=v):=by
 have ha:=ok.a;unfold zd3 zif;refine zi7 (s:=g.2.2.1) (f:=fun x=>zch x p (Tr.mk (97,al,v,()) [])) (L:=fun t=>zd5 g.2.2.1 p (Tr.mk (97,al,v,()) []) t) (P:=fun x=>x.1=p/\x.2.1=v) (fun t=>zm1 _ _ _ _) (by omega) (fun x hx => ?_)
 show zdi (zch x p _) _;unfold zch;by_cases e:x.1=p
 ·refine ⟨decide (x.2.1=v),(if_pos (decide_eq_true e)).trans (zad zax),by simp [e]⟩
 ·exact ⟨false,if_neg (by simpa using e),by simp [e]⟩
open Classical in
theorem zDi (ok:GrOk g) (hw:WOk g w) {v:Int} {al:Bool}:zai w (Tr.mk (97,al,v,()) [])=some (tb g.2.1 fun p=>decide (∃ x∈g.2.2.1,x.1=p/\x.2.1=v)):=by
 have hn:=ok.n;have hwl:=wlen ok hw;have e:zej w (Tr.mk (97,al,v,()) []) w=some (tb g.2.1 fun p=>decide (∃ x∈g.2.2.1,x.1=p/\x.2.1=v),w):=by
  unfold zej;rw [zad (by rw [hw.e];exact zsm (by omega) (by omega) (by omega))]
  refine fill (N:=g.2.1) (by omega) (loop:=fun t out=>zcd w (Tr.mk (97,al,v,()) []) t w out) (fin:=fun out=>some (out,w)) (f:=fun p=>decide (∃ x∈g.2.2.1,x.1=p/\x.2.1=v)) (fun t out t0 t1 ho => ?_) (fun out ho => ?_) hwl
  ·have hu:zdR t (Tr.mk (97,al,v,()) []) w=some (decide (∃ x∈g.2.2.1,x.1=t/\x.2.1=v),w):=by
    unfold zdR;rw [hw.e,(zAI ok (p:=t)).eq];rfl
   conv=>lhs;rw [zfG];unfold za4
   rw [if_pos (decide_eq_true (by omega)),hu]
   show G _ _=_;rw [zad ⟨t0,by omega⟩,zad (by omega),zad (zaE (by omega) (by omega))]
  ·show zcd w _ g.2.1 w out=_;rw [zfG];unfold za4;rw [if_neg (by simp only [decide_eq_true_eq];omega)]
 rw [zeX];unfold zbj za9;exact (zad zax).trans ((if_neg (by exact Bool.false_ne_true)).trans ((if_neg (by exact Bool.false_ne_true)).trans ((if_pos rfl).trans (by rw [e];rfl))))
theorem zy8 {s v:Int} {al:Bool} {a:Tr ND} {K:List (Tr ND)} {R:List Bool} (hs:s=33\/s=88\/s=70\/s=71\/s=38\/s=124\/s=85) (ha:zai w a=some R):
  zai w (Tr.mk (s,al,v,()) (a::K))=zao zai w (Tr.mk (s,al,v,()) (a::K)) R:=by
 have e:((zai w (ix (a::K) 0)).bind fun y=>zao zai w (Tr.mk (s,al,v,()) (a::K)) y)=zao zai w (Tr.mk (s,al,v,()) (a::K)) R:=by
  show ((zai w a).bind fun y=>_)=_
  rw [ha];rfl
 have hk:0<=(0:Int)/\(0:Int) < ((a::K).length:Int):=⟨by omega,by simp only [List.length_cons];omega⟩
 rw [zeX];unfold zbj za9;refine (zad zax).trans ?_
 have d48 : ¬ decide (s=48)=true:=by simp;omega
 have d49 : ¬ decide (s=49)=true:=by simp;omega
 have d97 : ¬ decide (s=97)=true:=by simp;omega
 exact (if_neg d48).trans ((if_neg d49).trans ((if_neg d97).trans ((zad zax).trans ((zad hk).trans (zdC e e)))))
theorem zDc {N:Int} {v:Int} {al:Bool} {K:List (Tr ND)} {R:List Bool} (hR:(R.length:Int)=N) (h1:N<=12):zao zai w (Tr.mk (33,al,v,()) K) R=some (ng N R):=by
 unfold zao;exact (zad zax).trans ((if_pos rfl).trans (by rw [zvp hR h1];rfl))
theorem zBV {s v:Int} {al:Bool} {a b:Tr ND} {R S:List Bool} (hs:s=38\/s=124\/s=85) (hb:zai w b=some S):
  zao zai w (Tr.mk (s,al,v,()) [a,b]) R=zap w (Tr.mk (s,al,v,()) [a,b]) R S:=by
 have e:((zai w (ix [a,b] 1)).bind fun y=>zap w (Tr.mk (s,al,v,()) [a,b]) R y)=zap w (Tr.mk (s,al,v,()) [a,b]) R S:=by
  show ((zai w b).bind fun y=>_)=_
  rw [hb];rfl
 have j13:zaH zai w (Tr.mk (s,al,v,()) [a,b]) R true=zap w (Tr.mk (s,al,v,()) [a,b]) R S:=by
  unfold zaH;have hk:0<=(1:Int)/\(1:Int) < (([a,b]:List (Tr ND)).length:Int):=⟨by omega,by simp⟩
  exact (if_pos rfl).trans ((zad zax).trans ((zad hk).trans (zdC e e)))
 unfold zao;rcases hs with rfl | rfl | rfl
 ·exact (zad zax).trans ((if_neg (by exact Bool.false_ne_true)).trans ((if_pos rfl).trans j13))
 ·exact (zad zax).trans ((if_neg (by exact Bool.false_ne_true)).trans ((if_neg (by exact Bool.false_ne_true)).trans ((if_pos rfl).trans j13)))
 ·exact (zad zax).trans ((if_neg (by exact Bool.false_ne_true)).trans ((if_neg (by exact Bool.false_ne_true)).trans ((if_neg (by exact Bool.false_ne_true)).trans j13)))
theorem zDd (ok:GrOk g) (hw:WOk g w) {v:Int} {al:Bool} {K:List (Tr ND)} {R S:List Bool} (hR:(R.length:Int)=g.2.1) (hS:(S.length:Int)=g.2.1):zap w (Tr.mk (38,al,v,()) K) R S=some (tb g.2.1 fun p=>ix R p && ix S p):=by
 unfold zap;exact (zad zax).trans ((if_pos rfl).trans (by rw [zAf ok hw hR hS];rfl))
theorem zBU (ok:GrOk g) (hw:WOk g w) {v:Int} {al:Bool} {K:List (Tr ND)} {R S:List Bool} (hR:(R.length:Int)=g.2.1) (hS:(S.length:Int)=g.2.1):zap w (Tr.mk (124,al,v,()) K) R S=some (tb g.2.1 fun p=>ix R p || ix S p):=by
 unfold zap;exact (zad zax).trans ((if_neg (by exact Bool.false_ne_true)).trans ((zad zax).trans ((if_pos rfl).trans (by rw [zAg ok hw hR hS];rfl))))
theorem zDg (ok:GrOk g) (hw:WOk g w) {v:Int} {al:Bool} {K:List (Tr ND)} {a b:List Bool} (ha:(a.length:Int)=g.2.1) (hb:(b.length:Int)=g.2.1):∃ R,zap w (Tr.mk (85,al,v,()) K) a b=some R/\Lf g al a b R:=by
 have hn:=ok.n
 cases al with
 | false=>
  obtain ⟨R,e,h⟩:=zpH ok hw ha hb;refine ⟨R,?_,h⟩
  unfold zap;exact (zad zax).trans ((if_neg (by exact Bool.false_ne_true)).trans ((zad zax).trans ((if_neg (by exact Bool.false_ne_true)).trans ((zad zax).trans ((if_pos rfl).trans (by rw [e];rfl))))))
 | true=>
  obtain ⟨G',e1,hG⟩:=zwb ok hw (zp4 (N:=g.2.1) (X:=b) (by omega))
  obtain ⟨U,e2,hU⟩:=zpH ok hw (zp4 (N:=g.2.1) (X:=b) (by omega)) (zdh (N:=g.2.1) (f:=fun p => !ix a p && !ix b p) (by omega))
  refine ⟨_,?_,zD7 ok hG hU⟩
  have en:zcR b=some (ng g.2.1 b):=zvp hb (by omega)
  have j21:zci w a b G'=some (tb g.2.1 fun p => !ix G' p && !ix U p):=by
   unfold zci zcj;simp only [en,zAj ok hw ha hb,e2,zAk ok hw hG.l hU.l,Option.bind_some];exact zdC (zdC (zdC rfl rfl) rfl) rfl
  unfold zap;refine (zad zax).trans ((if_neg (by exact Bool.false_ne_true)).trans ((zad zax).trans ((if_neg (by exact Bool.false_ne_true)).trans ((zad zax).trans ((if_neg (by exact Bool.false_ne_true)).trans ?_)))))
  simp only [en,e1,j21,Option.bind_some];exact zdC (zdC rfl rfl) rfl
theorem zuv {s v:Int} {al:Bool} {K:List (Tr ND)} {R:List Bool} {N:Int} (hs:s=88\/s=70\/s=71) (hR:(R.length:Int)=N) (h1:N<=12):
  zao zai w (Tr.mk (s,al,v,()) K) R=zaw w (Tr.mk (s,al,v,()) K) (if al=true then ng N R else R):=by
 have j13:zaH zai w (Tr.mk (s,al,v,()) K) R false=zaw w (Tr.mk (s,al,v,()) K) (if al=true then ng N R else R):=by
  unfold zaH;refine (if_neg (by exact Bool.false_ne_true)).trans ((zad zax).trans ?_)
  cases al
  ·exact if_neg (by exact Bool.false_ne_true)
  ·refine (if_pos rfl).trans ?_
   rw [zvp hR h1];rfl
 unfold zao;rcases hs with rfl | rfl | rfl
 ·exact (zad zax).trans ((if_neg (by exact Bool.false_ne_true)).trans ((if_neg (by exact Bool.false_ne_true)).trans ((if_neg (by exact Bool.false_ne_true)).trans j13)))
 ·exact (zad zax).trans ((if_neg (by exact Bool.false_ne_true)).trans ((if_neg (by exact Bool.false_ne_true)).trans ((if_neg (by exact Bool.false_ne_true)).trans j13)))
 ·exact (zad zax).trans ((if_neg (by exact Bool.false_ne_true)).trans ((if_neg (by exact Bool.false_ne_true)).trans ((if_neg (by exact Bool.false_ne_true)).trans j13)))
theorem zDh (ok:GrOk g) (hw:WOk g w) {v:Int} {al:Bool} {K:List (Tr ND)} {a:List Bool} (ha:(a.length:Int)=g.2.1):zaw w (Tr.mk (88,al,v,()) K) (if al=true then ng g.2.1 a else a)=some (tb g.2.1 fun p=>St g al a p):=by
 have hn:=ok.n;unfold zaw;refine (zad zax).trans ((if_pos rfl).trans ?_)
 cases al with
 | false=>
  rw [if_neg (by simp),zvf ok hw ha]
  exact (zad zax).trans (if_neg (by exact Bool.false_ne_true))
 | true=>
  rw [if_pos rfl,zvf ok hw (zp4 (by omega))]
  refine (zad zax).trans ((if_pos rfl).trans ?_)
  show (zcR (tb g.2.1 fun p=>St g false (ng g.2.1 a) p)).bind _=_
  rw [zvp (zdh (by omega)) (by omega)]
  show some _=some _;congr 1
  refine zzc (by omega) (zdh (by omega)) fun p p0 p1 => ?_
  rw [zdE p0 p1,zdE p0 p1];have:=zzS (g:=g) ok (X:=a) p0 p1
  cases h1:St g false (ng g.2.1 a) p<;>cases h2:St g true a p<;>simp_all
theorem zDe (ok:GrOk g) (hw:WOk g w) {v:Int} {al:Bool} {K:List (Tr ND)} {a:List Bool} (ha:(a.length:Int)=g.2.1):∃ R,zaw w (Tr.mk (70,al,v,()) K) (if al=true then ng g.2.1 a else a)=some R/\Lf g al (tb g.2.1 fun _=>true) a R:=by
 have hn:=ok.n
 cases al with
 | false=>
  obtain ⟨R,e,h⟩:=zpH ok hw (zdh (N:=g.2.1) (f:=fun _=>true) (by omega)) ha
  refine ⟨R,?_,h⟩
  rw [show (if (false:Bool)=true then ng g.2.1 a else a)=a from if_neg (by simp)]
  unfold zaw;refine (zad zax).trans ((if_neg (by exact Bool.false_ne_true)).trans ((zad zax).trans ((zad zax).trans ((if_pos rfl).trans ?_))))
  rw [zvq ok hw];show (zaT w _ a).bind _=_;rw [e];exact (zad zax).trans (if_neg (by exact Bool.false_ne_true))
 | true=>
  obtain ⟨R,e,h⟩:=zwb ok hw (zp4 (N:=g.2.1) (X:=a) (by omega))
  refine ⟨ng g.2.1 R,?_,zD5 ok (fun p p0 p1=>by rw [zdE p0 p1]) h⟩
  rw [show (if (true:Bool)=true then ng g.2.1 a else a)=ng g.2.1 a from if_pos rfl]
  unfold zaw;refine (zad zax).trans ((if_neg (by exact Bool.false_ne_true)).trans ((zad zax).trans ((zad zax).trans ((if_neg (by exact Bool.false_ne_true)).trans ?_))))
  rw [e];refine (zad zax).trans ((if_pos rfl).trans ?_)
  rw [zvp h.l (by omega)];rfl
theorem zDf (ok:GrOk g) (hw:WOk g w) {v:Int} {al:Bool} {K:List (Tr ND)} {a:List Bool} (ha:(a.length:Int)=g.2.1):∃ R,zaw w (Tr.mk (71,al,v,()) K) (if al=true then ng g.2.1 a else a)=some R/\Gf g al a R:=by
 have hn:=ok.n
 cases al with
 | false=>
  obtain ⟨R,e,h⟩:=zwb ok hw ha;refine ⟨R,?_,h⟩
  rw [show (if (false:Bool)=true then ng g.2.1 a else a)=a from if_neg (by simp)]
  unfold zaw;refine (zad zax).trans ((if_neg (by exact Bool.false_ne_true)).trans ((zad zax).trans ((zad zax).trans ((if_neg (by exact Bool.false_ne_true)).trans ?_))))
  rw [e];exact (zad zax).trans (if_neg (by exact Bool.false_ne_true))
 | true=>
  obtain ⟨R,e,h⟩:=zpH ok hw (zdh (N:=g.2.1) (f:=fun _=>true) (by omega)) (zp4 (N:=g.2.1) (X:=a) (by omega))
  refine ⟨ng g.2.1 R,?_,zD6 ok (fun p p0 p1=>by rw [zdE p0 p1]) h⟩
  rw [show (if (true:Bool)=true then ng g.2.1 a else a)=ng g.2.1 a from if_pos rfl]
  unfold zaw;refine (zad zax).trans ((if_neg (by exact Bool.false_ne_true)).trans ((zad zax).trans ((zad zax).trans ((if_pos rfl).trans ?_))))
  rw [zvq ok hw];show (zaT w _ _).bind _=_;rw [e];refine (zad zax).trans ((if_pos rfl).trans ?_)
  rw [zvp h.l (by omega)];rfl
end
section
variable {g:Gr} {w:Wlk} {l:L5} {k s v A B:Int} {al:Bool} {u:Unit}
theorem zEp (ok:GrOk g) (k0:0<=k) (k1:k < l.length) (hx:ix l k=(48,al,v,A,B,u)):zaJ g l k=some (tb g.2.1 fun _=>false):=by
 have hn:=ok.n;rw [zju];unfold zeg;rw [zad ⟨k0,k1⟩,zad (zsm (by omega) (by omega) (by omega)),hx]
 refine (if_pos rfl).trans (congrArg some (zzc (by omega) (zkM (by omega)) fun p p0 p1 => ?_))
 rw [zsP p0 (by omega)]
theorem zCt (ok:GrOk g) (hx:ix l k=(s,al,v,A,B,u)):zhr g l k 0 (List.replicate (g.2.1).toNat false)=zbY g l k 0 (tb g.2.1 fun _=>decide (s=49)):=by
 have hn:=ok.n;refine fill (N:=g.2.1) (by omega) (loop:=fun t out=>zhr g l k t out) (fin:=fun out=>zbY g l k 0 out) (f:=fun _=>decide (s=49)) (fun t out t0 t1 ho => ?_) (fun out ho => ?_) (zkM (by omega))
 ·conv=>lhs;rw [zo7];unfold zeh
  rw [if_pos (decide_eq_true t1),zad ⟨t0,by omega⟩,zad (by omega),zad (zaE (by omega) (by omega)),hx]
 ·show zhr g l k g.2.1 out=_;rw [zo7];unfold zeh;rw [if_neg (by simp)]
theorem zEq (ok:GrOk g) (k0:0<=k) (k1:k < l.length) (hx:ix l k=(49,al,v,A,B,u)):zaJ g l k=some (tb g.2.1 fun _=>true):=by
 have hn:=ok.n;have ha:=ok.a;rw [zju];unfold zeg zd1;rw [zad ⟨k0,k1⟩,zad (zsm (by omega) (by omega) (by omega)),zCt ok hx,hx]
 refine (if_neg (by exact Bool.false_ne_true)).trans ((if_pos rfl).trans ((if_pos rfl).trans ?_))
 have:∀ i:Int,(ix l k).1=49->True:=fun _ _=>trivial
 refine zfr (len:=(g.2.2.1.length:Int)) (L:=fun i=>zbY g l k i (tb g.2.1 fun _=>decide ((49:Int)=49))) (bad:=fun _=>False) (lo:=0) (by omega) (fun i i0 i1=>⟨fun h=>h.elim,fun _ => ?_⟩) (fun _ => ?_)
 ·show zbY g l k i _=_
  conv=>lhs;rw [zgG];unfold zcq zeK
  rw [if_pos (decide_eq_true i1),hx];refine (if_neg (by exact Bool.false_ne_true)).trans ((if_neg (by exact Bool.false_ne_true)).trans ?_)
  rw [zad (zaE (by omega) (by omega))]
 ·show zbY g l k _ _=_;rw [zgG];unfold zcq;rw [if_neg (by simp)]
  simp
open Classical in
theorem zEr (ok:GrOk g) (k0:0<=k) (k1:k < l.length) (hx:ix l k=(97,al,v,A,B,u)):zaJ g l k=some (tb g.2.1 fun p=>decide (∃ x∈g.2.2.1,x.1=p/\x.2.1=v)):=by
 have hn:=ok.n;have ha:=ok.a;rw [zju];unfold zeg zd1;rw [zad ⟨k0,k1⟩,zad (zsm (by omega) (by omega) (by omega)),zCt ok hx,hx]
 refine (if_neg (by exact Bool.false_ne_true)).trans ((if_neg (by exact Bool.false_ne_true)).trans ((if_pos rfl).trans ?_))
 obtain ⟨s',⟨i1,i2⟩,e1⟩:=zue (len:=(g.2.2.1.length:Int)) (lo:=0) (L:=fun t (s:List Bool)=>zbY g l k t s)
  (f:=fun t s=>if (ix g.2.2.1 t).2.1=v then s.set (ix g.2.2.1 t).1.toNat true else s)
  (I:=fun t (s:List Bool)=>(s.length:Int)=g.2.1/\∀ p,0<=p->p < g.2.1->(ix s p=true↔∃ j:Int,0<=j/\j < t/\(ix g.2.2.1 j).1=p/\(ix g.2.2.1 j).2.1=v))
  (s:=tb g.2.1 fun _=>decide ((97:Int)=49)) (by omega)
  ⟨zdh (by omega),fun p p0 p1=>by
   rw [zdE p0 p1];exact ⟨fun h=>(by simp at h),fun ⟨j,j0,j1,_⟩=>by omega⟩⟩
  (fun t s t0 t1 hI=>by
   obtain ⟨hl,hr⟩:=hI;obtain ⟨x0,x1,_⟩:=ok.x _ (zeP t0 t1);have fT:fits (t+1):=zaE (by omega) (by omega)
   constructor
   ·show zbY g l k t s=zbY g l k (t+1) _
    conv=>lhs;rw [zgG];unfold zcq zeK
    rw [if_pos (decide_eq_true t1),hx];refine (if_pos rfl).trans ((zad ⟨t0,t1⟩).trans ?_)
    by_cases e:(ix g.2.2.1 t).2.1=v
    ·rw [if_pos e];refine (if_pos (decide_eq_true e)).trans ?_
     rw [zad ⟨t0,t1⟩,zad ⟨x0,by omega⟩,zad (by omega),zad fT]
    ·rw [if_neg e];refine (if_neg (by simpa using e)).trans ?_
     rw [zad fT]
   ·have stp:∀ p:Int,(∃ j:Int,0<=j/\j < t+1/\(ix g.2.2.1 j).1=p/\(ix g.2.2.1 j).2.1=v)↔((∃ j:Int,0<=j/\j < t/\(ix g.2.2.1 j).1=p/\(ix g.2.2.1 j).2.1=v)\/((ix g.2.2.1 t).1=p/\(ix g.2.2.1 t).2.1=v)):=by
     intro p;constructor
     ·rintro ⟨j,j0,j1,h⟩;by_cases e:j=t
      ·subst e;exact .inr h
      ·exact .inl ⟨j,j0,by omega,h⟩
     ·rintro (⟨j,j0,j1,h⟩ | h)
      ·exact ⟨j,j0,by omega,h⟩
      ·exact ⟨t,t0,by omega,h⟩
    split
    ·rename_i e;refine ⟨by simp;omega,fun p p0 p1 => ?_⟩
     rw [stp];by_cases ep:p=(ix g.2.2.1 t).1
     ·subst ep;rw [zgL p0 (by omega)];exact ⟨fun _ => .inr ⟨rfl,e⟩,fun _=>rfl⟩
     ·rw [zmN x0 p0 (fun h=>ep h.symm),hr p p0 p1]
      exact ⟨fun h => .inl h,fun h=>h.elim id fun h=>absurd h.1.symm ep⟩
    ·rename_i e;refine ⟨hl,fun p p0 p1 => ?_⟩
     rw [stp,hr p p0 p1];exact ⟨fun h => .inl h,fun h=>h.elim id fun h=>absurd h.2 e⟩)
 rw [show zbY g l k 0 (tb g.2.1 fun _=>decide ((97:Int)=49))=_ from e1]
 rw [zgG];unfold zcq;rw [if_neg (by simp)]
 refine congrArg some (zzc (by omega) i1 fun p p0 p1 => ?_)
 refine Bool.eq_iff_iff.2 ((i2 p p0 p1).trans ?_)
 rw [decide_eq_true_iff];exact (zoA (l:=g.2.2.1) (P:=fun x:Arc=>x.1=p/\x.2.1=v)).symm
theorem zBd (ok:GrOk g) (k0:0<=k) (k1:k < l.length) (hx:ix l k=(s,al,v,A,B,u)) (hs:s=33\/s=88\/s=70\/s=71) {R:List Bool} (hA:zaJ g l A=some R):zaJ g l k=zbG g l k R (List.replicate (g.2.1).toNat false):=by
 have hn:=ok.n;have mk:=zsm (N:=g.2.1) (b:=1) (by omega) (by omega) (by omega)
 have hA':zaJ (g.1,g.2.1,g.2.2.1,()) l (ix l k).2.2.2.1=some R:=by rw [hx];exact hA
 have d:∀ c:Int,c≠33->c≠88->c≠70->c≠71 -> ¬ decide ((ix l k).1=c)=true:=fun c _ _ _ _=>by rw [hx];simp;omega
 rw [zju];unfold zeg zd1;rw [zad ⟨k0,k1⟩,zad mk,if_neg (d 48 (by decide) (by decide) (by decide) (by decide)),if_neg (d 49 (by decide) (by decide) (by decide) (by decide)),if_neg (d 97 (by decide) (by decide) (by decide) (by decide)),hA']
 show G _ _=_;unfold zda;rw [zad mk,if_neg (d 38 (by decide) (by decide) (by decide) (by decide)),if_neg (d 124 (by decide) (by decide) (by decide) (by decide)),if_neg (d 85 (by decide) (by decide) (by decide) (by decide))]
theorem zBe (ok:GrOk g) (k0:0<=k) (k1:k < l.length) (hx:ix l k=(s,al,v,A,B,u)) (hs:s=38\/s=124\/s=85) {R S:List Bool} (hA:zaJ g l A=some R) (hB:zaJ g l B=some S):zaJ g l k=zbG g l k R S:=by
 have hn:=ok.n;have mk:=zsm (N:=g.2.1) (b:=1) (by omega) (by omega) (by omega)
 have hA':zaJ (g.1,g.2.1,g.2.2.1,()) l (ix l k).2.2.2.1=some R:=by rw [hx];exact hA
 have hB':zaJ (g.1,g.2.1,g.2.2.1,()) l (ix l k).2.2.2.2.1=some S:=by rw [hx];exact hB
 have d:∀ c:Int,c≠s -> ¬ decide ((ix l k).1=c)=true:=fun c _=>by rw [hx];simp;omega
 have j18:zda zaJ g l k R true=zbG g l k R S:=by
  unfold zda;rw [if_pos rfl,hB'];rfl
 rw [zju];unfold zeg zd1;rw [zad ⟨k0,k1⟩,zad mk,if_neg (d 48 (by omega)),if_neg (d 49 (by omega)),if_neg (d 97 (by omega)),hA']
 show G _ _=_;rw [zad mk];rcases hs with rfl | rfl | rfl
 ·rw [if_pos (by rw [hx];rfl)];exact j18
 ·rw [if_neg (d 38 (by omega)),if_pos (by rw [hx];rfl)];exact j18
 ·rw [if_neg (d 38 (by omega)),if_neg (d 124 (by omega)),show decide ((ix l k).1=85)=true from by rw [hx];rfl];exact j18
theorem zxw (ok:GrOk g) (hx:ix l k=(s,al,v,A,B,u)) (hs:s=33\/s=38\/s=124\/s=88) {R S:List Bool} (hR:(R.length:Int)=g.2.1) (hS:(S.length:Int)=g.2.1) {f:Int->Bool}
  (hf:∀ p,0<=p->p < g.2.1->f p=if s=33 then !ix R p else if s=38 then ix R p && ix S p else if s=124 then ix R p || ix S p else St g al R p):zbG g l k R S=some (tb g.2.1 f):=by
 have hn:=ok.n;have eg:(g.1,g.2.1,g.2.2.1,())=g:=rfl;have d:∀ c:Int,c≠s -> ¬ decide ((ix l k).1=c)=true:=fun c _=>by rw [hx];simp;omega
 unfold zbG;rw [if_neg (d 85 (by omega)),if_neg (d 71 (by omega)),if_neg (d 70 (by omega))]
 refine fill (N:=g.2.1) (by omega) (loop:=fun t out=>zeL g l k R S t out) (fin:=fun out=>some out) (f:=f) (fun t out t0 t1 ho => ?_) (fun out ho => ?_) (zkM (by omega))
 ·have fT:fits (t+1):=zaE (by omega) (by omega)
  show zeL g l k R S t out=zeL g l k R S (t+1) _;have hft:=hf t t0 t1
  conv=>lhs;rw [znU];unfold zdt
  rw [if_pos (decide_eq_true t1)];rcases hs with rfl | rfl | rfl | rfl
  ·rw [if_pos (by rw [hx];rfl),zad ⟨t0,by omega⟩,zad (by omega),zad ⟨t0,by omega⟩,zad (by omega),zad fT,show f t = !ix R t by rw [hft];simp]
  ·rw [if_neg (d 33 (by omega)),if_pos (by rw [hx];rfl),zad ⟨t0,by omega⟩,zad (by omega),show f t=(ix R t && ix S t) by rw [hft];simp]
   cases ix R t
   ·rw [if_neg (by simp),zad ⟨t0,by omega⟩,zad (by omega),zad fT];rfl
   ·rw [if_pos rfl,zad ⟨t0,by omega⟩,zad (by omega),zad ⟨t0,by omega⟩,zad (by omega),zad fT];rfl
  ·rw [if_neg (d 33 (by omega)),if_neg (d 38 (by omega)),if_pos (by rw [hx];rfl),zad ⟨t0,by omega⟩,zad (by omega),show f t=(ix R t || ix S t) by rw [hft];simp]
   cases ix R t
   ·rw [if_neg (by simp),zad ⟨t0,by omega⟩,zad (by omega),zad ⟨t0,by omega⟩,zad (by omega),zad fT];rfl
   ·rw [if_pos rfl,zad ⟨t0,by omega⟩,zad (by omega),zad fT];rfl
  ·rw [if_neg (d 33 (by omega)),if_neg (d 38 (by omega)),if_neg (d 124 (by omega)),if_pos (by rw [hx];rfl),eg,zA9 ok hR t0 t1,show f t=St g al R t by rw [hft];simp]
   show G _ _=_;rw [zad ⟨t0,by omega⟩,zad (by omega)]
   have hal:(ix l k).2.1=al:=by rw [hx]
   cases al with
   | false=>
    rw [if_neg (by rw [hal];simp),zad fT]
   | true=>
    rw [if_pos hal,zym ok hR t0 t1];have hl2:((out.set t.toNat (St g false R t)).length:Int)=g.2.1:=by simp;omega
    show G _ _=_;rw [zad ⟨t0,by omega⟩,zad (by omega),zad fT,List.set_set]
 ·show zeL g l k R S g.2.1 out=_;rw [znU];unfold zdt;rw [if_neg (by simp)]
theorem zCs (ok:GrOk g) (hx:ix l k=(85,al,v,A,B,u)) {R S:List Bool} (hR:(R.length:Int)=g.2.1) (hS:(S.length:Int)=g.2.1):∃ T,zbG g l k R S=some T/\Lf g al R S T:=by
 have eg:(g.1,g.2.1,g.2.2.1,())=g:=rfl;obtain ⟨T,e,h⟩:=zBq ok (all:=al) hR hS;refine ⟨T,?_,h⟩
 unfold zbG;rw [if_pos (by rw [hx];rfl),eg,show (ix l k).2.1=al by rw [hx],e];rfl
theorem zCr (ok:GrOk g) (hx:ix l k=(71,al,v,A,B,u)) {R S:List Bool} (hR:(R.length:Int)=g.2.1):∃ T,zbG g l k R S=some T/\Gf g al R T:=by
 have eg:(g.1,g.2.1,g.2.2.1,())=g:=rfl;obtain ⟨T,e,h⟩:=zB5 ok (all:=al) hR;refine ⟨T,?_,h⟩
 unfold zbG;rw [if_neg (by rw [hx];exact Bool.false_ne_true),if_pos (by rw [hx];rfl),eg,show (ix l k).2.1=al by rw [hx],e];rfl
theorem zCq (ok:GrOk g) (hx:ix l k=(70,al,v,A,B,u)) {R:List Bool} (hR:(R.length:Int)=g.2.1):∃ T,zbG g l k R (List.replicate (g.2.1).toNat false)=some T/\Lf g al (tb g.2.1 fun _=>true) R T:=by
 have hn:=ok.n;have eg:(g.1,g.2.1,g.2.2.1,())=g:=rfl;obtain ⟨T,e,h⟩:=zBq ok (all:=al) (zdh (N:=g.2.1) (f:=fun _=>true) (by omega)) hR
 refine ⟨T,?_,h⟩
 unfold zbG;rw [if_neg (by rw [hx];exact Bool.false_ne_true),if_neg (by rw [hx];exact Bool.false_ne_true),if_pos (by rw [hx];rfl)]
 have h1:zfA g l k R 0 (List.replicate (g.2.1).toNat false)=(zlJ g al (tb g.2.1 fun _=>true) R).bind fun y=>some y:=by
  refine fill (N:=g.2.1) (by omega) (loop:=fun t out=>zfA g l k R t out) (fin:=fun out=>(zlJ g al out R).bind fun y=>some y) (f:=fun _=>true) (fun t out t0 t1 ho => ?_) (fun out ho => ?_) (zkM (by omega))
  ·conv=>lhs;rw [znT];unfold zds
   rw [if_pos (decide_eq_true t1),zad ⟨t0,by omega⟩,zad (by omega),zad (zaE (by omega) (by omega))]
  ·show zfA g l k R g.2.1 out=_;rw [znT];unfold zds;rw [if_neg (by simp),eg,show (ix l k).2.1=al by rw [hx]]
 rw [h1,e];rfl
theorem zpI (ok:GrOk g) (hw:WOk g w) {t:Tr ND} {k:Int} (h:Stn l t k):∃ R,zai w t=some R/\zaJ g l k=some R/\(R.length:Int)=g.2.1:=by
 have hn:=ok.n
 induction h with
 | leaf k k0 k1 hs=>
  generalize hx:ix l k=x at hs;obtain ⟨s,al,v,A,B,u⟩:=x;rcases (hs:s=48\/s=49\/s=97) with rfl | rfl | rfl
  ·exact ⟨_,zxp ok hw (.inl rfl),zEp ok k0 k1 hx,zdh (by omega)⟩
  ·exact ⟨_,zxp ok hw (.inr rfl),zEq ok k0 k1 hx,zdh (by omega)⟩
  ·exact ⟨_,zDi ok hw,zEr ok k0 k1 hx,zdh (by omega)⟩
 | one k a k0 k1 hs ha iha=>
  obtain ⟨Ra,e1,e2,hl⟩:=iha;generalize hx:ix l k=x at hs e2;obtain ⟨s,al,v,A,B,u⟩:=x;have e2:zaJ g l A=some Ra:=e2;have hs:s=33\/s=88\/s=70\/s=71:=hs;have p1:zai w (Tr.mk (s,al,v,()) [a])=_:=zy8 (by omega) e1
  have r1:=zBd ok k0 k1 hx hs e2;rcases hs with rfl | rfl | rfl | rfl
  ·exact ⟨_,p1.trans (zDc hl (by omega)),r1.trans (zxw ok hx (by omega) hl (zkM (by omega)) fun p _ _=>by simp),zp4 (by omega)⟩
  ·exact ⟨_,p1.trans ((zuv (.inl rfl) hl (by omega)).trans (zDh ok hw hl)),r1.trans (zxw ok hx (by omega) hl (zkM (by omega)) fun p _ _=>by simp),zdh (by omega)⟩
  ·obtain ⟨R,q1,q2⟩:=zDe ok hw (v:=v) (al:=al) (K:=[a]) hl;obtain ⟨T,q3,q4⟩:=zCq ok hx hl;rw [<- q2.uniq q4] at q3;exact ⟨R,p1.trans ((zuv (.inr (.inl rfl)) hl (by omega)).trans q1),r1.trans q3,q2.l⟩
  ·obtain ⟨R,q1,q2⟩:=zDf ok hw (v:=v) (al:=al) (K:=[a]) hl;obtain ⟨T,q3,q4⟩:=zCr ok hx (S:=List.replicate (g.2.1).toNat false) hl;rw [<- q2.uniq q4] at q3;exact ⟨R,p1.trans ((zuv (.inr (.inr rfl)) hl (by omega)).trans q1),r1.trans q3,q2.l⟩
 | two k a b k0 k1 hs ha hb iha ihb=>
  obtain ⟨Ra,e1,e2,hl⟩:=iha;obtain ⟨Rb,e3,e4,hl2⟩:=ihb;generalize hx:ix l k=x at hs e2 e4;obtain ⟨s,al,v,A,B,u⟩:=x;have e2:zaJ g l A=some Ra:=e2;have e4:zaJ g l B=some Rb:=e4;have hs:s=38\/s=124\/s=85:=hs;have p1:zai w (Tr.mk (s,al,v,()) [a,b])=_:=(zy8 (by omega) e1).trans (zBV hs e3)
  have r1:=zBe ok k0 k1 hx hs e2 e4;rcases hs with rfl | rfl | rfl
  ·exact ⟨_,p1.trans (zDd ok hw hl hl2),r1.trans (zxw ok hx (by omega) hl hl2 fun p _ _=>by simp),zdh (by omega)⟩
  ·exact ⟨_,p1.trans (zBU ok hw hl hl2),r1.trans (zxw ok hx (by omega) hl hl2 fun p _ _=>by simp),zdh (by omega)⟩
  ·obtain ⟨R,q1,q2⟩:=zDg ok hw (v:=v) (al:=al) (K:=[a,b]) hl hl2;obtain ⟨T,q3,q4⟩:=zCs ok hx hl hl2;rw [<- q2.uniq q4] at q3;exact ⟨R,p1.trans q1,r1.trans q3,q2.l⟩
end
theorem zmP {α:Type}:∀ {ks:List α} {x:α},ze3 ks x=none↔x∉ks
 | [],x=>by simp [ze3]
 | y::ys,x=>by
  unfold ze3;by_cases h:y=x
  ·rw [if_pos h];simp [h]
  ·rw [if_neg h,Option.map_eq_none_iff,zmP];simp [Ne.symm h]
theorem zCn {α:Type} [DecidableEq α]:∀ {l U:List α},l.Nodup->(∀ x∈l,x∈U)->l.length<=U.length
 | [],_,_,_=>Nat.zero_le _
 | a::l,U,hn,hs=>by
  have ha:=hs a (by simp)
  obtain ⟨h1,h2⟩:=List.nodup_cons.1 hn;have:=zCn (U:=U.erase a) h2 (fun x hx=>(List.mem_erase_of_ne (by rintro rfl;exact h1 hx)).2 (hs x (by simp [hx])))
  rw [List.length_erase_of_mem ha] at this;have hp:0 < U.length:=List.length_pos_of_mem ha;rw [List.length_cons];omega
theorem zkc {l:List Int} {n:Nat} (h:l.Nodup) (hb:∀ x∈l,0<=x/\x < n):l.length<=n:=by
 have:=zCn (U:=(List.range n).map Int.ofNat) h (fun x hx=>by
  have:=hb x hx;exact List.mem_map.2 ⟨x.toNat,List.mem_range.2 (by omega),by show ((x.toNat:Nat):Int)=x;omega⟩)
 simpa using this
theorem zAW {α:Type} {ks:List α} {x:α} (h:x∈ks):∃ j,ze3 ks x=some j:=by
 cases e:ze3 ks x with
 | none=>exact absurd h (zmP.1 e)
 | some j=>exact ⟨j,rfl⟩
theorem zy1 {α:Type} (ks:List α) (x:α):ze3 (x::ks) x=some 0:=by unfold ze3;rw [if_pos rfl]
theorem zy2 {α:Type} {ks:List α} {x y:α} (h:y≠x):ze3 (y::ks) x=(ze3 ks x).map (·+1):=by
 rw [ze3,if_neg h]
theorem zxk {α:Type}:∀ {ks:List α} {x:α} {j:Nat} (l:List α),ze3 ks x=some j->ze3 (ks++l) x=some j
 | [],_,_,_,h=>by cases h
 | y::ks,x,j,l,h=>by
  rw [List.cons_append];by_cases e:y=x
  ·subst e;rw [zy1] at h ⊢;exact h
  ·rw [zy2 e] at h ⊢
   cases hm:ze3 ks x with
   | none=>rw [hm] at h;cases h
   | some i=>rw [hm] at h;rw [zxk l hm];exact h
theorem zxl {α:Type}:∀ {ks:List α} {x:α},x∉ks->ze3 (ks++[x]) x=some ks.length
 | [],x,_=>zy1 _ _
 | y::ks,x,h=>by
  have hy:y≠x:=by rintro rfl;exact h (by simp)
  rw [List.cons_append,zy2 hy,zxl (fun hh=>h (by simp [hh]))];rfl
theorem zy5 {α:Type} {ks:List α} {x:α}:mhas ks x=true↔x∈ks:=by
 unfold mhas
 cases e:ze3 ks x with
 | none=>simp [zmP.1 e]
 | some j=>
  have:=zre e;simp [List.mem_of_getElem? this]
theorem zzw {l:List Int} {k:Int} (k0:0<=k) (k1:k < l.length):ix l.reverse k=ix l (l.length - 1 - k):=by
 rw [zul k0 (by rw [List.length_reverse];exact k1),zul (by omega) (by omega),List.getElem_reverse]
 congr 1;omega
theorem zqE {w:List Int} (hw:w.length<=1000000):zja w=some w.reverse:=by
 have key:∀ (m:Nat) (i j:Int) (s:List Int),(j - i).toNat=m->0<=i->i+j=w.length - 1->i<=j+1->s.length=w.length->(∀ k:Int,0<=k->k < w.length->ix s k=if k < i\/j < k then ix w (w.length - 1 - k) else ix w k)->zfC i j s=some w.reverse:=by
  intro m
  induction m using Nat.strongRecOn with
  | _ m ih=>
  intro i j s hm i0 hij hji hs hk;rw [zpV];unfold zcG;by_cases c:i < j
  ·rw [if_pos (decide_eq_true c),zad (by omega),zad (by omega),zad (by omega),zad (by omega),zad (by omega),zad (by omega),zad (by rw [List.length_set];omega),zad (by rw [List.length_set];omega),zad (by unfold fits;omega),zad (by unfold fits;omega)]
   refine ih (j - 1 - (i+1)).toNat (by omega) (i+1) (j - 1) _ rfl (by omega) (by omega) (by omega) (by rw [List.length_set,List.length_set];exact hs) (fun k k0 k1 => ?_)
   by_cases e1:j=k
   ·subst e1;rw [zgL (by omega) (by rw [List.length_set];omega),hk i i0 (by omega),if_neg (by omega),if_pos (by omega)]
    congr 1;omega
   ·rw [zmN (by omega) k0 e1]
    by_cases e2:i=k
    ·subst e2;rw [zgL i0 (by omega),hk j (by omega) (by omega),if_neg (by omega),if_pos (by omega)]
     congr 1;omega
    ·rw [zmN i0 k0 e2,hk k k0 k1];by_cases e3:k < i\/j < k
     ·rw [if_pos e3,if_pos (by omega)]
     ·rw [if_neg e3,if_neg (by omega)]
  ·rw [if_neg (by simpa using c)]
   refine congrArg some (zxg (by rw [List.length_reverse];exact hs) (fun k k0 k1 => ?_))
   rw [hk k k0 (by omega),zzw k0 (by omega)]
   by_cases e3:k < i\/j < k
   ·rw [if_pos e3]
   ·rw [if_neg e3];congr 1;omega
 unfold zja;rw [zad (by unfold fits;omega)]
 exact key _ 0 (w.length - 1) w rfl (by omega) (by omega) (by omega) rfl (fun k k0 k1=>by rw [if_neg (by omega)])
theorem Go.ex {g:Gr} (p:Int):∃ q,Go g p q:=by
 by_cases h:∃ x∈g.2.2.1,x.1=p
 ·obtain ⟨x,hx,e⟩:=h;exact ⟨_,.inl ⟨x,hx,e,rfl⟩⟩
 ·exact ⟨p,.inr ⟨fun x hx e=>h ⟨x,hx,e⟩,rfl⟩⟩
theorem zy4 {α β:Type} {ks:List α} {vs:List β} {x q:α} {y z:β} (hl:vs.length=ks.length) (h:q∈ks):mget (ks++[x]) (vs++[y]) q z=mget ks vs q z:=by
 obtain ⟨j,e⟩:=zAW h;have hj:=zrf e;unfold mget;rw [zxk _ e,e];show (vs++[y]).getD j z=vs.getD j z;simp only [List.getD_eq_getElem?_getD];rw [List.getElem?_append_left (by omega)]
theorem zy3 {α β:Type} {ks:List α} {vs:List β} {x:α} {y z:β} (hl:vs.length=ks.length) (h:x∉ks):mget (ks++[x]) (vs++[y]) x z=y:=by
 unfold mget;rw [zxl h];show (vs++[y]).getD ks.length z=y;simp only [List.getD_eq_getElem?_getD];rw [List.getElem?_append_right (by omega),hl]
 simp
theorem zvn {α:Type} {ks:List α} {x:α} (h:x∉ks):zpM ks x=ks++[x]:=by
 unfold zpM;rw [zmP.2 h]
theorem zvo {α β:Type} {ks:List α} {vs:List β} {x:α} {y:β} (h:x∉ks):zu2 ks vs x y=vs++[y]:=by
 unfold zu2;rw [zmP.2 h]
def Ch (g:Gr) (a b:List Bool) (ks vs:List Int) (p:Int):List Int->Prop
 | []=>False
 | [q]=>q=p/\mget ks vs p 0 = -1
 | q::q'::r=>mget ks vs q 0=q'/\Go g q' q/\ix a q'=true /\ ¬ ix b q'=true/\Ch g a b ks vs p (q'::r)
theorem Ch.ext {g:Gr} {a b:List Bool} {ks vs:List Int} {p x y:Int} (hl:vs.length=ks.length):∀ {r:List Int},(∀ q∈r,q∈ks)->Ch g a b ks vs p r->Ch g a b (ks++[x]) (vs++[y]) p r
 | [],_,h=>h
 | [q],hm,h=>⟨h.1,by rw [zy4 hl (by have:=hm q (by simp);rw [<- h.1];exact this)];exact h.2⟩
 | q::q'::r,hm,h=>⟨by rw [zy4 hl (hm q (by simp))];exact h.1,h.2.1,h.2.2.1,h.2.2.2.1,Ch.ext hl (fun z hz=>hm z (List.mem_cons_of_mem _ hz)) h.2.2.2.2⟩
theorem Ch.last {g:Gr} {a b:List Bool} {ks vs:List Int} {p:Int}:∀ {r:List Int},Ch g a b ks vs p r->∃ s,r=s++[p]
 | [q],h=>⟨[],by rw [h.1];rfl⟩
 | q::q'::r,h=>by
  obtain ⟨s,e⟩:=Ch.last h.2.2.2.2;exact ⟨q::s,by rw [e];rfl⟩
def Way (g:Gr) (R:List Int):Prop:=∀ i:Int,0<=i->i+1 < R.length->Go g (ix R i) (ix R (i+1))
theorem Way.snoc {g:Gr} {R:List Int} {q:Int} (h:Way g R) (hn:0 < R.length) (hq:Go g (ix R (R.length - 1)) q):Way g (R++[q]):=by
 intro i i0 i1;simp only [List.length_append,List.length_singleton] at i1;by_cases e:i+1 < R.length
 ·rw [zbd i0 (by omega),zbd (by omega) e];exact h i i0 e
 ·have e1:i=R.length - 1:=by omega
  have e2:i+1=R.length:=by omega
  rw [e2,zdc,zbd i0 (by omega),e1];exact hq
theorem Ch.way {g:Gr} {a b:List Bool} {ks vs:List Int} {p:Int}:∀ {r:List Int},Ch g a b ks vs p r->Way g r.reverse/\∀ i:Int,0<=i->i+1 < r.reverse.length->ix a (ix r.reverse i)=true /\ ¬ ix b (ix r.reverse i)=true
 | [q],h=>⟨fun i i0 i1=>by simp at i1;omega,fun i i0 i1=>by simp at i1;omega⟩
 | q::q'::r,h=>by
  obtain ⟨h1,h2⟩:=Ch.way h.2.2.2.2;have e:(q::q'::r).reverse=(q'::r).reverse++[q]:=by simp
  have hl:0 < (q'::r).reverse.length:=by simp
  have hlast:ix (q'::r).reverse ((q'::r).reverse.length - 1)=q':=by
   rw [List.reverse_cons];have:(((r.reverse++[q']).length:Int) - 1)=r.reverse.length:=by simp
   rw [this];exact zdc
  rw [e];refine ⟨h1.snoc hl (by rw [hlast];exact h.2.1),fun i i0 i1 => ?_⟩
  simp only [List.length_append,List.length_singleton] at i1;rw [zbd i0 (by omega)]
  by_cases ei:i+1 < (q'::r).reverse.length
  ·exact h2 i i0 ei
  ·have:i=(q'::r).reverse.length - 1:=by omega
   rw [this,hlast];exact ⟨h.2.2.1,h.2.2.2.1⟩
section
variable {g:Gr} {w:Wlk}
theorem zD0 {a b:List Bool} {ks vs:List Int} {p:Int}:∀ {r acc:List Int},(∀ q∈r,0<=q)->acc.length+r.length<=1000->Ch g a b ks vs p r->zbz ks vs (r.headD (-1)) acc=some (acc++r).reverse
 | [q],acc,hq,hl,h=>by
  have q0:=hq q (by simp)
  have hl:acc.length+1<=1000:=hl;show zbz ks vs q acc=_;rw [zes];unfold za2;rw [if_pos (decide_eq_true q0),zad (zkP (by simp;omega))]
  rw [h.1,h.2,zes];unfold za2;rw [if_neg (by decide),zqE (by simp;omega)]
  rfl
 | q::q'::r,acc,hq,hl,h=>by
  have q0:=hq q (by simp)
  simp only [List.length_cons] at hl;show zbz ks vs q acc=_;rw [zes];unfold za2;rw [if_pos (decide_eq_true q0),zad (zkP (by simp;omega)),h.1]
  have:=zD0 (r:=q'::r) (acc:=acc++[q]) (fun z hz=>hq z (List.mem_cons_of_mem _ hz)) (by simp;omega) h.2.2.2.2
  have e:(acc++[q])++(q'::r)=acc++(q::q'::r):=by simp
  rw [e] at this;exact this
structure BI (g:Gr) (a b:List Bool) (p d:Int) (ks vs:List Int):Prop where
 nd:ks.Nodup
 l:vs.length=ks.length
 r:∀ q∈ks,0<=q/\q < g.2.1
 hp:p∈ks
 d0:0<=d
 d1:d<=ks.length
 ab:∀ q∈ks,ix a q=true\/ix b q=true
 c:∀ q∈ks,∃ r,Ch g a b ks vs p (q::r)/\(∀ z∈q::r,z∈ks)/\(q::r).length<=ks.length
 t:∀ i:Int,0<=i->i < d -> ¬ ix b (ix ks i)=true/\∀ q,Go g (ix ks i) q->ix a q=true\/ix b q=true->q∈ks
theorem BI.put {a b:List Bool} {p d q:Int} {ks vs:List Int} (h:BI g a b p d ks vs) (hd:d < ks.length) (hb : ¬ ix b (ix ks d)=true) (hq:q∉ks) (hr:0<=q/\q < g.2.1) (hab:ix a q=true\/ix b q=true) (hg:Go g (ix ks d) q):BI g a b p d (ks++[q]) (vs++[ix ks d]):=by
 have hin:=zeP h.d0 hd;refine ⟨List.nodup_append.2 ⟨h.nd,by simp,fun x hx y hy=>by rw [List.mem_singleton] at hy;rintro rfl;exact hq (hy ▸ hx)⟩,by simp [h.l],fun x hx => ?_,by simp [h.hp],h.d0,by simp;omega,fun x hx => ?_,fun x hx => ?_,fun i i0 i1 => ?_⟩
 ·rcases List.mem_append.1 hx with hx | hx
  ·exact h.r x hx
  ·rw [List.mem_singleton.1 hx];exact hr
 ·rcases List.mem_append.1 hx with hx | hx
  ·exact h.ab x hx
  ·rw [List.mem_singleton.1 hx];exact hab
 ·rcases List.mem_append.1 hx with hx | hx
  ·obtain ⟨r,k1,k2,k3⟩:=h.c x hx;exact ⟨r,Ch.ext h.l k2 k1,fun z hz=>List.mem_append_left _ (k2 z hz),by simp only [List.length_append,List.length_singleton];omega⟩
  ·rw [List.mem_singleton.1 hx];obtain ⟨r,k1,k2,k3⟩:=h.c _ hin;refine ⟨ix ks d::r,⟨zy3 h.l hq,hg,(h.ab _ hin).resolve_right hb,hb,Ch.ext h.l k2 k1⟩,fun z hz => ?_,by simp only [List.length_append,List.length_singleton,List.length_cons] at k3 ⊢;omega⟩
   rcases List.mem_cons.1 hz with rfl | hz
   ·simp
   ·exact List.mem_append_left _ (k2 z hz)
 ·obtain ⟨k1,k2⟩:=h.t i i0 i1;rw [zbd i0 (by omega)]
  exact ⟨k1,fun z hz hz2=>List.mem_append_left _ (k2 z hz hz2)⟩
theorem zA6 (ok:GrOk g) (hw:WOk g w) {a b E:List Bool} (ha:(a.length:Int)=g.2.1) (hb:(b.length:Int)=g.2.1) (hE:Lf g false a b E) {p:Int} (p0:0<=p) (p1:p < g.2.1) (hp:ix E p=true):
  ∀ (m:Nat) (d:Int) (ks vs:List Int),(g.2.1 - d).toNat=m->BI g a b p d ks vs->∃ R,zaI w a b ks vs (ks.drop d.toNat)=some R/\0 < R.length/\R.length<=12/\ix R 0=p/\(∀ q∈R,0<=q/\q < g.2.1)/\Way g R/\(∀ i:Int,0<=i->i+1 < R.length->ix a (ix R i)=true)/\ix b (ix R (R.length - 1))=true:=by
 have hn:=ok.n;intro m
 induction m using Nat.strongRecOn with
 | ind m ih=>
  intro d ks vs hm hI;have hks:(ks.length:Int)<=g.2.1:=by
   have:=zkc (n:=g.2.1.toNat) hI.nd (fun x hx=>by have:=hI.r x hx;omega)
   omega
  have d0:=hI.d0;have hlt:d < ks.length:=by
   refine Classical.byContradiction fun hd => ?_
   have hd:d=ks.length:=by have:=hI.d1;omega
   have:=hE.m (tb g.2.1 fun q=>decide (q∉ks) && (ix a q || ix b q)) (zdh (by omega)) (fun q q0 q1 hq=>by
     rw [zdE q0 q1,hq];have:q∉ks:=fun h=>by
      obtain ⟨i,i0,i1,e⟩:=(zoA (l:=ks) (P:=fun z=>z=q)).1 ⟨q,h,rfl⟩
      have:=(hI.t i i0 (by omega)).1
      rw [e] at this;exact this hq
     simp [this]) (fun q q0 q1 hq hs=>by
     obtain ⟨r,hr,hx⟩:=zgI.1 hs;obtain ⟨r0,r1⟩:=hr.rng ok q0 q1;rw [zdE r0 r1] at hx;obtain ⟨h1,h2⟩:=(Bool.and_eq_true _ _).mp hx;rw [zdE q0 q1,hq];have:q∉ks:=fun h=>by
      obtain ⟨i,i0,i1,e⟩:=(zoA (l:=ks) (P:=fun z=>z=q)).1 ⟨q,h,rfl⟩
      have:=(hI.t i i0 (by omega)).2 r (by rw [e];exact hr) ((Bool.or_eq_true _ _).mp h2)
      exact (of_decide_eq_true h1) this
     simp [this]) p p0 p1 hp
   rw [zdE p0 p1] at this;exact (of_decide_eq_true ((Bool.and_eq_true _ _).mp this).1) hI.hp
  have hin:=zeP d0 hlt;obtain ⟨r0,r1⟩:=hI.r _ hin;have hdl:((ks.drop d.toNat).length:Int)=ks.length - d:=by simp;omega
  have hhd:ix (ks.drop d.toNat) 0=ix ks d:=by
   rw [zCY d0 hlt];rfl
  rw [zms];unfold zbF;rw [zad ⟨by omega,by omega⟩,zad (by omega),hhd,zad ⟨r0,by omega⟩]
  by_cases hbb:ix b (ix ks d)=true
  ·rw [if_pos hbb];obtain ⟨r,k1,k2,k3⟩:=hI.c _ hin;have h8:=zD0 (r:=ix ks d::r) (acc:=[]) (fun q hq=>(hI.r q (k2 q hq)).1) (by simp only [List.length_nil];omega) k1
   rw [show zbz ks vs (ix ks d) []=_ from h8];obtain ⟨s,es⟩:=k1.last;obtain ⟨y1,y2⟩:=k1.way;have elen:((([]:List Int)++(ix ks d::r)).reverse.length:Int)=(ix ks d::r).length:=by simp
   refine ⟨_,rfl,by simp,by simp only [List.nil_append,List.length_reverse];omega,?_,fun q hq=>hI.r q (k2 q (List.mem_reverse.1 hq)),by simpa using y1,fun i i0 i1=>(y2 i i0 (by simpa using i1)).1,?_⟩
   ·rw [List.nil_append,es,List.reverse_append];rfl
   ·have:ix (([]:List Int)++(ix ks d::r)).reverse ((([]:List Int)++(ix ks d::r)).reverse.length - 1)=ix ks d:=by
     rw [List.nil_append,List.reverse_cons];have:(((r.reverse++[ix ks d]).length:Int) - 1)=r.reverse.length:=by simp
     rw [this];exact zdc
    rw [this];exact hbb
  ·rw [if_neg hbb,zad ⟨r0,by have:=hw.l;omega⟩]
   obtain ⟨w1,w2⟩:=hw.r _ r0 r1;obtain ⟨⟨ks',vs'⟩,⟨hI',hlt',hd',hall⟩,e⟩:=zue (len:=((ix w.2.1 (ix ks d)).length:Int)) (lo:=0) (S:=List Int×List Int)
    (L:=fun t s=>zat w a b (ks.drop d.toNat) (zaI w a b) t s.1 s.2 (s.1.drop d.toNat))
    (f:=fun t s=>if ix (ix w.2.1 (ix ks d)) t∉s.1/\(ix a (ix (ix w.2.1 (ix ks d)) t)=true\/ix b (ix (ix w.2.1 (ix ks d)) t)=true) then (s.1++[ix (ix w.2.1 (ix ks d)) t],s.2++[ix ks d]) else s)
    (I:=fun t s=>BI g a b p d s.1 s.2/\d < s.1.length/\ix s.1 d=ix ks d/\∀ j:Int,0<=j->j < t->ix a (ix (ix w.2.1 (ix ks d)) j)=true\/ix b (ix (ix w.2.1 (ix ks d)) j)=true->ix (ix w.2.1 (ix ks d)) j∈s.1)
    (s:=(ks,vs)) (by omega) ⟨hI,hlt,rfl,fun j j0 j1=>by omega⟩
    (fun t s t0 t1 hS=>by
     obtain ⟨K,V⟩:=s;obtain ⟨s1,s2,s3,s4⟩:=hS;have s2:d < (K.length:Int):=s2;have s1:BI g a b p d K V:=s1;have hq:=(w2 _).1 (zeP t0 t1);obtain ⟨q0,q1⟩:=hq.rng ok r0 r1;generalize hqe:ix (ix w.2.1 (ix ks d)) t=q at *
     have fT:fits (t+1):=zaE (by omega) (by omega)
     have hkl:(K.length:Int)<=g.2.1:=by
      have:=zkc (n:=g.2.1.toNat) s1.nd (fun x hx=>by have:=s1.r x hx;omega)
      omega
     have hdropl:(K.drop d.toNat).length<=12:=by simp;omega
     constructor
     ·show zat w a b (ks.drop d.toNat) (zaI w a b) t K V (K.drop d.toNat)=zat w a b (ks.drop d.toNat) (zaI w a b) (t+1) _ _ _
      conv=>lhs;rw [zf8];unfold zbc
      rw [hhd,hqe,if_pos (decide_eq_true t1),zad ⟨t0,t1⟩];by_cases hin2:q∈K
      ·rw [if_neg (by simp [zy5.2 hin2])]
       unfold zaL za8;rw [if_neg (by simp),zad fT]
       simp [hin2]
      ·have hnh:mhas K q=false:=by cases hh:mhas K q;rfl;exact absurd (zy5.1 hh) hin2
       have yes:zaL w (ks.drop d.toNat) t K V (K.drop d.toNat) (zat w a b (ks.drop d.toNat) (zaI w a b)) true=zat w a b (ks.drop d.toNat) (zaI w a b) (t+1) (K++[q]) (V++[ix ks d]) ((K++[q]).drop d.toNat):=by
        unfold zaL za8;rw [if_pos rfl,hhd,hqe,zad (zkP (by simp only [List.length_singleton];omega)),zad fT,zvn hin2,zvo hin2,List.drop_append_of_le_length (by omega)]
       rw [if_pos (by simp [hnh]),zad ⟨q0,by omega⟩]
       by_cases hqa:ix a q=true
       ·rw [if_pos hqa,yes];simp [hin2,hqa]
       ·rw [if_neg hqa,zad ⟨q0,by omega⟩]
        by_cases hqb:ix b q=true
        ·rw [hqb,yes];simp [hin2,hqb]
        ·have hqb':ix b q=false:=by simpa using hqb
         rw [hqb'];unfold zaL za8;rw [if_neg (by simp),zad fT]
         simp [hqa,hqb]
     ·split
      ·rename_i hc;have hc1:q∉K:=hc.1;refine ⟨?_,?_,?_,fun j j0 j1 hj => ?_⟩
       ·have:=s1.put (q:=q) s2 (by rw [s3];exact hbb) hc1 ⟨q0,q1⟩ hc.2 (by rw [s3];exact hq)
        rw [s3] at this;exact this
       ·show d < ((K++[q]).length:Int);simp;omega
       ·show ix (K++[q]) d=_;rw [zbd d0 s2];exact s3
       ·show _∈K++[q];by_cases ej:j=t
        ·subst ej;rw [hqe];simp
        ·exact List.mem_append_left _ (s4 j j0 (by omega) hj)
      ·rename_i hc;refine ⟨s1,s2,s3,fun j j0 j1 hj => ?_⟩
       by_cases ej:j=t
       ·subst ej;rw [hqe] at hj ⊢;exact Classical.byContradiction fun hno=>hc ⟨hno,hj⟩
       ·exact s4 j j0 (by omega) hj)
   have hI':BI g a b p d ks' vs':=hI';have hlt':d < (ks'.length:Int):=hlt';have hd':ix ks' d=ix ks d:=hd';rw [show zat w a b (ks.drop d.toNat) (zaI w a b) 0 ks vs (ks.drop d.toNat)=_ from e];show ∃ R,zat w a b (ks.drop d.toNat) (zaI w a b) _ ks' vs' (ks'.drop d.toNat)=some R/\_;rw [zf8];unfold zbc;rw [hhd,if_neg (by simp),zad ⟨by omega,by simp;omega⟩]
   have hdd:(ks'.drop d.toNat).drop (1:Int).toNat=ks'.drop (d+1).toNat:=by
    rw [List.drop_drop];congr 1;omega
   rw [hdd];refine ih _ (by omega) (d+1) ks' vs' rfl ⟨hI'.nd,hI'.l,hI'.r,hI'.hp,by omega,by omega,hI'.ab,hI'.c,fun i i0 i1 => ?_⟩
   by_cases ei:i=d
   ·subst ei;rw [hd'];refine ⟨hbb,fun q hq hq2 => ?_⟩
    obtain ⟨j,j0,j1,ej⟩:=(zoA (l:=ix w.2.1 (ix ks i)) (P:=fun z=>z=q)).1 ⟨q,(w2 q).2 hq,rfl⟩
    have:=hall j j0 j1 (by rw [ej];exact hq2)
    rw [ej] at this;exact this
   ·exact hI'.t i i0 (by omega)
theorem zA5 (ok:GrOk g) (hw:WOk g w) {a b E:List Bool} (ha:(a.length:Int)=g.2.1) (hb:(b.length:Int)=g.2.1) (hE:Lf g false a b E) {p:Int} (p0:0<=p) (p1:p < g.2.1) (hp:ix E p=true):
  ∃ R,zdO w p a b=some R/\0 < R.length/\R.length<=12/\ix R 0=p/\(∀ q∈R,0<=q/\q < g.2.1)/\Way g R/\(∀ i:Int,0<=i->i+1 < R.length->ix a (ix R i)=true)/\ix b (ix R (R.length - 1))=true:=by
 have hn:=ok.n;unfold zdO;rw [zvn (ks:=([]:List Int)) (by simp),zvo (ks:=([]:List Int)) (by simp)]
 have hab:ix a p=true\/ix b p=true:=by
  have:=hE.m (tb g.2.1 fun q=>ix a q || ix b q) (zdh (by omega)) (fun q q0 q1 hq=>by rw [zdE q0 q1,hq];simp) (fun q q0 q1 hq _=>by rw [zdE q0 q1,hq];rfl) p p0 p1 hp
  rw [zdE p0 p1] at this;exact (Bool.or_eq_true _ _).mp this
 refine zA6 ok hw ha hb hE p0 p1 hp _ 0 [p] [-1] rfl ⟨by simp,rfl,fun q hq=>by rw [List.mem_singleton.1 hq];exact ⟨p0,p1⟩,by simp,by omega,by simp,fun q hq=>by rw [List.mem_singleton.1 hq];exact hab,fun q hq => ?_,fun i i0 i1=>by omega⟩
 rw [List.mem_singleton.1 hq];exact ⟨[],⟨rfl,zy3 (ks:=([]:List Int)) (vs:=([]:List Int)) rfl (by simp)⟩,by simp,by simp⟩
end
theorem zqN {s:List Int} (hs:s.length<=1000):zei s=some s:=by
 have hr:G (room ([]:List Int) s 8) (some (([]:List Int)++s))=some s:=by
  rw [zad (zkP (by simp;omega))];rfl
 unfold zei;refine zAO (fun h => ?_) (fun h=>hr)
 obtain rfl:s=[]:=List.length_eq_zero_iff.1 h;rw [hr];exact zqI (ts:=[(.list (.int .i64))]) (some ([]:List Int))
theorem zeW {g:Gr} {w:Wlk} (ok:GrOk g) (hw:WOk g w) {X:List Bool} (hX:(X.length:Int)=g.2.1) (hcl:∀ v,0<=v->v < g.2.1->ix X v=true->∃ q,Go g v q/\ix X q=true)
  {row:List Int} (h0:0 < row.length) (h1:row.length<=100) (hr:∀ q∈row,0<=q/\q < g.2.1):
  ∀ (m:Nat) (ext:List Int),(g.2.1 - ext.length).toNat=m->ext.Nodup->(∀ z∈ext,z∉row/\(0<=z/\z < g.2.1)/\ix X z=true)->Way g (row++ext)->ix X (ix (row++ext) ((row++ext).length - 1))=true->
  ∃ (S:List Int) (k:Nat),zdy w X (row++ext)=some ((S.take k,S.drop k,()),X)/\k < S.length/\Way g S/\Go g (ix S (S.length - 1)) (ix S k)/\(∃ e2,S=row++e2/\∀ z∈e2,(0<=z/\z < g.2.1)/\ix X z=true)/\S.length<=200:=by
 have hn:=ok.n;intro m
 induction m using Nat.strongRecOn with
 | ind m ih=>
  intro ext hm hnd hext hway hlast;have hel:(ext.length:Int)<=g.2.1:=by
   have:=zkc (n:=g.2.1.toNat) hnd (fun z hz=>by have:=(hext z hz).2.1;omega)
   omega
  have hcl2:(row++ext).length<=112:=by simp;omega
  have hc0:0 < (row++ext).length:=by simp;omega
  have hcr:∀ z∈row++ext,0<=z/\z < g.2.1:=fun z hz=>by
   rcases List.mem_append.1 hz with hz | hz
   ·exact hr z hz
   ·exact (hext z hz).2.1
  generalize hcur:row++ext=cur at *
  have hv:=zeP (l:=cur) (i:=cur.length - 1) (by omega) (by omega)
  obtain ⟨v0,v1⟩:=hcr _ hv;generalize hve:ix cur (cur.length - 1)=v at *
  obtain ⟨w1,w2⟩:=hw.r v v0 v1;obtain ⟨i,ei,hi⟩:=zkb (s:=ix w.2.1 v) (f:=fun q=>zbi q X) (L:=fun t=>zbC (ix w.2.1 v) X t) (P:=fun q=>ix X q=true) (by omega) (fun t=>zhv _ _ _) (fun q hq=>by
   obtain ⟨a,b⟩:=((w2 q).1 hq).rng ok v0 v1;show zdi (zbi q X) _;unfold zbi;rw [zad ⟨a,by omega⟩]
   exact ⟨_,rfl,Iff.rfl⟩) _ 0 (by omega) (by omega) rfl
  have hif:0<=i/\i < (ix w.2.1 v).length/\ix X (ix (ix w.2.1 v) i)=true:=by
   rcases hi with ⟨_,hno⟩ | ⟨a,b,c,_⟩
   ·exfalso;obtain ⟨q,hq,hx⟩:=hcl v v0 v1 hlast;obtain ⟨j,j0,j1,ej⟩:=(zoA (l:=ix w.2.1 v) (P:=fun z=>z=q)).1 ⟨q,(w2 q).2 hq,rfl⟩
    exact hno j j0 j1 (by rw [ej];exact hx)
   ·exact ⟨a,b,c⟩
  obtain ⟨i0,i1,hqx⟩:=hif;have hgo:=(w2 _).1 (zeP i0 i1);generalize hqe:ix (ix w.2.1 v) i=q at *
  obtain ⟨q0,q1⟩:=hgo.rng ok v0 v1;obtain ⟨j,ej,hj⟩:=zkb (s:=cur) (f:=fun x=>some (decide (q=x))) (L:=fun t=>zcF cur q t) (P:=fun x=>q=x) (by omega) (fun t=>zfP _ _ _) (fun x _=>zdi.dec Iff.rfl) _ 0 (by omega) (by omega) rfl
  rw [zl0];unfold zbv zd8 zeS;rw [zad (zaE (by omega) (by omega)),zad ⟨by omega,by omega⟩,zad (by omega),hve,zad ⟨v0,by have:=hw.l;omega⟩]
  rw [show zbC (ix w.2.1 v) X 0=some i from ei];show ∃ S k,G _ _=_/\_;rw [zad ⟨v0,by have:=hw.l;omega⟩,hqe,zad ⟨i0,by omega⟩]
  rw [show zcF cur q 0=some j from ej];show ∃ S k,(if decide ((0:Int)<=j)=true then _ else _)=_/\_
  rcases hj with ⟨rfl,hno⟩ | ⟨j0,j1,hjq,_⟩
  ·rw [if_neg (by decide),zad (zkP (by simp only [List.length_singleton];omega))]
   have hqn:q∉cur:=fun h=>by
    obtain ⟨t,t0,t1,et⟩:=(zoA (l:=cur) (P:=fun z=>q=z)).1 ⟨q,h,rfl⟩
    exact hno t t0 t1 et
   have e2:row++(ext++[q])=cur++[q]:=by rw [<- hcur];simp
   have hlq:ix (cur++[q]) (((cur++[q]).length:Int) - 1)=q:=by
    have:(((cur++[q]).length:Int) - 1)=cur.length:=by simp
    rw [this];exact zdc
   have hnd2:(ext++[q]).Nodup:=List.nodup_append.2 ⟨hnd,by simp,fun x hx y hy=>by rw [List.mem_singleton] at hy;rintro rfl;exact hqn (by rw [<- hcur,<- hy];exact List.mem_append_right _ hx)⟩
   have hex2:∀ z∈ext++[q],z∉row/\(0<=z/\z < g.2.1)/\ix X z=true:=fun z hz=>by
    rcases List.mem_append.1 hz with hz | hz
    ·exact hext z hz
    ·rw [List.mem_singleton.1 hz];exact ⟨fun h=>hqn (by rw [<- hcur];exact List.mem_append_left _ h),⟨q0,q1⟩,hqx⟩
   have hlt:=zkc (n:=g.2.1.toNat) hnd2 (fun z hz=>by have:=(hex2 z hz).2.1;omega)
   have hle:(ext++[q]).length=ext.length+1:=by simp
   have:=ih (g.2.1 - (ext++[q]).length).toNat (by omega) (ext++[q]) rfl hnd2 hex2
    (by rw [e2];exact hway.snoc hc0 (by rw [hve];exact hgo)) (by rw [e2,hlq];exact hqx)
   rw [e2] at this;exact this
  ·rw [if_pos (decide_eq_true j0),zad ⟨j0,by omega⟩,zad ⟨j0,by omega⟩,zqN (by simp;omega),zqN (by simp;omega)]
   refine ⟨cur,j.toNat,?_,by omega,hway,?_,⟨ext,hcur.symm,fun z hz=>(hext z hz).2⟩,by omega⟩
   ·show some _=some _;rw [List.drop_zero,List.take_of_length_le (l:=cur.drop j.toNat) (by simp)]
   ·rw [hve,show ((j.toNat:Nat):Int)=j by omega,<- hjq];exact hgo
theorem zet {g:Gr} {w:Wlk} (ok:GrOk g) (hw:WOk g w) {X:List Bool} (hX:(X.length:Int)=g.2.1) (hcl:∀ v,0<=v->v < g.2.1->ix X v=true->∃ q,Go g v q/\ix X q=true)
  {row:List Int} (h0:0 < row.length) (h1:row.length<=100) (hr:∀ q∈row,0<=q/\q < g.2.1):
  ∀ (m:Nat) (ext:List Int),(g.2.1 - ext.length).toNat=m->ext.Nodup->(∀ z∈ext,z∉row/\(0<=z/\z < g.2.1)/\ix X z=true)->Way g (row++ext)->ix X (ix (row++ext) ((row++ext).length - 1))=true->
  ∃ (S:List Int) (k:Nat),zcU w X (row++ext)=some (S.take k,S.drop k,())/\k < S.length/\Way g S/\Go g (ix S (S.length - 1)) (ix S k)/\(∃ e2,S=row++e2/\∀ z∈e2,(0<=z/\z < g.2.1)/\ix X z=true)/\S.length<=200:=by
 have hn:=ok.n;intro m
 induction m using Nat.strongRecOn with
 | ind m ih=>
  intro ext hm hnd hext hway hlast;have hel:(ext.length:Int)<=g.2.1:=by
   have:=zkc (n:=g.2.1.toNat) hnd (fun z hz=>by have:=(hext z hz).2.1;omega)
   omega
  have hcl2:(row++ext).length<=112:=by simp;omega
  have hc0:0 < (row++ext).length:=by simp;omega
  have hcr:∀ z∈row++ext,0<=z/\z < g.2.1:=fun z hz=>by
   rcases List.mem_append.1 hz with hz | hz
   ·exact hr z hz
   ·exact (hext z hz).2.1
  generalize hcur:row++ext=cur at *
  have hv:=zeP (l:=cur) (i:=cur.length - 1) (by omega) (by omega)
  obtain ⟨v0,v1⟩:=hcr _ hv;generalize hve:ix cur (cur.length - 1)=v at *
  obtain ⟨w1,w2⟩:=hw.r v v0 v1;obtain ⟨i,ei,hi⟩:=zkb (s:=ix w.2.1 v) (f:=fun q=>zbi q X) (L:=fun t=>zbC (ix w.2.1 v) X t) (P:=fun q=>ix X q=true) (by omega) (fun t=>zhv _ _ _) (fun q hq=>by
   obtain ⟨a,b⟩:=((w2 q).1 hq).rng ok v0 v1;show zdi (zbi q X) _;unfold zbi;rw [zad ⟨a,by omega⟩]
   exact ⟨_,rfl,Iff.rfl⟩) _ 0 (by omega) (by omega) rfl
  have hif:0<=i/\i < (ix w.2.1 v).length/\ix X (ix (ix w.2.1 v) i)=true:=by
   rcases hi with ⟨_,hno⟩ | ⟨a,b,c,_⟩
   ·exfalso;obtain ⟨q,hq,hx⟩:=hcl v v0 v1 hlast;obtain ⟨j,j0,j1,ej⟩:=(zoA (l:=ix w.2.1 v) (P:=fun z=>z=q)).1 ⟨q,(w2 q).2 hq,rfl⟩
    exact hno j j0 j1 (by rw [ej];exact hx)
   ·exact ⟨a,b,c⟩
  obtain ⟨i0,i1,hqx⟩:=hif;have hgo:=(w2 _).1 (zeP i0 i1);generalize hqe:ix (ix w.2.1 v) i=q at *
  obtain ⟨q0,q1⟩:=hgo.rng ok v0 v1;obtain ⟨j,ej,hj⟩:=zkb (s:=cur) (f:=fun x=>some (decide (q=x))) (L:=fun t=>zcF cur q t) (P:=fun x=>q=x) (by omega) (fun t=>zfP _ _ _) (fun x _=>zdi.dec Iff.rfl) _ 0 (by omega) (by omega) rfl
  rw [zkj];unfold zbk zd8 zeS;rw [zad (zaE (by omega) (by omega)),zad ⟨by omega,by omega⟩,zad (by omega),hve,zad ⟨v0,by have:=hw.l;omega⟩]
  rw [show zbC (ix w.2.1 v) X 0=some i from ei];show ∃ S k,G _ _=_/\_;rw [zad ⟨v0,by have:=hw.l;omega⟩,hqe,zad ⟨i0,by omega⟩]
  rw [show zcF cur q 0=some j from ej];show ∃ S k,(if decide ((0:Int)<=j)=true then _ else _)=_/\_
  rcases hj with ⟨rfl,hno⟩ | ⟨j0,j1,hjq,_⟩
  ·rw [if_neg (by decide),zad (zkP (by simp only [List.length_singleton];omega))]
   have hqn:q∉cur:=fun h=>by
    obtain ⟨t,t0,t1,et⟩:=(zoA (l:=cur) (P:=fun z=>q=z)).1 ⟨q,h,rfl⟩
    exact hno t t0 t1 et
   have e2:row++(ext++[q])=cur++[q]:=by rw [<- hcur];simp
   have hlq:ix (cur++[q]) (((cur++[q]).length:Int) - 1)=q:=by
    have:(((cur++[q]).length:Int) - 1)=cur.length:=by simp
    rw [this];exact zdc
   have hnd2:(ext++[q]).Nodup:=List.nodup_append.2 ⟨hnd,by simp,fun x hx y hy=>by rw [List.mem_singleton] at hy;rintro rfl;exact hqn (by rw [<- hcur,<- hy];exact List.mem_append_right _ hx)⟩
   have hex2:∀ z∈ext++[q],z∉row/\(0<=z/\z < g.2.1)/\ix X z=true:=fun z hz=>by
    rcases List.mem_append.1 hz with hz | hz
    ·exact hext z hz
    ·rw [List.mem_singleton.1 hz];exact ⟨fun h=>hqn (by rw [<- hcur];exact List.mem_append_left _ h),⟨q0,q1⟩,hqx⟩
   have hlt:=zkc (n:=g.2.1.toNat) hnd2 (fun z hz=>by have:=(hex2 z hz).2.1;omega)
   have hle:(ext++[q]).length=ext.length+1:=by simp
   have:=ih (g.2.1 - (ext++[q]).length).toNat (by omega) (ext++[q]) rfl hnd2 hex2
    (by rw [e2];exact hway.snoc hc0 (by rw [hve];exact hgo)) (by rw [e2,hlq];exact hqx)
   rw [e2] at this;exact this
  ·rw [if_pos (decide_eq_true j0),zad ⟨j0,by omega⟩,zad ⟨j0,by omega⟩,zqN (by simp;omega),zqN (by simp;omega)]
   refine ⟨cur,j.toNat,?_,by omega,hway,?_,⟨ext,hcur.symm,fun z hz=>(hext z hz).2⟩,by omega⟩
   ·show some _=some _;rw [List.drop_zero,List.take_of_length_le (l:=cur.drop j.toNat) (by simp)]
   ·rw [hve,show ((j.toNat:Nat):Int)=j by omega,<- hjq];exact hgo
section
variable {g:Gr} {l:L5} {k s v A B p:Int} {al:Bool} {u:Unit} {w':List Int×List Int×Unit} {R:List Int} {kk:Nat}
structure Las (g:Gr) (p:Int) (w':List Int×List Int×Unit) (R:List Int) (kk:Nat):Prop where
 e:(([]:List Int)++w'.1)++w'.2.1=R
 k:(w'.1.length:Int)=kk
 k1:kk < R.length
 l:R.length<=200
 s:ix R 0=p
 r:∀ q∈R,0<=q/\q < g.2.1
 w:Way g R
 b:Go g (ix R (R.length - 1)) (ix R kk)
theorem Las.mk' {S:List Int} (h1:kk < S.length) (h2:S.length<=200) (h3:ix S 0=p) (h4:∀ q∈S,0<=q/\q < g.2.1) (h5:Way g S) (h6:Go g (ix S (S.length - 1)) (ix S kk)):Las g p (S.take kk,(S.drop kk,())) S kk:=
 ⟨by show ([]++S.take kk)++S.drop kk=S;simp,by show ((S.take kk).length:Int)=kk;simp;omega,h1,h2,h3,h4,h5,h6⟩
theorem ztL (ok:GrOk g) (h:Las g p w' R kk):zfm g l k w' p=zdZ g l k w' R.length:=by
 have hR:0 < R.length:=by have:=h.k1;omega
 have hl:=h.l;have he:=h.e;have hlen:w'.1.length+w'.2.1.length=R.length:=by rw [<- he];simp
 have hk:=h.k;have hk1:=h.k1;unfold zfm;rw [zad (zkP (by simp;omega)),zad (zkP (by simp only [List.nil_append];omega)),if_neg (by simp only [decide_eq_true_eq];omega),he,zad ⟨by omega,by omega⟩,zad (by omega),if_neg (by simp [h.s])]
 have h6:zhq g l k w' 0=zdZ g l k w' 0:=by
  refine zfr (len:=(R.length:Int)) (L:=fun i=>zhq g l k w' i) (bad:=fun _=>False) (lo:=0) (by omega) (fun i i0 i1=>⟨fun h=>h.elim,fun _ => ?_⟩) (fun _ => ?_)
  ·have hr:=h.r _ (zeP i0 i1)
   conv=>lhs;rw [zo0];unfold zee
   rw [he,if_pos (decide_eq_true i1),zad ⟨i0,i1⟩,zad (by omega),if_neg (by simp only [decide_eq_true_eq];omega),zad ⟨i0,i1⟩,zad (by omega),if_neg (by simp only [decide_eq_true_eq];omega),zad (zaE (by omega) (by omega))]
  ·show zhq g l k w' R.length=_;rw [zo0];unfold zee;rw [he,if_neg (by simp)]
 rw [h6];refine zfr (len:=(R.length:Int)) (L:=fun i=>zdZ g l k w' i) (bad:=fun _=>False) (lo:=0) (by omega) (fun i i0 i1=>⟨fun h=>h.elim,fun _ => ?_⟩) (fun _=>rfl)
 have fi:fits (i+1):=zaE (by omega) (by omega)
 have j15:∀ to,Go g (ix R i) to->zeH g w' i (zdZ g l k w') to=zdZ g l k w' (i+1):=by
  intro to hto;unfold zeH;rw [he,zad ⟨i0,i1⟩,zad (by omega)]
  obtain ⟨b,e,hb⟩:=zuD ok (ix R i) to;have:znv (g.1,g.2.1,g.2.2.1,()) (ix R i) to=some true:=by
   show znv g (ix R i) to=some true;rw [e,hb.2 hto]
  rw [this];simp only [Option.bind_some,Bool.not_true,Bool.false_eq_true,if_false];exact zad fi
 conv=>lhs;rw [zeR];unfold zbX
 rw [he,if_pos (decide_eq_true i1),zad ⟨by omega,by omega⟩,zad (by omega),zad fi]
 by_cases hi:i+1 < R.length
 ·rw [if_pos (decide_eq_true hi),zad fi,zad ⟨by omega,hi⟩,zad (by omega)]
  exact j15 _ (h.w i i0 hi)
 ·rw [if_neg (by simpa using hi)]
  refine j15 _ ?_
  have:i=R.length - 1:=by omega
  rw [this,hk];exact h.b
theorem zDs (ok:GrOk g) (h:Las g p w' R kk) (hx:ix l k=(88,al,v,A,B,u)) (k0:0<=k) (k1:k < l.length) {a:List Bool} (hA:zaJ g l A=some a) (ha:(a.length:Int)=g.2.1)
  (hs:ix a (if 1 < R.length then ix R 1 else ix R kk)=true):zfm g l k w' p=some true:=by
 have hR:0 < R.length:=by have:=h.k1;omega
 have hk:=h.k;have hk1:=h.k1;have hA':zaJ (g.1,g.2.1,g.2.2.1,()) l (ix l k).2.2.2.1=some a:=by rw [hx];exact hA
 rw [ztL ok h,zeR];unfold zbX zny;rw [h.e,if_neg (by simp),zad ⟨k0,k1⟩,hA']
 show (if decide ((ix l k).1=88)=true then _ else _)=_
 rw [if_pos (by rw [hx];rfl),zad ⟨by omega,by omega⟩,zad (by omega)]
 by_cases h1:1 < R.length
 ·rw [if_pos h1] at hs;have:=h.r _ (zeP (l:=R) (i:=1) (by omega) (by omega))
  rw [if_pos (decide_eq_true (by omega)),zad ⟨by omega,by omega⟩,zad (by omega),zad ⟨by omega,by omega⟩,zad (by omega),hs]
 ·rw [if_neg h1] at hs;have:=h.r _ (zeP (l:=R) (i:=kk) (by omega) (by omega))
  rw [if_neg (by simp only [decide_eq_true_eq];omega),hk,zad ⟨by omega,by omega⟩,zad (by omega),hs]
theorem zDq (ok:GrOk g) (h:Las g p w' R kk) (hx:ix l k=(71,al,v,A,B,u)) (k0:0<=k) (k1:k < l.length) {a:List Bool} (hA:zaJ g l A=some a) (ha:(a.length:Int)=g.2.1)
  (hs:∀ q∈R,ix a q=true):zfm g l k w' p=some true:=by
 have hR:0 < R.length:=by have:=h.k1;omega
 have hl:=h.l;have hA':zaJ (g.1,g.2.1,g.2.2.1,()) l (ix l k).2.2.2.1=some a:=by rw [hx];exact hA
 rw [ztL ok h,zeR];unfold zbX;rw [h.e,if_neg (by simp),zad ⟨k0,k1⟩,hA']
 show (if decide ((ix l k).1=88)=true then _ else _)=_
 rw [if_neg (by rw [hx];exact Bool.false_ne_true),if_pos (by rw [hx];rfl)]
 refine zfr (len:=(R.length:Int)) (L:=fun i=>zh6 w' a i) (bad:=fun _=>False) (lo:=0) (by omega) (fun i i0 i1=>⟨fun h=>h.elim,fun _ => ?_⟩) (fun _ => ?_)
 ·have hm:=zeP i0 i1;have hr:=h.r _ hm
  conv=>lhs;rw [znL];unfold zdn
  rw [h.e,if_pos (decide_eq_true i1),zad ⟨i0,i1⟩,zad (by omega),zad ⟨by omega,by omega⟩,zad (by omega),if_neg (by simp [hs _ hm]),zad (zaE (by omega) (by omega))]
 ·show zh6 w' a R.length=_;rw [znL];unfold zdn;rw [h.e,if_neg (by simp)]
theorem zDp (ok:GrOk g) (h:Las g p w' R kk) (hx:ix l k=(70,al,v,A,B,u)) (k0:0<=k) (k1:k < l.length) {a:List Bool} (hA:zaJ g l A=some a) (ha:(a.length:Int)=g.2.1)
  (hs:∃ i:Int,0<=i/\i < R.length/\ix a (ix R i)=true):zfm g l k w' p=some true:=by
 have hR:0 < R.length:=by have:=h.k1;omega
 have hl:=h.l;have hA':zaJ (g.1,g.2.1,g.2.2.1,()) l (ix l k).2.2.2.1=some a:=by rw [hx];exact hA
 rw [ztL ok h,zeR];unfold zbX;rw [h.e,if_neg (by simp),zad ⟨k0,k1⟩,hA']
 show (if decide ((ix l k).1=88)=true then _ else _)=_
 rw [if_neg (by rw [hx];exact Bool.false_ne_true),if_neg (by rw [hx];exact Bool.false_ne_true),if_pos (by rw [hx];rfl)]
 refine zfr (len:=(R.length:Int)) (L:=fun i=>zh7 w' a i) (bad:=fun i=>ix a (ix R i)=true) (lo:=0) (by omega) (fun i i0 i1 => ?_) (fun hno => ?_)
 ·have hm:=zeP i0 i1;have hr:=h.r _ hm;constructor
  ·intro hb;show zh7 w' a i=_;rw [znM];unfold zdo;rw [h.e,if_pos (decide_eq_true i1),zad ⟨i0,i1⟩,zad (by omega),zad ⟨by omega,by omega⟩,zad (by omega),if_pos hb]
  ·intro hb
   conv=>lhs;rw [znM];unfold zdo
   rw [h.e,if_pos (decide_eq_true i1),zad ⟨i0,i1⟩,zad (by omega),zad ⟨by omega,by omega⟩,zad (by omega),if_neg hb,zad (zaE (by omega) (by omega))]
 ·obtain ⟨i,i0,i1,hi⟩:=hs;exact absurd hi (hno i i0 i1)
theorem zDr (ok:GrOk g) (h:Las g p w' R kk) (hx:ix l k=(85,al,v,A,B,u)) (k0:0<=k) (k1:k < l.length) {a b:List Bool} (hA:zaJ g l A=some a) (ha:(a.length:Int)=g.2.1) (hB:zaJ g l B=some b) (hb:(b.length:Int)=g.2.1)
  (hs:∃ i:Int,0<=i/\i < R.length/\ix b (ix R i)=true/\∀ j:Int,0<=j->j < i->ix a (ix R j)=true):zfm g l k w' p=some true:=by
 have hR:0 < R.length:=by have:=h.k1;omega
 have hl:=h.l;obtain ⟨n,n0,n1,hn,hpre⟩:=hs;have hA':zaJ (g.1,g.2.1,g.2.2.1,()) l (ix l k).2.2.2.1=some a:=by rw [hx];exact hA
 have hB':zaJ (g.1,g.2.1,g.2.2.1,()) l (ix l k).2.2.2.2.1=some b:=by rw [hx];exact hB
 rw [ztL ok h,zeR];unfold zbX;rw [h.e,if_neg (by simp),zad ⟨k0,k1⟩,hA']
 show (if decide ((ix l k).1=88)=true then _ else _)=_
 rw [if_neg (by rw [hx];exact Bool.false_ne_true),if_neg (by rw [hx];exact Bool.false_ne_true),if_neg (by rw [hx];exact Bool.false_ne_true),hB']
 show zd0 w' a b 0=_;have step:∀ i:Int,0<=i->i<=n->(ix b (ix R i)=true->zd0 w' a b i=some true)/\(¬ ix b (ix R i)=true->zd0 w' a b i=zd0 w' a b (i+1)):=by
  intro i i0 i1;have hm:=zeP (l:=R) i0 (by omega)
  have hr:=h.r _ hm;constructor
  ·intro hb';rw [znN];unfold zdp;rw [h.e,if_pos (decide_eq_true (by omega)),zad ⟨i0,by omega⟩,zad (by omega),zad ⟨by omega,by omega⟩,zad (by omega),if_pos hb']
  ·intro hb';have hlt:i < n:=by
    refine Classical.byContradiction fun hc=>hb' ?_
    have:i=n:=by omega
    rw [this];exact hn
   conv=>lhs;rw [znN];unfold zdp
   rw [h.e,if_pos (decide_eq_true (by omega)),zad ⟨i0,by omega⟩,zad (by omega),zad ⟨by omega,by omega⟩,zad (by omega),if_neg hb',zad ⟨i0,by omega⟩,zad (by omega),zad ⟨by omega,by omega⟩,zad (by omega),if_neg (by simp [hpre i i0 hlt]),zad (zaE (by omega) (by omega))]
 refine zfr (len:=n+1) (L:=fun i=>zd0 w' a b i) (bad:=fun i=>ix b (ix R i)=true) (lo:=0) (by omega) (fun i i0 i1=>step i i0 (by omega)) (fun hno=>absurd hn (hno n n0 (by omega)))
end
section
variable {g:Gr} {w:Wlk}
theorem zCQ {a E:List Bool} (ok:GrOk g) (hE:Gf g true a E) {p:Int} (p0:0<=p) (p1:p < g.2.1) (hp:ix E p=true) {G':List Bool} (hG:Gf g false a G'):ix G' p=true:=by
 refine hG.m E hE.l (fun q q0 q1 hq => ?_) p p0 p1 hp
 obtain ⟨h1,h2⟩:=hE.s q q0 q1 hq;obtain ⟨r,hr⟩:=Go.ex (g:=g) q;exact ⟨h1,zgI.2 ⟨r,hr,zhx.1 h2 r hr⟩⟩
theorem zBn {a b E:List Bool} (ok:GrOk g) (hE:Lf g true a b E) {p:Int} (p0:0<=p) (p1:p < g.2.1) (hp:ix E p=true) {R:List Bool} (hR:Lf g false a b R):ix R p=true:=by
 refine hE.m R hR.l hR.t (fun q q0 q1 hq hs => ?_) p p0 p1 hp
 obtain ⟨r,hr⟩:=Go.ex (g:=g) q;exact hR.s q q0 q1 hq (zgI.2 ⟨r,hr,zhx.1 hs r hr⟩)
theorem zEl (ok:GrOk g):∀ v,0<=v->v < g.2.1->ix (tb g.2.1 fun _=>true) v=true->∃ q,Go g v q/\ix (tb g.2.1 fun _=>true) q=true:=by
 intro v v0 v1 _;obtain ⟨q,hq⟩:=Go.ex (g:=g) v;obtain ⟨a,b⟩:=hq.rng ok v0 v1;exact ⟨q,hq,zdE a b⟩
theorem zuF (ok:GrOk g) (hw:WOk g w) {row:List Int} (h0:0 < row.length) (h1:row.length<=100) (hr:∀ q∈row,0<=q/\q < g.2.1) (hway:Way g row) {p:Int} (hp:ix row 0=p):
  ∃ (S:List Int) (k:Nat),zcA w row (tb g.2.1 fun _=>true)=some ((S.take k,S.drop k,()),tb g.2.1 fun _=>true)/\Las g p (S.take k,(S.drop k,())) S k/\(∃ e2,S=row++e2):=by
 have hn:=ok.n;have hl:=zeP (l:=row) (i:=row.length - 1) (by omega) (by omega)
 obtain ⟨l0,l1⟩:=hr _ hl;obtain ⟨S,k,e,h2,h3,h4,⟨e2,h5,h6⟩,h7⟩:=zeW ok hw (X:=tb g.2.1 fun _=>true) (zdh (by omega)) (zEl ok) h0 h1 hr _ [] rfl (by simp) (by simp) (by simpa using hway) (by rw [List.append_nil,zdE l0 l1])
 rw [List.append_nil] at e;unfold zcA;refine ⟨S,k,e,Las.mk' h2 h7 ?_ ?_ h3 h4,e2,h5⟩
 ·rw [h5,zbd (by omega) (by omega)];exact hp
 ·intro q hq;rw [h5] at hq;rcases List.mem_append.1 hq with hq | hq
  ·exact hr q hq
  ·exact (h6 q hq).1
theorem zB1 (ok:GrOk g) (hw:WOk g w) {a E:List Bool} (hE:Gf g false a E) {p:Int} (p0:0<=p) (p1:p < g.2.1) (hp:ix E p=true):
  ∃ (S:List Int) (k:Nat),zdP w E [p]=some (S.take k,S.drop k,())/\Las g p (S.take k,(S.drop k,())) S k/\∀ q∈S,ix a q=true:=by
 have hn:=ok.n;have hr:∀ q∈[p],0<=q/\q < g.2.1:=fun q hq=>by rw [List.mem_singleton.1 hq];exact ⟨p0,p1⟩
 obtain ⟨S,k,e,h2,h3,h4,⟨e2,h5,h6⟩,h7⟩:=zet ok hw (X:=E) hE.l (fun v v0 v1 hv=>zgI.1 (hE.s v v0 v1 hv).2) (row:=[p]) (by simp) (by simp) hr _ [] rfl (by simp) (by simp) (fun i i0 i1=>by simp at i1;omega) hp
 rw [List.append_nil] at e;unfold zdP;have hS:∀ q∈S,(0<=q/\q < g.2.1)/\ix E q=true:=fun q hq=>by
  rw [h5] at hq;rcases List.mem_append.1 hq with hq | hq
  ·rw [List.mem_singleton.1 hq];exact ⟨⟨p0,p1⟩,hp⟩
  ·exact h6 q hq
 exact ⟨S,k,e,Las.mk' h2 h7 (by rw [h5];rfl) (fun q hq=>(hS q hq).1) h3 h4,fun q hq=>(hE.s q (hS q hq).1.1 (hS q hq).1.2 (hS q hq).2).1⟩
theorem zBP:zaA [] 0 0 0=some (.inr (4,0)):=by
 rw [zje];unfold zbI;rw [zzD (by omega)]
 have e:nowT [] 0=0:=rfl;rw [e];simp only [Option.bind_some,Int.reduceEq,decide_false,Bool.false_eq_true,if_false];unfold zbg;simp only [Bool.false_eq_true,if_false];have h97 : ¬ (97:Int)<=0:=by omega
 simp only [h97,decide_false,Bool.false_eq_true,if_false];unfold zbh;simp only [Int.reduceEq,decide_false,Bool.false_eq_true,if_false];unfold za7;simp only [Int.reduceEq,decide_false,Bool.false_eq_true,if_false,not_false_eq_true,decide_true,if_true,p_fail,pbind_inr]
theorem zA4:∃ a pl,zbL []=some (a,(4,(pl,()))):=by
 unfold zbL ze8 zaS zbp;rw [zBP];exact ⟨_,_,rfl⟩
end
section
variable {g:Gr} {w:Wlk} {c:List UInt8} {p v:Int} {al:Bool} {E a:List Bool} {k1:Tr ND} {K:List (Tr ND)}
theorem znq {s:Int} (h:s=88\/s=70\/s=71\/s=85):zfs [(88:Int),(70:Int),(71:Int),(85:Int)] s=some true:=by
 obtain ⟨b,e,hb⟩:=zjA (s:=[(88:Int),(70:Int),(71:Int),(85:Int)]) (v:=s) (by simp)
 rw [e,hb.2 (by simp;omega)]
theorem zEf {s:Int} (h:s≠88/\s≠70/\s≠71/\s≠85):zfs [(88:Int),(70:Int),(71:Int),(85:Int)] s=some false:=by
 obtain ⟨b,e,hb⟩:=zjA (s:=[(88:Int),(70:Int),(71:Int),(85:Int)]) (v:=s) (by simp)
 cases b with
 | false=>exact e
 | true=>have:=hb.1 rfl;simp at this;omega
theorem zDa (ok:GrOk g) (hw:WOk g w) (hck:zdF (g.1,(g.2.1,(g.2.2.1,())))=some 0) (ew:zca (g.1,(g.2.1,(g.2.2.1,())))=some w) (hc:(0:Int) < c.length) (h69:bAt c 0=69) (p0:0<=p) (p1:p < g.2.1) (hE:(E.length:Int)=g.2.1) (hp:ix E p=true) (ha:(a.length:Int)=g.2.1)
  (e1:zbL c=some (Tr.mk (88,(al,(v,()))) (k1::K),(0,(0,())))) (eE:zai w (Tr.mk (88,(al,(v,()))) (k1::K))=some E) (ea:zai w k1=some a) (hs:∃ q,Go g p q/\ix a q=true):
  ∃ y R kk,zaM g c p=some (y,true,0)/\Las g p (y.1,(y.2.1,())) R kk/\ix a (if 1 < R.length then ix R 1 else ix R kk)=true:=by
 have hn:=ok.n;obtain ⟨w1,w2⟩:=hw.r p p0 p1;obtain ⟨i,ei,hi⟩:=zkb (s:=ix w.2.1 p) (f:=fun q=>zhy q a) (L:=fun t=>zd7 (ix w.2.1 p) a t) (P:=fun q=>ix a q=true) (by omega) (fun t=>zm5 _ _ _) (fun q hq=>by
  obtain ⟨x,y⟩:=((w2 q).1 hq).rng ok p0 p1;show zdi (zhy q a) _;unfold zhy;rw [zad ⟨x,by omega⟩]
  exact ⟨_,rfl,Iff.rfl⟩) _ 0 (by omega) (by omega) rfl
 have hif:0<=i/\i < (ix w.2.1 p).length/\ix a (ix (ix w.2.1 p) i)=true:=by
  rcases hi with ⟨_,hno⟩ | ⟨x,y,z,_⟩
  ·exfalso;obtain ⟨q,hq,hx⟩:=hs;obtain ⟨j,j0,j1,ej⟩:=(zoA (l:=ix w.2.1 p) (P:=fun z=>z=q)).1 ⟨q,(w2 q).2 hq,rfl⟩
   exact hno j j0 j1 (by rw [ej];exact hx)
  ·exact ⟨x,y,z⟩
 obtain ⟨i0,i1,hqx⟩:=hif;have hgo:=(w2 _).1 (zeP i0 i1);obtain ⟨q0,q1⟩:=hgo.rng ok p0 p1;by_cases hq:ix (ix w.2.1 p) i=p
 ·refine ⟨([],([p],())),[p],0,?_,⟨rfl,rfl,by simp,by simp,rfl,fun q hq=>by rw [List.mem_singleton.1 hq];exact ⟨p0,p1⟩,fun i i0 i1=>by simp at i1;omega,?_⟩,?_⟩
  unfold zaM;refine zav (y:=(0:Int)) hck ?_
  refine (if_neg (by exact Bool.false_ne_true)).trans ?_
  refine zav e1 ?_
  refine (if_neg (by exact Bool.false_ne_true)).trans ?_
  refine (zad ⟨by omega,hc⟩).trans ?_
  refine (if_neg (by rw [h69];exact Bool.false_ne_true)).trans ?_
  refine (zad zax).trans ?_
  refine zav (y:=true) (znq (s:=88) (by omega)) ?_
  refine (if_neg (by exact Bool.false_ne_true)).trans ?_
  refine (if_neg (by simp only [decide_eq_true_eq];omega)).trans ?_
  refine (if_neg (by simp only [decide_eq_true_eq];omega)).trans ?_
  refine zav ew ?_
  refine zav eE ?_
  refine (zad ⟨p0,by omega⟩).trans ?_
  refine (if_neg (by rw [hp];exact Bool.false_ne_true)).trans ?_
  refine (zad zax).trans ?_
  refine (zad ⟨by omega,by simp only [Tr.kids,List.length_cons];omega⟩).trans ?_
  refine zav ea ?_
  refine (zad zax).trans ?_
  refine (if_pos rfl).trans ?_
  refine (zad ⟨p0,by have:=hw.l;omega⟩).trans ?_
  refine zav (y:=i) ei ?_
  refine (zad ⟨p0,by have:=hw.l;omega⟩).trans ?_
  refine (zad ⟨i0,by omega⟩).trans ?_
  exact if_neg (by rw [hq];simp)
  ·have:=hgo;rw [hq] at this;exact this
  ·rw [hq] at hqx;exact hqx
 ·obtain ⟨S,k,eR,hl,e2,hS⟩:=zuF ok hw (row:=[p,ix (ix w.2.1 p) i]) (by simp) (by simp) (fun q hq=>by
    rcases List.mem_cons.1 hq with rfl | hq
    ·exact ⟨p0,p1⟩
    ·rw [List.mem_singleton.1 hq];exact ⟨q0,q1⟩) (fun j j0 j1=>by
    have:j=0:=by simp at j1;omega
    subst this;exact hgo) (p:=p) rfl
  refine ⟨(S.take k,(S.drop k,())),S,k,?_,hl,?_⟩
  unfold zaM;refine zav (y:=(0:Int)) hck ?_
  refine (if_neg (by exact Bool.false_ne_true)).trans ?_
  refine zav e1 ?_
  refine (if_neg (by exact Bool.false_ne_true)).trans ?_
  refine (zad ⟨by omega,hc⟩).trans ?_
  refine (if_neg (by rw [h69];exact Bool.false_ne_true)).trans ?_
  refine (zad zax).trans ?_
  refine zav (y:=true) (znq (s:=88) (by omega)) ?_
  refine (if_neg (by exact Bool.false_ne_true)).trans ?_
  refine (if_neg (by simp only [decide_eq_true_eq];omega)).trans ?_
  refine (if_neg (by simp only [decide_eq_true_eq];omega)).trans ?_
  refine zav ew ?_
  refine zav eE ?_
  refine (zad ⟨p0,by omega⟩).trans ?_
  refine (if_neg (by rw [hp];exact Bool.false_ne_true)).trans ?_
  refine (zad zax).trans ?_
  refine (zad ⟨by omega,by simp only [Tr.kids,List.length_cons];omega⟩).trans ?_
  refine zav ea ?_
  refine (zad zax).trans ?_
  refine (if_pos rfl).trans ?_
  refine (zad ⟨p0,by have:=hw.l;omega⟩).trans ?_
  refine zav (y:=i) ei ?_
  refine (zad ⟨p0,by have:=hw.l;omega⟩).trans ?_
  refine (zad ⟨i0,by omega⟩).trans ?_
  refine (if_pos (by simp [hq])).trans ?_
  refine zav (zvq ok hw) ?_
  exact zav eR rfl
  ·have h2:1 < S.length:=by rw [hS];simp
   rw [if_pos h2,hS,zbd (by omega) (by simp)]
   exact hqx
theorem zC8 (ok:GrOk g) (hw:WOk g w) (hck:zdF (g.1,(g.2.1,(g.2.2.1,())))=some 0) (ew:zca (g.1,(g.2.1,(g.2.2.1,())))=some w) (hc:(0:Int) < c.length) (h69:bAt c 0=69) (p0:0<=p) (p1:p < g.2.1) (hE:(E.length:Int)=g.2.1) (hp:ix E p=true) (ha:(a.length:Int)=g.2.1)
  (e1:zbL c=some (Tr.mk (71,(al,(v,()))) (k1::K),(0,(0,())))) (eE:zai w (Tr.mk (71,(al,(v,()))) (k1::K))=some E) (ea:zai w k1=some a) (hs:∃ G',Gf g al a G'/\ix G' p=true):
  ∃ y R kk,zaM g c p=some (y,true,0)/\Las g p (y.1,(y.2.1,())) R kk/\∀ q∈R,ix a q=true:=by
 have hn:=ok.n;obtain ⟨Z,eZ,hZ⟩:=zwb ok hw ha;have hZp:ix Z p=true:=by
  obtain ⟨G',h1,h2⟩:=hs
  cases al with
  | true=>exact zCQ ok h1 p0 p1 h2 hZ
  | false=>exact hZ.m G' h1.l h1.s p p0 p1 h2
 obtain ⟨S,k,eR,hl,hS⟩:=zB1 ok hw hZ p0 p1 hZp;refine ⟨(S.take k,(S.drop k,())),S,k,?_,hl,hS⟩
 unfold zaM;refine zav (y:=(0:Int)) hck ?_
 refine (if_neg (by exact Bool.false_ne_true)).trans ?_
 refine zav e1 ?_
 refine (if_neg (by exact Bool.false_ne_true)).trans ?_
 refine (zad ⟨by omega,hc⟩).trans ?_
 refine (if_neg (by rw [h69];exact Bool.false_ne_true)).trans ?_
 refine (zad zax).trans ?_
 refine zav (y:=true) (znq (s:=71) (by omega)) ?_
 refine (if_neg (by exact Bool.false_ne_true)).trans ?_
 refine (if_neg (by simp only [decide_eq_true_eq];omega)).trans ?_
 refine (if_neg (by simp only [decide_eq_true_eq];omega)).trans ?_
 refine zav ew ?_
 refine zav eE ?_
 refine (zad ⟨p0,by omega⟩).trans ?_
 refine (if_neg (by rw [hp];exact Bool.false_ne_true)).trans ?_
 refine (zad zax).trans ?_
 refine (zad ⟨by omega,by simp only [Tr.kids,List.length_cons];omega⟩).trans ?_
 refine zav ea ?_
 refine (zad zax).trans ?_
 refine (if_neg (by exact Bool.false_ne_true)).trans ?_
 refine (if_pos rfl).trans ?_
 refine zav eZ ?_
 exact zav eR rfl
theorem zC7 (ok:GrOk g) (hw:WOk g w) (hck:zdF (g.1,(g.2.1,(g.2.2.1,())))=some 0) (ew:zca (g.1,(g.2.1,(g.2.2.1,())))=some w) (hc:(0:Int) < c.length) (h69:bAt c 0=69) (p0:0<=p) (p1:p < g.2.1) (hE:(E.length:Int)=g.2.1) (hp:ix E p=true) (ha:(a.length:Int)=g.2.1)
  (e1:zbL c=some (Tr.mk (70,(al,(v,()))) (k1::K),(0,(0,())))) (eE:zai w (Tr.mk (70,(al,(v,()))) (k1::K))=some E) (ea:zai w k1=some a) (hs:∃ R',Lf g al (tb g.2.1 fun _=>true) a R'/\ix R' p=true):
  ∃ y R kk,zaM g c p=some (y,true,0)/\Las g p (y.1,(y.2.1,())) R kk/\∃ i:Int,0<=i/\i < R.length/\ix a (ix R i)=true:=by
 have hn:=ok.n;have hone:=zdh (N:=g.2.1) (f:=fun _=>true) (by omega)
 obtain ⟨Z,eZ,hZ⟩:=zpH ok hw hone ha;have hZp:ix Z p=true:=by
  obtain ⟨R',h1,h2⟩:=hs
  cases al with
  | true=>exact zBn ok h1 p0 p1 h2 hZ
  | false=>exact h1.m Z hZ.l hZ.t hZ.s p p0 p1 h2
 obtain ⟨row,er,r0,r1,r2,r3,r4,r5,r6⟩:=zA5 ok hw hone ha hZ p0 p1 hZp;obtain ⟨S,k,eR,hl,e2,hS⟩:=zuF ok hw r0 (by omega) r3 r4 r2
 refine ⟨(S.take k,(S.drop k,())),S,k,?_,hl,row.length - 1,by omega,by rw [hS];simp;omega,by rw [hS,zbd (by omega) (by omega)];exact r6⟩
 unfold zaM;refine zav (y:=(0:Int)) hck ?_
 refine (if_neg (by exact Bool.false_ne_true)).trans ?_
 refine zav e1 ?_
 refine (if_neg (by exact Bool.false_ne_true)).trans ?_
 refine (zad ⟨by omega,hc⟩).trans ?_
 refine (if_neg (by rw [h69];exact Bool.false_ne_true)).trans ?_
 refine (zad zax).trans ?_
 refine zav (y:=true) (znq (s:=70) (by omega)) ?_
 refine (if_neg (by exact Bool.false_ne_true)).trans ?_
 refine (if_neg (by simp only [decide_eq_true_eq];omega)).trans ?_
 refine (if_neg (by simp only [decide_eq_true_eq];omega)).trans ?_
 refine zav ew ?_
 refine zav eE ?_
 refine (zad ⟨p0,by omega⟩).trans ?_
 refine (if_neg (by rw [hp];exact Bool.false_ne_true)).trans ?_
 refine (zad zax).trans ?_
 refine (zad ⟨by omega,by simp only [Tr.kids,List.length_cons];omega⟩).trans ?_
 refine zav ea ?_
 refine (zad zax).trans ?_
 refine (if_neg (by exact Bool.false_ne_true)).trans ?_
 refine (if_neg (by exact Bool.false_ne_true)).trans ?_
 refine (if_pos rfl).trans ?_
 refine zav (zvq ok hw) ?_
 refine zav er ?_
 refine zav (zvq ok hw) ?_
 exact zav eR rfl
theorem zC9 {k2:Tr ND} {b:List Bool} (ok:GrOk g) (hw:WOk g w) (hck:zdF (g.1,(g.2.1,(g.2.2.1,())))=some 0) (ew:zca (g.1,(g.2.1,(g.2.2.1,())))=some w) (hc:(0:Int) < c.length) (h69:bAt c 0=69) (p0:0<=p) (p1:p < g.2.1) (hE:(E.length:Int)=g.2.1) (hp:ix E p=true) (ha:(a.length:Int)=g.2.1)
  (e1:zbL c=some (Tr.mk (85,(al,(v,()))) (k1::k2::K),(0,(0,())))) (eE:zai w (Tr.mk (85,(al,(v,()))) (k1::k2::K))=some E) (ea:zai w k1=some a) (eb:zai w k2=some b) (hb:(b.length:Int)=g.2.1) (hs:∃ R',Lf g al a b R'/\ix R' p=true):
  ∃ y R kk,zaM g c p=some (y,true,0)/\Las g p (y.1,(y.2.1,())) R kk/\∃ i:Int,0<=i/\i < R.length/\ix b (ix R i)=true/\∀ j:Int,0<=j->j < i->ix a (ix R j)=true:=by
 have hn:=ok.n;obtain ⟨Z,eZ,hZ⟩:=zpH ok hw ha hb;have hZp:ix Z p=true:=by
  obtain ⟨R',h1,h2⟩:=hs
  cases al with
  | true=>exact zBn ok h1 p0 p1 h2 hZ
  | false=>exact h1.m Z hZ.l hZ.t hZ.s p p0 p1 h2
 obtain ⟨row,er,r0,r1,r2,r3,r4,r5,r6⟩:=zA5 ok hw ha hb hZ p0 p1 hZp;obtain ⟨S,k,eR,hl,e2,hS⟩:=zuF ok hw r0 (by omega) r3 r4 r2
 refine ⟨(S.take k,(S.drop k,())),S,k,?_,hl,row.length - 1,by omega,by rw [hS];simp;omega,by rw [hS,zbd (by omega) (by omega)];exact r6,fun j j0 j1=>by rw [hS,zbd j0 (by omega)];exact r5 j j0 (by omega)⟩
 unfold zaM;refine zav (y:=(0:Int)) hck ?_
 refine (if_neg (by exact Bool.false_ne_true)).trans ?_
 refine zav e1 ?_
 refine (if_neg (by exact Bool.false_ne_true)).trans ?_
 refine (zad ⟨by omega,hc⟩).trans ?_
 refine (if_neg (by rw [h69];exact Bool.false_ne_true)).trans ?_
 refine (zad zax).trans ?_
 refine zav (y:=true) (znq (s:=85) (by omega)) ?_
 refine (if_neg (by exact Bool.false_ne_true)).trans ?_
 refine (if_neg (by simp only [decide_eq_true_eq];omega)).trans ?_
 refine (if_neg (by simp only [decide_eq_true_eq];omega)).trans ?_
 refine zav ew ?_
 refine zav eE ?_
 refine (zad ⟨p0,by omega⟩).trans ?_
 refine (if_neg (by rw [hp];exact Bool.false_ne_true)).trans ?_
 refine (zad zax).trans ?_
 refine (zad ⟨by omega,by simp only [Tr.kids,List.length_cons];omega⟩).trans ?_
 refine zav ea ?_
 refine (zad zax).trans ?_
 refine (if_neg (by exact Bool.false_ne_true)).trans ?_
 refine (if_neg (by exact Bool.false_ne_true)).trans ?_
 refine (if_neg (by exact Bool.false_ne_true)).trans ?_
 refine (zad zax).trans ?_
 refine (zad ⟨by omega,by simp only [Tr.kids,List.length_cons];omega⟩).trans ?_
 refine zav eb ?_
 refine zav er ?_
 refine zav (zvq ok hw) ?_
 exact zav eR rfl
end
section
variable {g:Gr} {c:List UInt8} {p b:Int} {l:L5} {E:List Bool} {y:List Int×List Int×Unit}
theorem zyW {t:Int} (h:t≠0):zam g p y false t true b l t=some true:=by
 unfold zam;simp [h]
theorem zCZ (eE:zaJ g l b=some E) (hE:(E.length:Int)=g.2.1) (p0:0<=p) (p1:p < g.2.1) (hp:ix E p=false):zam g p y false 0 true b l 0=some true:=by
 unfold zam;rw [if_neg (by simp),show zaJ (g.1,(g.2.1,(g.2.2.1,()))) l b=some E from eE]
 simp only [Option.bind_some];rw [if_neg (by simp),zad ⟨p0,by omega⟩,zad (by omega),if_neg (by simp [hp]),if_pos (by simp)]
theorem zEh {fl:Bool} (eE:zaJ g l b=some E) (hE:(E.length:Int)=g.2.1) (p0:0<=p) (p1:p < g.2.1) (hp:ix E p=true) (hs:zfm g l b (y.1,(y.2.1,())) p=some true):zam g p y true 0 fl b l 0=some true:=by
 unfold zam;rw [if_neg (by simp),show zaJ (g.1,(g.2.1,(g.2.2.1,()))) l b=some E from eE]
 simp only [Option.bind_some];rw [if_neg (by simp),zad ⟨p0,by omega⟩,zad (by omega),if_neg (by simp [hp]),if_neg (by simp),show zfm (g.1,(g.2.1,(g.2.2.1,()))) l b (y.1,(y.2.1,())) p=some true from hs]
 rfl
theorem zBI {is fl:Bool} {e:Int} (b0:0<=b) (b1:b < l.length) (hc:(0:Int) < c.length) (h:bAt c 0≠69\/((ix l b).1≠88/\(ix l b).1≠70/\(ix l b).1≠71/\(ix l b).1≠85)):zbe g c p y is e fl b l 0=zam g p y is e fl b l 3:=by
 unfold zbe;rw [if_pos (by simp),zad ⟨b0,b1⟩,zad (by omega),zad ⟨by omega,hc⟩]
 have j9:zbq g p y is e fl b l 0 true=zam g p y is e fl b l 3:=by
  unfold zbq;rw [if_pos rfl]
 by_cases h1:bAt c 0=69
 ·obtain ⟨k1,k2,k3,k4⟩:=h.resolve_left (fun k=>k h1)
  rw [if_neg (by simp [h1]),if_pos (by simp [k1]),if_pos (by simp [k2]),if_pos (by simp [k3]),show decide (¬ (ix l b).1=85)=true from by simp [k4]]
  exact j9
 ·rw [if_pos (by simp [h1])];exact j9
theorem zyX {is fl:Bool} {e:Int} (b0:0<=b) (b1:b < l.length) (hc:(0:Int) < c.length) (h69:bAt c 0=69) (h:(ix l b).1=88\/(ix l b).1=70\/(ix l b).1=71\/(ix l b).1=85):zbe g c p y is e fl b l 0=if p < 0\/g.2.1<=p then zam g p y is e fl b l 2 else zam g p y is e fl b l 0:=by
 unfold zbe;rw [if_pos (by simp),zad ⟨b0,b1⟩,zad (by omega),zad ⟨by omega,hc⟩,if_neg (by simp [h69])]
 have j9:zbq g p y is e fl b l 0 false=if p < 0\/g.2.1<=p then zam g p y is e fl b l 2 else zam g p y is e fl b l 0:=by
  unfold zbq;rw [if_neg (by simp)]
  by_cases q1:p < 0
  ·rw [if_pos (decide_eq_true q1),if_pos (.inl q1)]
  ·rw [if_neg (by simpa using q1)]
   by_cases q2:g.2.1<=p
   ·rw [if_pos (decide_eq_true q2),if_pos (.inr q2)]
   ·rw [if_neg (by simpa using q2),if_neg (by omega)]
 rcases h with h | h | h | h
 ·rw [if_neg (by simp [h])];exact j9
 ·rw [if_pos (by simp [h]),if_neg (by simp [h])];exact j9
 ·rw [if_pos (by simp [h]),if_pos (by simp [h]),if_neg (by simp [h])];exact j9
 ·rw [if_pos (by simp [h]),if_pos (by simp [h]),if_pos (by simp [h]),show decide (¬ (ix l b).1=85)=false from by simp [h]];exact j9
theorem zDn {a:Tr ND} {b:Int} (h:Stn l a b):0<=b/\b < l.length/\∃ s al v A B u K,ix l b=(s,al,v,A,B,u)/\a=Tr.mk (s,(al,(v,()))) K/\((s≠88/\s≠70/\s≠71/\s≠85)\/((s=88\/s=70\/s=71)/\∃ k1,K=[k1]/\Stn l k1 A)\/(s=85/\∃ k1 k2,K=[k1,k2]/\Stn l k1 A/\Stn l k2 B)):=by
 cases h with
 | leaf k h0 h1 hs=>
  refine ⟨h0,h1,?_⟩
  generalize ix l b=x at hs;obtain ⟨s,al,v,A,B,u⟩:=x;have hs:s=48\/s=49\/s=97:=hs;exact ⟨s,al,v,A,B,u,[],rfl,rfl,.inl (by omega)⟩
 | one k a h0 h1 hs ha=>
  refine ⟨h0,h1,?_⟩
  generalize ix l b=x at hs ha;obtain ⟨s,al,v,A,B,u⟩:=x;have hs:s=33\/s=88\/s=70\/s=71:=hs;refine ⟨s,al,v,A,B,u,[a],rfl,rfl,?_⟩
  by_cases e:s=33
  ·exact .inl (by omega)
  ·exact .inr (.inl ⟨by omega,a,rfl,ha⟩)
 | two k a b' h0 h1 hs ha hb=>
  refine ⟨h0,h1,?_⟩
  generalize ix l b=x at hs ha hb;obtain ⟨s,al,v,A,B,u⟩:=x;have hs:s=38\/s=124\/s=85:=hs;refine ⟨s,al,v,A,B,u,[a,b'],rfl,rfl,?_⟩
  by_cases e:s=85
  ·exact .inr (.inr ⟨e,a,b',rfl,ha,hb⟩)
  ·exact .inl (by omega)
theorem noL {y:List Int×List Int×Unit} (h:y=([],([],()))):zfi (y.1,(y.2.1,()))=some true:=by
 subst h;unfold zfi;rw [zad (zaE (by simp) (by simp))];simp
theorem zEi {R:List Int} {kk:Nat} (h:Las g p (y.1,(y.2.1,())) R kk):∃ fl,zfi (y.1,(y.2.1,()))=some fl:=by
 have hl:=h.l;have he:=h.e;have:y.1.length+y.2.1.length=R.length:=by rw [<- he];simp
 unfold zfi;rw [zad (zaE (by simp only;omega) (by simp only;omega))]
 exact ⟨_,rfl⟩
theorem zBR (hck:zdF (g.1,(g.2.1,(g.2.2.1,())))=some 0) {a:Tr ND} (e1:zbL c=some (a,(0,(0,())))) (hc:(0:Int) < c.length) {s v:Int} {al:Bool} {K:List (Tr ND)} (ha:a=Tr.mk (s,(al,(v,()))) K)
  (h:bAt c 0≠69\/(s≠88/\s≠70/\s≠71/\s≠85)):zaM g c p=some (([],([],())),false,3):=by
 subst ha;unfold zaM;refine zav (y:=(0:Int)) hck ?_
 refine (if_neg (by exact Bool.false_ne_true)).trans ?_
 refine zav e1 ?_
 refine (if_neg (by exact Bool.false_ne_true)).trans ?_
 refine (zad ⟨by omega,hc⟩).trans ?_
 by_cases h69:bAt c 0=69
 ·refine (if_neg (by rw [h69];exact Bool.false_ne_true)).trans ?_
  refine (zad zax).trans ?_
  refine zav (y:=false) (zEf (s:=s) (h.resolve_left fun k=>k h69)) ?_
  exact if_pos rfl
 ·exact if_pos (by simp [h69])
theorem zzE (hck:zdF (g.1,(g.2.1,(g.2.2.1,())))=some 0) {a:Tr ND} (e1:zbL c=some (a,(0,(0,())))) (hc:(0:Int) < c.length) {s v:Int} {al:Bool} {K:List (Tr ND)} (ha:a=Tr.mk (s,(al,(v,()))) K)
  (h69:bAt c 0=69) (hs:s=88\/s=70\/s=71\/s=85) (hp:p < 0\/g.2.1<=p):zaM g c p=some (([],([],())),false,2):=by
 subst ha;unfold zaM;refine zav (y:=(0:Int)) hck ?_
 refine (if_neg (by exact Bool.false_ne_true)).trans ?_
 refine zav e1 ?_
 refine (if_neg (by exact Bool.false_ne_true)).trans ?_
 refine (zad ⟨by omega,hc⟩).trans ?_
 refine (if_neg (by rw [h69];exact Bool.false_ne_true)).trans ?_
 refine (zad zax).trans ?_
 refine zav (y:=true) (znq (s:=s) hs) ?_
 refine (if_neg (by exact Bool.false_ne_true)).trans ?_
 by_cases q1:p < 0
 ·exact if_pos (decide_eq_true q1)
 ·refine (if_neg (by simpa using q1)).trans ?_
  exact if_pos (decide_eq_true (by omega))
theorem zBQ (ok:GrOk g) {w:Wlk} (hck:zdF (g.1,(g.2.1,(g.2.2.1,())))=some 0) (ew:zca (g.1,(g.2.1,(g.2.2.1,())))=some w) {a:Tr ND} (e1:zbL c=some (a,(0,(0,())))) (hc:(0:Int) < c.length) {s v:Int} {al:Bool} {K:List (Tr ND)} (ha:a=Tr.mk (s,(al,(v,()))) K)
  (h69:bAt c 0=69) (hs:s=88\/s=70\/s=71\/s=85) (p0:0<=p) (p1:p < g.2.1) (eE:zai w a=some E) (hE:(E.length:Int)=g.2.1) (hp:ix E p=false):zaM g c p=some (([],([],())),false,0):=by
 subst ha;unfold zaM;refine zav (y:=(0:Int)) hck ?_
 refine (if_neg (by exact Bool.false_ne_true)).trans ?_
 refine zav e1 ?_
 refine (if_neg (by exact Bool.false_ne_true)).trans ?_
 refine (zad ⟨by omega,hc⟩).trans ?_
 refine (if_neg (by rw [h69];exact Bool.false_ne_true)).trans ?_
 refine (zad zax).trans ?_
 refine zav (y:=true) (znq (s:=s) hs) ?_
 refine (if_neg (by exact Bool.false_ne_true)).trans ?_
 refine (if_neg (by simp only [decide_eq_true_eq];omega)).trans ?_
 refine (if_neg (by simp only [decide_eq_true_eq];omega)).trans ?_
 refine zav ew ?_
 refine zav eE ?_
 refine (zad ⟨p0,by omega⟩).trans ?_
 exact if_pos (by rw [hp];rfl)
end
theorem law_true (g:Gr) (c:List UInt8) (p:Int):zev g c p=some true:=by
 have eg:(g.1,g.2.1,g.2.2.1,())=g:=rfl;have fin:∀ (y:List Int×List Int×Unit) (is:Bool) (e:Int) (fl:Bool) (b cd:Int) (l:L5),zaM g c p=some (y,is,e)->zfi (y.1,(y.2.1,()))=some fl->(∃ pl,zkz c=some (b,(cd,(pl,())),l))->
   (zcV g c p y is e fl (grE g) b l (decide (grE g=0) && decide (¬ cd=0)))=some true->zev g c p=some true:=by
  intro y is e fl b cd l h1 h2 ⟨pl,h3⟩ h4;unfold zev;rw [eg,h1];simp only [Option.bind_some];rw [h2];simp only [Option.bind_some];rw [zu3,h3];simp only [Option.bind_some];by_cases h0:grE g=0
  ·rw [if_pos (decide_eq_true h0)];simpa [h0] using h4
  ·rw [if_neg (by simpa using h0)]
   simpa [h0] using h4
 by_cases h0:grE g=0
 ·have ok:=zBE h0;have hn:=ok.n;have hck:zdF (g.1,(g.2.1,(g.2.2.1,())))=some 0:=by rw [eg,zpe,h0]
  obtain ⟨w,ew,hw⟩:=zzN ok;have ew':zca (g.1,(g.2.1,(g.2.2.1,())))=some w:=ew;rcases zvw c with ⟨a,b,l,e1,e2,hl,hs⟩ | ⟨a,cd,pl,e1,e2,hcd⟩
  ·have hc:(0:Int) < c.length:=by
    cases c with
    | nil=>
     obtain ⟨a',pl,e⟩:=zA4;rw [e1] at e;have:=Option.some.inj e;injection this with _ h2
     injection h2 with h3 _
     cases h3
    | cons x xs=>simp only [List.length_cons];omega
   have fin2:∀ (y:List Int×List Int×Unit) (is:Bool) (e:Int) (fl:Bool),zaM g c p=some (y,is,e)->zfi (y.1,(y.2.1,()))=some fl->zbe g c p y is e fl b l 0=some true->zev g c p=some true:=by
    intro y is e fl h1 h2 h3;refine fin y is e fl b 0 l h1 h2 ⟨_,e2⟩ ?_
    unfold zcV;rw [if_neg (by simp),h0];exact h3
   obtain ⟨b0,b1,s,al,v,A,B,u,K,hx,ha,hcase⟩:=zDn hs;have hx1:(ix l b).1=s:=by rw [hx]
   by_cases hsh:bAt c 0≠69\/(s≠88/\s≠70/\s≠71/\s≠85)
   ·refine fin2 _ _ _ _ (zBR hck e1 hc ha hsh) (noL rfl) ?_
    rw [zBI b0 b1 hc (by rw [hx1];exact hsh)]
    exact zyW (by decide)
   ·have h69:bAt c 0=69:=Decidable.not_not.1 fun k=>hsh (.inl k)
    have hs4:s=88\/s=70\/s=71\/s=85:=by
     refine Classical.byContradiction fun k=>hsh (.inr ?_);omega
    by_cases hpr:p < 0\/g.2.1<=p
    ·refine fin2 _ _ _ _ (zzE hck e1 hc ha h69 hs4 hpr) (noL rfl) ?_
     rw [zyX b0 b1 hc h69 (by rw [hx1];exact hs4),if_pos hpr]
     exact zyW (by decide)
    ·have p0:0<=p:=by omega
     have p1:p < g.2.1:=by omega
     obtain ⟨E,e3,e4,hE⟩:=zpI ok hw hs;have j6:∀ y is e fl,zbe g c p y is e fl b l 0=zam g p y is e fl b l 0:=fun y is e fl=>by
      rw [zyX b0 b1 hc h69 (by rw [hx1];exact hs4),if_neg hpr]
     cases hp:ix E p with
     | false=>
      refine fin2 _ _ _ _ (zBQ ok hck ew' e1 hc ha h69 hs4 p0 p1 e3 hE hp) (noL rfl) ?_
      rw [j6];exact zCZ e4 hE p0 p1 hp
     | true=>
      have done:∀ y R kk,zaM g c p=some (y,true,0)->Las g p (y.1,(y.2.1,())) R kk->zfm g l b (y.1,(y.2.1,())) p=some true->zev g c p=some true:=by
       intro y R kk k1 k2 k3;obtain ⟨fl,hfl⟩:=zEi k2;refine fin2 y true 0 fl k1 hfl ?_
       rw [j6];exact zEh e4 hE p0 p1 hp k3
      rcases hcase with hno | ⟨hs3,k1,rfl,hk1⟩ | ⟨rfl,k1,k2,rfl,hk1,hk2⟩
      ·omega
      ·obtain ⟨Ra,f1,f2,hRa⟩:=zpI ok hw hk1;subst ha;have r1:=zBd ok b0 b1 hx (by omega) f2
       rcases hs3 with rfl | rfl | rfl
       ·have hEe:=r1.trans (zxw ok hx (by omega) hRa (zkM (by omega)) (f:=fun p=>St g al Ra p) fun p _ _=>by simp)
        rw [e4] at hEe;have hEe:=Option.some.inj hEe;have hst:St g al Ra p=true:=by rw [hEe,zdE p0 p1] at hp;exact hp
        have hq:∃ q,Go g p q/\ix Ra q=true:=by
         cases al with
         | false=>exact zgI.1 hst
         | true=>
          obtain ⟨q,hq⟩:=Go.ex (g:=g) p;exact ⟨q,hq,zhx.1 hst q hq⟩
        obtain ⟨y,R,kk,g1,g2,g3⟩:=zDa ok hw hck ew' hc h69 p0 p1 hE hp hRa e1 e3 f1 hq;exact done y R kk g1 g2 (zDs ok g2 hx b0 b1 f2 hRa g3)
       ·obtain ⟨T,q3,q4⟩:=zCq ok hx hRa;have hTE:=r1.trans q3;rw [e4] at hTE;rw [<- Option.some.inj hTE] at q4;obtain ⟨y,R,kk,g1,g2,g3⟩:=zC7 ok hw hck ew' hc h69 p0 p1 hE hp hRa e1 e3 f1 ⟨E,q4,hp⟩;exact done y R kk g1 g2 (zDp ok g2 hx b0 b1 f2 hRa g3)
       ·obtain ⟨T,q3,q4⟩:=zCr ok hx (S:=List.replicate (g.2.1).toNat false) hRa;have hTE:=r1.trans q3;rw [e4] at hTE;rw [<- Option.some.inj hTE] at q4;obtain ⟨y,R,kk,g1,g2,g3⟩:=zC8 ok hw hck ew' hc h69 p0 p1 hE hp hRa e1 e3 f1 ⟨E,q4,hp⟩;exact done y R kk g1 g2 (zDq ok g2 hx b0 b1 f2 hRa g3)
      ·obtain ⟨Ra,f1,f2,hRa⟩:=zpI ok hw hk1;obtain ⟨Rb,f3,f4,hRb⟩:=zpI ok hw hk2;subst ha;have r1:=zBe ok b0 b1 hx (by omega) f2 f4
       obtain ⟨T,q3,q4⟩:=zCs ok hx hRa hRb;have hTE:=r1.trans q3;rw [e4] at hTE;rw [<- Option.some.inj hTE] at q4;obtain ⟨y,R,kk,g1,g2,g3⟩:=zC9 ok hw hck ew' hc h69 p0 p1 hE hp hRa e1 e3 f1 f3 hRb ⟨E,q4,hp⟩;exact done y R kk g1 g2 (zDr ok g2 hx b0 b1 f2 hRa f4 hRb g3)
  ·have hP:zaM g c p=some (([],([],())),false,4):=by
    unfold zaM;refine zav (y:=(0:Int)) hck ?_
    refine (if_neg (by exact Bool.false_ne_true)).trans ?_
    refine zav e1 ?_
    exact if_pos (by simp [hcd])
   refine fin _ _ _ _ 0 cd [] hP (noL rfl) ⟨pl,e2⟩ ?_
   unfold zcV zbe;rw [if_pos (by simp [h0,hcd]),if_neg (by decide)]
   exact zyW (by decide)
 ·have hP:zaM g c p=some (([],([],())),false,grE g):=by
   unfold zaM;refine zav (y:=grE g) (by rw [eg,zpe]) ?_
   exact if_pos (by simp [h0])
  have hps:∃ b cd pl l,zkz c=some (b,(cd,(pl,())),l):=by
   rcases zvw c with ⟨a,b,l,e1,e2,hl,hs⟩ | ⟨a,cd,pl,e1,e2,hcd⟩
   ·exact ⟨_,_,_,_,e2⟩
   ·exact ⟨_,_,_,_,e2⟩
  obtain ⟨b,cd,pl,l,e2⟩:=hps;refine fin _ _ _ _ b cd l hP (noL rfl) ⟨pl,e2⟩ ?_
  unfold zcV zbe;rw [if_neg (by simp [h0]),if_neg (by simpa using h0)]
  exact zyW h0
end Go.Proofs.Ytegenlccllgjoaa.branchPathsW
