/- The law 'BranchPaths' of the plain functions. -/
import Derived.Test.YtegenlccllgjoaaBranchPathsD
set_option maxHeartbeats 1000000
set_option maxRecDepth 20000
set_option linter.unusedSimpArgs false
set_option linter.unusedVariables false
set_option linter.unusedSectionVars false
namespace Go.Proofs.Ytegenlccllgjoaa.branchPathsW
open Go Go.Ab
abbrev ND:=Int×Bool×Int×Unit
abbrev L5:=List (Int×Bool×Int×Int×Int×Unit)
def nowT (c:List UInt8) (i:Int):Int:=if i < c.length then bAt c i else 0
theorem zoQ {c:List UInt8} {i:Int} (h:nowT c i≠0):i < c.length:=by
 unfold nowT at h;by_cases h1:i < c.length
 ·exact h1
 ·rw [if_neg h1] at h;exact absurd rfl h
section
variable {c:List UInt8} {i n s f a:Int} {l:L5}
theorem zzK (h0:0<=i):zb8 (c,(i,(s,(n,()))))=some (nowT c i):=by
 unfold zb8 nowT;by_cases h:i < (c.length:Int)
 ·rw [if_pos (by simp [h]),zad ⟨h0,h⟩,if_pos h]
 ·simp [h]
theorem zuA {k:Int}:zbO (c,(i,(s,(n,())))) k=some (.inr (k,i)):=rfl
theorem zwH (h0:0<=i):zdj (c,(i,(s,(n,(l,((f,(a,())),()))))))=some (nowT c i):=by
 unfold zdj nowT;by_cases h:(c.length:Int)<=i
 ·have : ¬ i < (c.length:Int):=by omega
  simp [h,this]
 ·have h2:i < c.length:=by omega
  simp only [h,decide_false,Bool.false_eq_true,if_false,if_pos h2];exact zad ⟨h0,h2⟩
theorem r_ok:zh5 (c,(i,(s,(n,(l,((f,(a,())),()))))))=some (decide (f=0)):=rfl
theorem zqm {k:Int}:zco k c i s n f a l=if f=0 then some (c,i,s,n,l,k,i) else some (c,i,s,n,l,f,a):=by
 unfold zco;by_cases h:f=0<;>simp [h]
theorem zoS (h0:0<=i) (h1:i<=c.length) (hc:c.length<=4000) (hn:0<=n/\n<=30):
  zaO c i s n=if 30 < n+1 then some (.inr (7,i)) else some (.inl (c,i+1,s,n+1)):=by
 unfold zaO;rw [zad (zaE (by omega) (by omega))]
 by_cases h:(30:Int) < n+1
 ·simp [h,zuA,za3]
 ·simp only [h,decide_false,Bool.false_eq_true,if_false];exact zad (zaE (by omega) (by omega))
theorem zpg (h0:0<=i) (h1:i<=c.length) (hc:c.length<=4000) (hn:0<=n/\n<=30):
  zbg c i s n 0 0 l=if 30 < n+1 then some (c,i+1,s,n+1,l,7,i) else some (c,i+1,s,n+1,l,0,0):=by
 have f3:fits (i+1):=zaE (by omega) (by omega)
 unfold zbg;rw [zad (zaE (by omega) (by omega))]
 by_cases h:(30:Int) < n+1
 ·simp [h,zqm,zad f3]
 ·simp [h,zad f3]
theorem zme (h:l.length<=1000) {k v x y:Int} {b:Bool}:zbY (k,(b,(v,(x,(y,()))))) c i s n f a l=some ((l.length:Int),c,i,s,n,l++[(k,b,v,x,y,())],f,a):=by
 unfold zbY;have e:(((l++[(k,(b,(v,(x,(y,())))))]).length:Int) - 1)=(l.length:Int):=by simp
 rw [zad (zkU (by simp;omega))]
 simp only [e];rw [zad (zaE (by omega) (by omega))]
theorem zCu (h0:0<=i/\i<=5000) (hs:0<=s/\s<=40):zdI c i s n=if s=40 then some (.inr (7,i)) else some (.inl (c,i+1,s+1,n)):=by
 unfold zdI;by_cases h:s=40
 ·simp [h,zuA,za3]
 ·simp only [h,decide_false,Bool.false_eq_true,if_false];rw [zad (zaE (by omega) (by omega)),zad (zaE (by omega) (by omega))]
theorem zCx (h0:0<=i/\i<=5000) (hs:0<=s/\s<=40):zdn c i s n 0 0 l=if s=40 then some (c,i+1,s+1,n,l,7,i) else some (c,i+1,s+1,n,l,0,0):=by
 have f1:fits (s+1):=zaE (by omega) (by omega)
 have f2:fits (i+1):=zaE (by omega) (by omega)
 unfold zdn;by_cases h:s=40
 ·have f4:fits (41:Int):=zaE (by omega) (by omega)
  subst h;simp [zqm,zad f4,zad f2]
 ·simp [h,zad f1,zad f2]
theorem zCw {k:Int} (h0:0<=i/\i<=5000):zdK k c i s n=if nowT c i=k then some (.inl (c,i+1,s,n)) else some (.inr (4,i)):=by
 have f2:fits (i+1):=zaE (by omega) (by omega)
 unfold zdK;rw [zzK h0.1];by_cases h:nowT c i=k
 ·simp [h,zad f2]
 ·simp [h,zuA,za3]
theorem zBk {k:Int} (h0:0<=i/\i<=5000):zcP k c i s n 0 0 l=if nowT c i=k then some (c,i+1,s,n,l,0,0) else some (c,i+1,s,n,l,4,i):=by
 have f2:fits (i+1):=zaE (by omega) (by omega)
 unfold zcP;rw [zwH h0.1];by_cases h:nowT c i=k
 ·simp [h,zad f2]
 ·simp [h,zqm,zad f2]
theorem zp7 {k:Int} (hf:f≠0) (h0:0<=i/\i<=5000):zcP k c i s n f a l=some (c,i+1,s,n,l,f,a):=by
 have f2:fits (i+1):=zaE (by omega) (by omega)
 unfold zcP;rw [zwH h0.1];by_cases h:nowT c i=k
 ·simp [h,zad f2]
 ·simp [h,zqm,hf,zad f2]
theorem zyU (hf:f≠0):zau c i s n f a l=some (0,c,i,s,n,l,f,a):=by
 rw [zlH];unfold zcF;rw [r_ok];simp [hf]
theorem zwj (hf:f≠0) (h0:0<=i) (x:Int):zbQ zau x c i s n f a l=some (x,c,i,s,n,l,f,a):=by
 rw [zjw];unfold zbL;rw [zwH h0];simp only [Option.bind_some];rw [r_ok];simp [hf]
theorem zCp (hf:f≠0) (h0:0<=i):zbZ zau c i s n f a l=some (0,c,i,s,n,l,f,a):=by
 unfold zbZ;rw [zyU hf];simp only [Option.bind_some];exact zwj hf h0 0
theorem ztM (hf:f≠0) (h0:0<=i) (x:Int):zbB zau x c i s n f a l=some (x,c,i,s,n,l,f,a):=by
 rw [ziN];unfold zbC;rw [zwH h0];simp only [Option.bind_some];rw [r_ok];simp [hf]
theorem zqC (hf:f≠0) (h0:0<=i):zbc zau c i s n f a l=some (0,c,i,s,n,l,f,a):=by
 unfold zbc;rw [zCp hf h0];simp only [Option.bind_some];exact ztM hf h0 0
end
def vT (x:Int×Bool×Int×Int×Int×Unit):ND:=(x.1,x.2.1,x.2.2.1,())
def xA (x:Int×Bool×Int×Int×Int×Unit):Int:=x.2.2.2.1
def xB (x:Int×Bool×Int×Int×Int×Unit):Int:=x.2.2.2.2.1
inductive Stn (l:L5):Tr ND->Int->Prop
 | leaf (k:Int) (h0:0<=k) (h1:k < l.length) (hs:(ix l k).1=48\/(ix l k).1=49\/(ix l k).1=97):Stn l (Tr.mk (vT (ix l k)) []) k
 | one (k:Int) (a:Tr ND) (h0:0<=k) (h1:k < l.length) (hs:(ix l k).1=33\/(ix l k).1=88\/(ix l k).1=70\/(ix l k).1=71) (ha:Stn l a (xA (ix l k))):Stn l (Tr.mk (vT (ix l k)) [a]) k
 | two (k:Int) (a b:Tr ND) (h0:0<=k) (h1:k < l.length) (hs:(ix l k).1=38\/(ix l k).1=124\/(ix l k).1=85) (ha:Stn l a (xA (ix l k))) (hb:Stn l b (xB (ix l k))):Stn l (Tr.mk (vT (ix l k)) [a,b]) k
theorem Stn.mono {l m:L5} {t:Tr ND} {k:Int} (h:Stn l t k):Stn (l++m) t k:=by
 induction h with
 | leaf k h0 h1 hs=>
  have e:ix (l++m) k=ix l k:=zbe h0 h1;rw [<- e] at hs ⊢;exact .leaf k h0 (by simp;omega) hs
 | one k a h0 h1 hs ha iha=>
  have e:ix (l++m) k=ix l k:=zbe h0 h1;rw [<- e] at hs iha ⊢;exact .one k a h0 (by simp;omega) hs iha
 | two k a b h0 h1 hs ha hb iha ihb=>
  have e:ix (l++m) k=ix l k:=zbe h0 h1;rw [<- e] at hs iha ihb ⊢;exact .two k a b h0 (by simp;omega) hs iha ihb
abbrev NR:=Int×Bool×Int×Int×Int×Unit
theorem Stn.put_leaf {l:L5} {x:NR} (hs:x.1=48\/x.1=49\/x.1=97):Stn (l++[x]) (Tr.mk (vT x) []) l.length:=by
 have e:ix (l++[x]) (l.length:Int)=x:=zdf;have:=Stn.leaf (l:=l++[x]) l.length (by omega) (by simp;omega) (by rw [e];exact hs)
 rw [e] at this;exact this
theorem Stn.put_one {l:L5} {x:NR} {a:Tr ND} (hs:x.1=33\/x.1=88\/x.1=70\/x.1=71) (ha:Stn l a (xA x)):Stn (l++[x]) (Tr.mk (vT x) [a]) l.length:=by
 have e:ix (l++[x]) (l.length:Int)=x:=zdf;have:=Stn.one (l:=l++[x]) l.length a (by omega) (by simp;omega) (by rw [e];exact hs) (by rw [e];exact ha.mono)
 rw [e] at this;exact this
theorem Stn.put_two {l:L5} {x:NR} {a b:Tr ND} (hs:x.1=38\/x.1=124\/x.1=85) (ha:Stn l a (xA x)) (hb:Stn l b (xB x)):Stn (l++[x]) (Tr.mk (vT x) [a,b]) l.length:=by
 have e:ix (l++[x]) (l.length:Int)=x:=zdf;have:=Stn.two (l:=l++[x]) l.length a b (by omega) (by simp;omega) (by rw [e];exact hs) (by rw [e];exact ha.mono) (by rw [e];exact hb.mono)
 rw [e] at this;exact this
def Ext (l l':L5):Prop:=∃ m,l'=l++m
theorem Ext.refl (l:L5):Ext l l:=⟨[],by simp⟩
theorem Ext.trans {l l' l2:L5} (h:Ext l l') (h2:Ext l' l2):Ext l l2:=by
 obtain ⟨m,rfl⟩:=h;obtain ⟨m',rfl⟩:=h2;exact ⟨m++m',by simp⟩
theorem Ext.snoc (l:L5) (x:NR):Ext l (l++[x]):=⟨[x],rfl⟩
theorem Ext.put {l l':L5} (h:Ext l l') (x:NR):Ext l (l'++[x]):=h.trans (Ext.snoc l' x)
theorem Ext.stn {l l':L5} (h:Ext l l') {t:Tr ND} {k:Int} (h2:Stn l t k):Stn l' t k:=by
 obtain ⟨m,rfl⟩:=h;exact h2.mono
structure Pre (c:List UInt8) (i n s:Int) (l:L5):Prop where
 i0:0<=i
 i1:i<=c.length
 c1:c.length<=4000
 n0:0<=n
 n1:n<=30
 s0:0<=s
 s1:s<=40
 l1:(l.length:Int)<=n
def Sm (c:List UInt8) (i n s:Int) (l:L5) (o:Option ((Tr ND×List UInt8×Int×Int×Int)⊕(Int×Int))) (r:Option (Int×List UInt8×Int×Int×Int×L5×Int×Int)):Prop:=
 (∃ a b i' n' l',o=some (.inl (a,c,i',s,n'))/\r=some (b,c,i',s,n',l',0,0)/\i<=i'/\i'<=c.length/\n<=n'/\n'<=30/\(l'.length:Int)+n<=l.length+n'/\Ext l l'/\Stn l' a b)
 \/(∃ cd pl b i' n' l',o=some (.inr (cd,pl))/\r=some (b,c,i',s,n',l',cd,pl)/\cd≠0/\0<=i'/\i'<=c.length+4 * (41 - s)/\n'<=31/\(l'.length:Int)+n<=l.length+n')
def Part (c:List UInt8) (m:Nat):Prop:=∀ i n s l,Pre c i n s l->((c.length:Int) - i).toNat<=m->Sm c i n s l (zaA c i s n) (zau c i s n 0 0 l)
def Term (c:List UInt8) (m:Nat):Prop:=∀ i n s l,Pre c i n s l->((c.length:Int) - i).toNat<=m->Sm c i n s l (zbq zaA c i s n) (zbZ zau c i s n 0 0 l)
def zz0 (c:List UInt8) (m:Nat):Prop:=∀ i n s l,Pre c i n s l->((c.length:Int) - i).toNat<=m->Sm c i n s l (zaS zaA c i s n) (zbc zau c i s n 0 0 l)
theorem zBw {c:List UInt8}:∀ m:Nat,(∀ m' < m,Part c m')->∀ a b i n s l,Pre c i n s l->Stn l a b->((c.length:Int) - i).toNat<=m->
  Sm c i n s l (zbz zaA a c i s n) (zbQ zau b c i s n 0 0 l):=by
 intro m
 induction m using Nat.strongRecOn with
 | ind m ih=>
  intro hP a b i n s l hp hab hm;obtain ⟨i0,i1,c1,n0,n1,s0,s1,q1⟩:=hp;rw [zmn,zjw];unfold zbE zbL;rw [zzK i0,zwH i0];simp only [Option.bind_some];rw [r_ok];by_cases hb:nowT c i=38
  ·have hlt:i < c.length:=zoQ (by rw [hb];decide)
   simp only [hb,Option.bind_some,decide_true,not_true_eq_false,decide_false,Bool.not_true,Bool.false_eq_true,if_true,if_false];rw [zoS i0 i1 c1 ⟨n0,n1⟩,zpg i0 i1 c1 ⟨n0,n1⟩];by_cases hbad:30 < n+1
   ·simp only [hbad,if_true,za3,Option.bind_some];rw [zyU (by decide)]
    simp only [Option.bind_some];rw [zme (by omega)]
    simp only [Option.bind_some];rw [zwj (by decide) (by omega)]
    exact .inr ⟨7,i,_,_,_,_,rfl,rfl,by decide,by omega,by omega,by omega,by (first | omega | (simp only [List.length_append,List.length_cons,List.length_nil] at *; omega) | (simp;done) | (simp;omega))⟩
   ·simp only [hbad,if_false,zbJ,Option.bind_some];rcases hP (((c.length:Int) - (i+1)).toNat) (by omega) (i+1) (n+1) s l ⟨by omega,by omega,c1,by omega,by omega,s0,s1,by omega⟩ (Nat.le_refl _) with
     ⟨a1,b1,i',n',l',e1,e2,g1,g2,g3,g4,g5,g6,g7⟩ | ⟨cd,pl,b1,i',n',l',e1,e2,g1,g2,g3,g4,g5⟩
    ·simp only [e1,e2,zbJ,Option.bind_some];rw [zme (by omega)]
     simp only [Option.bind_some];rcases ih (((c.length:Int) - i').toNat) (by omega) (fun m' hm'=>hP m' (by omega)) (Tr.mk (38,(false,(0,()))) [a,a1]) (l'.length:Int) i' n' s (l'++[(38,false,0,b,b1,())])
      ⟨by omega,g2,c1,by omega,g4,s0,s1,by (first | omega | (simp only [List.length_append,List.length_cons,List.length_nil] at *; omega) | (simp;done) | (simp;omega))⟩ (Stn.put_two (x:=(38,false,0,b,b1,())) (.inl rfl) (g6.stn hab) g7) (Nat.le_refl _) with
      ⟨a2,b2,i2,n2,l3,w1,w2,w3,w4,w5,w6,w7,w8,w9⟩ | ⟨cd,pl,b2,i2,n2,l3,w1,w2,w3,w4,w5,w6,w7⟩
     ·exact .inl ⟨a2,b2,i2,n2,l3,w1,w2,by omega,w4,by omega,w6,by (first | omega | (simp only [List.length_append,List.length_cons,List.length_nil] at *; omega) | (simp;done) | (simp;omega)),Ext.trans (g6.put _) w8,w9⟩
     ·exact .inr ⟨cd,pl,b2,i2,n2,l3,w1,w2,w3,w4,w5,w6,by (first | omega | (simp only [List.length_append,List.length_cons,List.length_nil] at *; omega) | (simp;done) | (simp;omega))⟩
    ·simp only [e1,e2,za3,Option.bind_some];rw [zme (by omega)]
     simp only [Option.bind_some];rw [zwj g1 g2];exact .inr ⟨cd,pl,_,_,_,_,rfl,rfl,g1,g2,g3,g4,by (first | omega | (simp only [List.length_append,List.length_cons,List.length_nil] at *; omega) | (simp;done) | (simp;omega))⟩
  ·simp only [hb,Option.bind_some,decide_true,not_false_eq_true,decide_false,Bool.not_true,Bool.false_eq_true,if_true,if_false];exact .inl ⟨a,b,i,n,l,rfl,rfl,by omega,i1,by omega,n1,by omega,Ext.refl _,hab⟩
theorem zD4 {c:List UInt8} {m:Nat} (hP:∀ m' ≤ m,Part c m'):Term c m:=by
 intro i n s l hp hm;have hp':=hp;obtain ⟨i0,i1,c1,n0,n1,s0,s1,q1⟩:=hp;unfold zbq zbZ;rcases hP m (Nat.le_refl _) i n s l hp' hm with
  ⟨a1,b1,i',n',l',e1,e2,g1,g2,g3,g4,g5,g6,g7⟩ | ⟨cd,pl,b1,i',n',l',e1,e2,g1,g2,g3,g4,g5⟩
 ·simp only [e1,e2,zbJ,Option.bind_some];rcases zBw m (fun m' hm'=>hP m' (by omega)) a1 b1 i' n' s l' ⟨by omega,g2,c1,by omega,g4,s0,s1,by omega⟩ g7 (by omega) with
   ⟨a2,b2,i2,n2,l3,w1,w2,w3,w4,w5,w6,w7,w8,w9⟩ | ⟨cd,pl,b2,i2,n2,l3,w1,w2,w3,w4,w5,w6,w7⟩
  ·exact .inl ⟨a2,b2,i2,n2,l3,w1,w2,by omega,w4,by omega,w6,by omega,g6.trans w8,w9⟩
  ·exact .inr ⟨cd,pl,b2,i2,n2,l3,w1,w2,w3,w4,w5,w6,by omega⟩
 ·simp only [e1,e2,za3,Option.bind_some];rw [zwj g1 g2];exact .inr ⟨cd,pl,_,_,_,_,rfl,rfl,g1,g2,g3,g4,g5⟩
theorem zzV {c:List UInt8}:∀ m:Nat,(∀ m' < m,Term c m')->∀ a b i n s l,Pre c i n s l->Stn l a b->((c.length:Int) - i).toNat<=m->
  Sm c i n s l (zbn zaA a c i s n) (zbB zau b c i s n 0 0 l):=by
 intro m
 induction m using Nat.strongRecOn with
 | ind m ih=>
  intro hP a b i n s l hp hab hm;obtain ⟨i0,i1,c1,n0,n1,s0,s1,q1⟩:=hp;rw [zl1,ziN];unfold zbv zbC;rw [zzK i0,zwH i0];simp only [Option.bind_some];rw [r_ok];by_cases hb:nowT c i=124
  ·have hlt:i < c.length:=zoQ (by rw [hb];decide)
   simp only [hb,Option.bind_some,decide_true,not_true_eq_false,decide_false,Bool.not_true,Bool.false_eq_true,if_true,if_false];rw [zoS i0 i1 c1 ⟨n0,n1⟩,zpg i0 i1 c1 ⟨n0,n1⟩];by_cases hbad:30 < n+1
   ·simp only [hbad,if_true,za3,Option.bind_some];rw [zCp (by decide) (by omega)]
    simp only [Option.bind_some];rw [zme (by omega)]
    simp only [Option.bind_some];rw [ztM (by decide) (by omega)]
    exact .inr ⟨7,i,_,_,_,_,rfl,rfl,by decide,by omega,by omega,by omega,by (first | omega | (simp only [List.length_append,List.length_cons,List.length_nil] at *; omega) | (simp;done) | (simp;omega))⟩
   ·simp only [hbad,if_false,zbJ,Option.bind_some];rcases hP (((c.length:Int) - (i+1)).toNat) (by omega) (i+1) (n+1) s l ⟨by omega,by omega,c1,by omega,by omega,s0,s1,by omega⟩ (Nat.le_refl _) with
     ⟨a1,b1,i',n',l',e1,e2,g1,g2,g3,g4,g5,g6,g7⟩ | ⟨cd,pl,b1,i',n',l',e1,e2,g1,g2,g3,g4,g5⟩
    ·simp only [e1,e2,zbJ,Option.bind_some];rw [zme (by omega)]
     simp only [Option.bind_some];rcases ih (((c.length:Int) - i').toNat) (by omega) (fun m' hm'=>hP m' (by omega)) (Tr.mk (124,(false,(0,()))) [a,a1]) (l'.length:Int) i' n' s (l'++[(124,false,0,b,b1,())])
      ⟨by omega,g2,c1,by omega,g4,s0,s1,by (first | omega | (simp only [List.length_append,List.length_cons,List.length_nil] at *; omega) | (simp;done) | (simp;omega))⟩ (Stn.put_two (x:=(124,false,0,b,b1,())) (.inr (.inl rfl)) (g6.stn hab) g7) (Nat.le_refl _) with
      ⟨a2,b2,i2,n2,l3,w1,w2,w3,w4,w5,w6,w7,w8,w9⟩ | ⟨cd,pl,b2,i2,n2,l3,w1,w2,w3,w4,w5,w6,w7⟩
     ·exact .inl ⟨a2,b2,i2,n2,l3,w1,w2,by omega,w4,by omega,w6,by (first | omega | (simp only [List.length_append,List.length_cons,List.length_nil] at *; omega) | (simp;done) | (simp;omega)),Ext.trans (g6.put _) w8,w9⟩
     ·exact .inr ⟨cd,pl,b2,i2,n2,l3,w1,w2,w3,w4,w5,w6,by (first | omega | (simp only [List.length_append,List.length_cons,List.length_nil] at *; omega) | (simp;done) | (simp;omega))⟩
    ·simp only [e1,e2,za3,Option.bind_some];rw [zme (by omega)]
     simp only [Option.bind_some];rw [ztM g1 g2];exact .inr ⟨cd,pl,_,_,_,_,rfl,rfl,g1,g2,g3,g4,by (first | omega | (simp only [List.length_append,List.length_cons,List.length_nil] at *; omega) | (simp;done) | (simp;omega))⟩
  ·simp only [hb,Option.bind_some,decide_true,not_false_eq_true,decide_false,Bool.not_true,Bool.false_eq_true,if_true,if_false];exact .inl ⟨a,b,i,n,l,rfl,rfl,by omega,i1,by omega,n1,by omega,Ext.refl _,hab⟩
theorem zCg {c:List UInt8} {m:Nat} (hP:∀ m' ≤ m,Term c m'):zz0 c m:=by
 intro i n s l hp hm;have hp':=hp;obtain ⟨i0,i1,c1,n0,n1,s0,s1,q1⟩:=hp;unfold zaS zbc;rcases hP m (Nat.le_refl _) i n s l hp' hm with
  ⟨a1,b1,i',n',l',e1,e2,g1,g2,g3,g4,g5,g6,g7⟩ | ⟨cd,pl,b1,i',n',l',e1,e2,g1,g2,g3,g4,g5⟩
 ·simp only [e1,e2,zbJ,Option.bind_some];rcases zzV m (fun m' hm'=>hP m' (by omega)) a1 b1 i' n' s l' ⟨by omega,g2,c1,by omega,g4,s0,s1,by omega⟩ g7 (by omega) with
   ⟨a2,b2,i2,n2,l3,w1,w2,w3,w4,w5,w6,w7,w8,w9⟩ | ⟨cd,pl,b2,i2,n2,l3,w1,w2,w3,w4,w5,w6,w7⟩
  ·exact .inl ⟨a2,b2,i2,n2,l3,w1,w2,by omega,w4,by omega,w6,by omega,g6.trans w8,w9⟩
  ·exact .inr ⟨cd,pl,b2,i2,n2,l3,w1,w2,w3,w4,w5,w6,by omega⟩
 ·simp only [e1,e2,za3,Option.bind_some];rw [ztM g1 g2];exact .inr ⟨cd,pl,_,_,_,_,rfl,rfl,g1,g2,g3,g4,g5⟩
theorem zEn {c:List UInt8} {i n s f a:Int} {l:L5} (hf:f≠0) (h0:0<=i/\i<=5000) (hs:0<=s/\s<=40):zdn c i s n f a l=some (c,i+1,s+1,n,l,f,a):=by
 have f1:fits (s+1):=zaE (by omega) (by omega)
 have f2:fits (i+1):=zaE (by omega) (by omega)
 have f4:fits (41:Int):=zaE (by omega) (by omega)
 unfold zdn;by_cases h:s=40
 ·subst h;simp [zqm,hf,zad f4,zad f2]
 ·simp [h,zad f1,zad f2]
theorem zC0 {c:List UInt8} {i n s f a ch:Int} {l:L5} {al t:Bool} (hf:f≠0) (h0:0<=i/\i<=4900) (hs:0<=s/\s<=40) (hl:l.length<=900):
  ∃ b i' l',zaR zau al c i s n l f a ch t=some (b,c,i',s,n,l',f,a)/\i<=i'/\i'<=i+3/\l'.length<=l.length+1:=by
 unfold zaR
 cases t with
 | true=>
  simp only [if_true];rw [zad (zaE (by omega) (by omega)),zyU hf]
  simp only [Option.bind_some];rw [zme (by omega)]
  simp only [Option.bind_some];exact ⟨_,_,_,rfl,by omega,by omega,by simp⟩
 | false=>
  by_cases h:ch=40
  ·simp only [h,Bool.false_eq_true,if_false,not_true_eq_false,decide_false];rw [zEn hf (by omega) hs]
   simp only [Option.bind_some];rw [zqC hf (by omega)]
   simp only [Option.bind_some];rw [zp7 hf (by omega)]
   simp only [Option.bind_some];rw [zqC hf (by omega)]
   simp only [Option.bind_some];rw [zp7 hf (by omega)]
   simp only [Option.bind_some];rw [zad (zaE (by omega) (by omega)),zme (by omega)]
   have es:s+1 - 1=s:=by omega
   simp only [es,Option.bind_some];exact ⟨_,_,_,rfl,by omega,by omega,by simp⟩
  ·simp only [h,Bool.false_eq_true,if_false,not_false_eq_true,decide_true,if_true];rw [zqm,if_neg hf];exact ⟨_,_,_,rfl,by simp,by simp;omega,by simp⟩
theorem zCv {c:List UInt8} {i n s:Int} (h0:0<=i/\i<=5000) (hs:0<=s/\s<=40):zdJ c i (s+1) n=if nowT c i=41 then some (.inl (c,i+1,s,n)) else some (.inr (4,i)):=by
 unfold zdJ;rw [zCw h0];have es:s+1 - 1=s:=by omega
 have fs:fits s:=zaE (by omega) (by omega)
 by_cases h:nowT c i=41
 ·simp only [h,if_true,zbJ,es];exact zad fs
 ·simp only [h,if_false,za3]
theorem waysJ {c:List UInt8} {m:Nat} (hP:∀ m' < m,Part c m') (hW:∀ m' < m,zz0 c m') {al t:Bool} {i n s:Int} {l:L5} (hn:0<=n) (hp:Pre c i (n+1) s l) (hl:(l.length:Int)<=n) (hm:((c.length:Int) - i).toNat < m) (ht:t=true->nowT c i=88\/nowT c i=70\/nowT c i=71):
  Sm c i n s l (za1 zaA al c i s (n+1) (nowT c i) t) (zaR zau al c i s (n+1) l 0 0 (nowT c i) t):=by
 obtain ⟨i0,i1,c1,n0,n1,s0,s1,q1⟩:=hp;unfold za1 zaR;have es:s+1 - 1=s:=by omega
 have fs:fits s:=zaE (by omega) (by omega)
 cases t with
 | true=>
  have hlt:i < c.length:=zoQ (by have:=ht rfl;omega)
  have fi:fits (i+1):=zaE (by omega) (by omega)
  simp only [if_true,zad fi];rcases hP (((c.length:Int) - (i+1)).toNat) (by omega) (i+1) (n+1) s l ⟨by omega,by omega,c1,by omega,by omega,s0,s1,by omega⟩ (Nat.le_refl _) with
   ⟨a1,b1,i',n',l',e1,e2,g1,g2,g3,g4,g5,g6,g7⟩ | ⟨cd,pl,b1,i',n',l',e1,e2,g1,g2,g3,g4,g5⟩
  ·simp only [e1,e2,zbJ,Option.bind_some];rw [zme (by omega)]
   simp only [Option.bind_some];exact .inl ⟨_,_,_,_,_,rfl,rfl,by omega,g2,by omega,g4,by (first | omega | (simp only [List.length_append,List.length_cons,List.length_nil] at *; omega) | (simp;done) | (simp;omega)),g6.put _,Stn.put_one (x:=(nowT c i,al,0,b1,0,())) (.inr (ht rfl)) g7⟩
  ·simp only [e1,e2,za3,Option.bind_some];rw [zme (by omega)]
   simp only [Option.bind_some];exact .inr ⟨cd,pl,_,_,_,_,rfl,rfl,g1,g2,g3,g4,by (first | omega | (simp only [List.length_append,List.length_cons,List.length_nil] at *; omega) | (simp;done) | (simp;omega))⟩
 | false=>
  by_cases h40:nowT c i=40
  ·have hlt:i < c.length:=zoQ (by rw [h40];decide)
   simp only [h40,Bool.false_eq_true,if_false,decide_true,if_true,not_true_eq_false,decide_false];rw [zCu (by omega) ⟨s0,s1⟩,zCx (by omega) ⟨s0,s1⟩]
   by_cases hs:s=40
   ·simp only [hs,if_true,za3,Option.bind_some];rw [zqC (by decide) (by omega)]
    simp only [Option.bind_some];rw [zp7 (by decide) (by omega)]
    simp only [Option.bind_some];rw [zqC (by decide) (by omega)]
    simp only [Option.bind_some];rw [zp7 (by decide) (by omega)]
    simp only [Option.bind_some];rw [zad (zaE (by omega) (by omega)),zme (by omega)]
    simp only [Option.bind_some];exact .inr ⟨7,i,_,_,_,_,rfl,rfl,by decide,by omega,by omega,by omega,by (first | omega | (simp only [List.length_append,List.length_cons,List.length_nil] at *; omega) | (simp;done) | (simp;omega))⟩
   ·simp only [hs,if_false,zbJ,Option.bind_some];rcases hW (((c.length:Int) - (i+1)).toNat) (by omega) (i+1) (n+1) (s+1) l ⟨by omega,by omega,c1,by omega,by omega,by omega,by omega,by omega⟩ (Nat.le_refl _) with
     ⟨a1,b1,i',n',l',e1,e2,g1,g2,g3,g4,g5,g6,g7⟩ | ⟨cd,pl,b1,i',n',l',e1,e2,g1,g2,g3,g4,g5⟩
    ·simp only [e1,e2,zbJ,Option.bind_some];rw [zCw (by omega),zBk (by omega)]
     by_cases h85:nowT c i'=85
     ·have hlt2:i' < c.length:=zoQ (by rw [h85];decide)
      simp only [h85,if_true,zbJ,Option.bind_some];rcases hW (((c.length:Int) - (i'+1)).toNat) (by omega) (i'+1) n' (s+1) l' ⟨by omega,by omega,c1,by omega,by omega,by omega,by omega,by omega⟩ (Nat.le_refl _) with
       ⟨a2,b2,i2,n2,l2,w1,w2,v1,v2,v3,v4,v5,v6,v7⟩ | ⟨cd,pl,b2,i2,n2,l2,w1,w2,v1,v2,v3,v4,v5⟩
      ·simp only [w1,w2,zbJ,Option.bind_some];rw [zCv (by omega) ⟨s0,s1⟩,zBk (by omega)]
       by_cases h41:nowT c i2=41
       ·have hlt3:i2 < c.length:=zoQ (by rw [h41];decide)
        simp only [h41,if_true,zbJ,Option.bind_some,es,zad fs];rw [zme (by omega)]
        simp only [Option.bind_some];exact .inl ⟨_,_,_,_,_,rfl,rfl,by omega,by omega,by omega,v4,by (first | omega | (simp only [List.length_append,List.length_cons,List.length_nil] at *; omega) | (simp;done) | (simp;omega)),(g6.trans v6).put _,Stn.put_two (x:=(85,al,0,b1,b2,())) (.inr (.inr rfl)) (v6.stn g7) v7⟩
       ·simp only [h41,if_false,za3,Option.bind_some,es,zad fs];rw [zme (by omega)]
        simp only [Option.bind_some];exact .inr ⟨4,i2,_,_,_,_,rfl,rfl,by decide,by omega,by omega,by omega,by (first | omega | (simp only [List.length_append,List.length_cons,List.length_nil] at *; omega) | (simp;done) | (simp;omega))⟩
      ·simp only [w1,w2,za3,Option.bind_some];rw [zp7 v1 (by omega)]
       simp only [Option.bind_some,es,zad fs];rw [zme (by omega)]
       simp only [Option.bind_some];exact .inr ⟨cd,pl,_,_,_,_,rfl,rfl,v1,by omega,by omega,v4,by (first | omega | (simp only [List.length_append,List.length_cons,List.length_nil] at *; omega) | (simp;done) | (simp;omega))⟩
     ·simp only [h85,if_false,za3,Option.bind_some];rw [zqC (by decide) (by omega)]
      simp only [Option.bind_some];rw [zp7 (by decide) (by omega)]
      simp only [Option.bind_some,es,zad fs];rw [zme (by omega)]
      simp only [Option.bind_some];exact .inr ⟨4,i',_,_,_,_,rfl,rfl,by decide,by omega,by omega,by omega,by (first | omega | (simp only [List.length_append,List.length_cons,List.length_nil] at *; omega) | (simp;done) | (simp;omega))⟩
    ·simp only [e1,e2,za3,Option.bind_some];rw [zp7 g1 (by omega)]
     simp only [Option.bind_some];rw [zqC g1 (by omega)]
     simp only [Option.bind_some];rw [zp7 g1 (by omega)]
     simp only [Option.bind_some,es,zad fs];rw [zme (by omega)]
     simp only [Option.bind_some];exact .inr ⟨cd,pl,_,_,_,_,rfl,rfl,g1,by omega,by omega,g4,by (first | omega | (simp only [List.length_append,List.length_cons,List.length_nil] at *; omega) | (simp;done) | (simp;omega))⟩
  ·simp only [h40,Bool.false_eq_true,if_false,not_false_eq_true,decide_true,decide_false,if_true,zuA,za3,zqm,Option.bind_some];exact .inr ⟨4,i,_,_,_,_,rfl,rfl,by decide,by omega,by omega,by omega,by omega⟩
theorem zD8 {c:List UInt8} {m:Nat} (hP:∀ m' < m,Part c m') (hW:∀ m' < m,zz0 c m') {al:Bool} {i n s:Int} {l:L5} (hp:Pre c i n s l) (hlt:i < c.length) (hm:((c.length:Int) - i).toNat<=m):
  Sm c i n s l (zce zaA al c i s n) (zdo zau al c i s n 0 0 l):=by
 obtain ⟨i0,i1,c1,n0,n1,s0,s1,q1⟩:=hp;unfold zce zdo;rw [zoS i0 i1 c1 ⟨n0,n1⟩,zpg i0 i1 c1 ⟨n0,n1⟩];by_cases hbad:30 < n+1
 ·simp only [hbad,if_true,za3,Option.bind_some];rw [zwH (by omega)]
  simp only [Option.bind_some];have key:∀ t,Sm c i n s l (some (.inr (7,i))) (zaR zau al c (i+1) s (n+1) l 7 i (nowT c (i+1)) t):=by
   intro t;obtain ⟨b,i',l',e,g1,g2,g3⟩:=zC0 (c:=c) (i:=i+1) (n:=n+1) (s:=s) (f:=7) (a:=i) (ch:=nowT c (i+1)) (l:=l) (al:=al) (t:=t) (by decide) (by omega) ⟨s0,s1⟩ (by omega)
   rw [e];exact .inr ⟨7,i,b,i',n+1,l',rfl,rfl,by decide,by omega,by omega,by omega,by omega⟩
  split
  ·exact key _
  ·split
   ·exact key _
   ·exact key _
 ·simp only [hbad,if_false,zbJ,Option.bind_some];rw [zzK (by omega),zwH (by omega)]
  simp only [Option.bind_some];have key:∀ t,(t=true->nowT c (i+1)=88\/nowT c (i+1)=70\/nowT c (i+1)=71)->Sm c i n s l (za1 zaA al c (i+1) s (n+1) (nowT c (i+1)) t) (zaR zau al c (i+1) s (n+1) l 0 0 (nowT c (i+1)) t):=by
   intro t ht;rcases waysJ hP hW (al:=al) (t:=t) (i:=i+1) (n:=n) (s:=s) (l:=l) n0 ⟨by omega,by omega,c1,by omega,by omega,s0,s1,by omega⟩ q1 (by omega) ht with
    ⟨a1,b1,i',n',l',e1,e2,g1,g2,g3,g4,g5,g6,g7⟩ | ⟨cd,pl,b1,i',n',l',e1,e2,g1,g2,g3,g4,g5⟩
   ·exact .inl ⟨a1,b1,i',n',l',e1,e2,by omega,g2,by omega,g4,by omega,g6,g7⟩
   ·exact .inr ⟨cd,pl,b1,i',n',l',e1,e2,g1,g2,g3,g4,g5⟩
  by_cases h88:nowT c (i+1)=88
  ·have:=key true (fun _ => .inl h88)
   simpa [h88] using this
  ·by_cases h70:nowT c (i+1)=70
   ·have:=key true (fun _ => .inr (.inl h70))
    simpa [h70] using this
   ·have:=key (decide (nowT c (i+1)=71)) (fun h => .inr (.inr (of_decide_eq_true h)))
    simpa [h88,h70] using this
theorem zBC {n:Nat} (h:n < 9223372036854775808):IntKind.wrap .i64 (n:Int)=n:=by
 unfold IntKind.wrap;simp [IntKind.bits,IntKind.signed];omega
theorem wr64 {x:Int} (h0:0<=x) (h1:x<=1000):IntKind.wrap .i64 x=x:=by
 obtain ⟨n,rfl⟩:=Int.eq_ofNat_of_zero_le h0;exact zBC (by omega)
theorem wru8 {x:Int} (h0:0<=x) (h1:x<=100):IntKind.wrap .i64 (IntKind.wrap .u8 x)=x:=by
 have e:IntKind.wrap .u8 x=x:=by
  unfold IntKind.wrap;simp [IntKind.bits,IntKind.signed];omega
 rw [e];exact wr64 h0 (by omega)
theorem zDg {c:List UInt8} {m:Nat} (hP:∀ m' < m,Part c m') (hW:∀ m' < m,zz0 c m'):Part c m:=by
 intro i n s l hp hm;have hp':=hp;obtain ⟨i0,i1,c1,n0,n1,s0,s1,q1⟩:=hp;rw [zjj,zlH];unfold zbK zcF;rw [zzK i0,r_ok,zwH i0];simp only [Option.bind_some,decide_true,Bool.not_true,Bool.false_eq_true,if_false];have es:s+1 - 1=s:=by omega
 have fs:fits s:=zaE (by omega) (by omega)
 have leaf:∀ (k v:Int),nowT c i≠0->(k=48\/k=49\/k=97)->Sm c i n s l (pbind (zaO c i s n) (fun y=>some (.inl (Tr.mk (k,(false,(v,()))) [],y.1,y.2.1,y.2.2.1,y.2.2.2))) (fun p=>some (.inr (p.1,p.2))))
   ((zbg c i s n 0 0 l).bind fun y=>(zbY (k,(false,(v,(0,(0,()))))) y.1 y.2.1 y.2.2.1 y.2.2.2.1 y.2.2.2.2.2.1 y.2.2.2.2.2.2 y.2.2.2.2.1).bind fun y=>some (y.1,y.2.1,y.2.2.1,y.2.2.2.1,y.2.2.2.2.1,y.2.2.2.2.2.1,y.2.2.2.2.2.2.1,y.2.2.2.2.2.2.2)):=by
  intro k v h hk;have hlt:=zoQ h;rw [zoS i0 i1 c1 ⟨n0,n1⟩,zpg i0 i1 c1 ⟨n0,n1⟩];by_cases hbad:30 < n+1
  ·simp only [hbad,if_true,za3,Option.bind_some];rw [zme (by omega)]
   simp only [Option.bind_some];exact .inr ⟨7,i,_,_,_,_,rfl,rfl,by decide,by omega,by omega,by omega,by (first | omega | (simp only [List.length_append,List.length_cons,List.length_nil] at *; omega) | (simp;done) | (simp;omega))⟩
  ·simp only [hbad,if_false,zbJ,Option.bind_some];rw [zme (by omega)]
   simp only [Option.bind_some];exact .inl ⟨_,_,_,_,_,rfl,rfl,by omega,by omega,by omega,by omega,by (first | omega | (simp only [List.length_append,List.length_cons,List.length_nil] at *; omega) | (simp;done) | (simp;omega)),Ext.snoc _ _,Stn.put_leaf (x:=(k,false,v,0,0,())) hk⟩
 have j2:∀ t,(t=true->nowT c i=48\/nowT c i=49)->Sm c i n s l (zbh zaA c i s n (nowT c i) t) (zcq zau c i s n 0 0 l (nowT c i) t):=by
  intro t ht;unfold zbh zcq
  cases t with
  | true=>simp only [if_true];exact leaf _ _ (by have:=ht rfl;omega) (by have:=ht rfl;omega)
  | false=>
   simp only [Bool.false_eq_true,if_false];have j5:∀ t,(t=true->97<=nowT c i/\nowT c i<=100)->Sm c i n s l (zbi zaA c i s n (nowT c i) t) (zcr zau c i s n 0 0 l (nowT c i) t):=by
    intro t ht;unfold zbi zcr
    cases t with
    | true=>
     obtain ⟨h1,h2⟩:=ht rfl;have fw:fits (IntKind.wrap .i64 (nowT c i) - 97):=by rw [wr64 (by omega) (by omega)];exact zaE (by omega) (by omega)
     simp only [if_true,zad fw];rw [wr64 (x:=nowT c i) (by omega) (by omega),wru8 (x:=nowT c i - 97) (by omega) (by omega)];exact leaf _ _ (by omega) (.inr (.inr rfl))
    | false=>
     simp only [Bool.false_eq_true,if_false];by_cases h33:nowT c i=33
     ·have hlt:i < c.length:=zoQ (by rw [h33];decide)
      simp only [h33,decide_true,if_true];rw [zoS i0 i1 c1 ⟨n0,n1⟩,zpg i0 i1 c1 ⟨n0,n1⟩];by_cases hbad:30 < n+1
      ·simp only [hbad,if_true,za3,Option.bind_some];rw [zyU (by decide)]
       simp only [Option.bind_some];rw [zme (by omega)]
       simp only [Option.bind_some];exact .inr ⟨7,i,_,_,_,_,rfl,rfl,by decide,by omega,by omega,by omega,by (first | omega | (simp only [List.length_append,List.length_cons,List.length_nil] at *; omega) | (simp;done) | (simp;omega))⟩
      ·simp only [hbad,if_false,zbJ,Option.bind_some];rcases hP (((c.length:Int) - (i+1)).toNat) (by omega) (i+1) (n+1) s l ⟨by omega,by omega,c1,by omega,by omega,s0,s1,by omega⟩ (Nat.le_refl _) with
        ⟨a1,b1,i',n',l',e1,e2,g1,g2,g3,g4,g5,g6,g7⟩ | ⟨cd,pl,b1,i',n',l',e1,e2,g1,g2,g3,g4,g5⟩
       ·simp only [e1,e2,zbJ,Option.bind_some];rw [zme (by omega)]
        simp only [Option.bind_some];exact .inl ⟨_,_,_,_,_,rfl,rfl,by omega,g2,by omega,g4,by (first | omega | (simp only [List.length_append,List.length_cons,List.length_nil] at *; omega) | (simp;done) | (simp;omega)),g6.put _,Stn.put_one (x:=(33,false,0,b1,0,())) (.inl rfl) g7⟩
       ·simp only [e1,e2,za3,Option.bind_some];rw [zme (by omega)]
        simp only [Option.bind_some];exact .inr ⟨cd,pl,_,_,_,_,rfl,rfl,g1,g2,g3,g4,by (first | omega | (simp only [List.length_append,List.length_cons,List.length_nil] at *; omega) | (simp;done) | (simp;omega))⟩
     ·simp only [h33,decide_false,Bool.false_eq_true,if_false];have j11:∀ t,(t=true->nowT c i≠0)->Sm c i n s l (za8 zaA c i s n (nowT c i) t) (zb5 zau c i s n 0 0 l (nowT c i) t):=by
       intro t ht;unfold za8 zb5
       cases t with
       | true=>
        simp only [if_true];rcases zD8 hP hW (al:=decide (nowT c i=65)) hp' (zoQ (ht rfl)) hm with
         ⟨a1,b1,i',n',l',e1,e2,g1,g2,g3,g4,g5,g6,g7⟩ | ⟨cd,pl,b1,i',n',l',e1,e2,g1,g2,g3,g4,g5⟩
        ·simp only [e1,e2,zbJ,Option.bind_some];exact .inl ⟨_,_,_,_,_,rfl,rfl,g1,g2,g3,g4,g5,g6,g7⟩
        ·simp only [e1,e2,za3,Option.bind_some];exact .inr ⟨cd,pl,_,_,_,_,rfl,rfl,g1,g2,g3,g4,g5⟩
       | false=>
        simp only [Bool.false_eq_true,if_false];by_cases h40:nowT c i=40
        ·have hlt:i < c.length:=zoQ (by rw [h40];decide)
         simp only [h40,not_true_eq_false,decide_false,Bool.false_eq_true,if_false];unfold zbS;rw [zCu (by omega) ⟨s0,s1⟩,zCx (by omega) ⟨s0,s1⟩]
         by_cases hs:s=40
         ·simp only [hs,if_true,za3,Option.bind_some];rw [zqC (by decide) (by omega)]
          simp only [Option.bind_some];rw [zp7 (by decide) (by omega)]
          simp only [Option.bind_some];rw [zad (zaE (by omega) (by omega))]
          exact .inr ⟨7,i,_,_,_,_,rfl,rfl,by decide,by omega,by omega,by omega,by omega⟩
         ·simp only [hs,if_false,zbJ,Option.bind_some];rcases hW (((c.length:Int) - (i+1)).toNat) (by omega) (i+1) n (s+1) l ⟨by omega,by omega,c1,by omega,by omega,by omega,by omega,by omega⟩ (Nat.le_refl _) with
           ⟨a1,b1,i',n',l',e1,e2,g1,g2,g3,g4,g5,g6,g7⟩ | ⟨cd,pl,b1,i',n',l',e1,e2,g1,g2,g3,g4,g5⟩
          ·simp only [e1,e2,zbJ,Option.bind_some];rw [zCv (by omega) ⟨s0,s1⟩,zBk (by omega)]
           by_cases h41:nowT c i'=41
           ·have hlt3:i' < c.length:=zoQ (by rw [h41];decide)
            simp only [h41,if_true,zbJ,Option.bind_some,es,zad fs];exact .inl ⟨_,_,_,_,_,rfl,rfl,by omega,by omega,by omega,g4,by omega,g6,g7⟩
           ·simp only [h41,if_false,za3,Option.bind_some,es,zad fs];exact .inr ⟨4,i',_,_,_,_,rfl,rfl,by decide,by omega,by omega,by omega,by omega⟩
          ·simp only [e1,e2,za3,Option.bind_some];rw [zp7 g1 (by omega)]
           simp only [Option.bind_some,es,zad fs];exact .inr ⟨cd,pl,_,_,_,_,rfl,rfl,g1,by omega,by omega,g4,by omega⟩
        ·simp only [h40,not_false_eq_true,decide_true,if_true,zuA,za3,zqm,Option.bind_some];exact .inr ⟨4,i,_,_,_,_,rfl,rfl,by decide,by omega,by omega,by omega,by omega⟩
      by_cases h69:nowT c i=69
      ·have:=j11 true (fun _=>by rw [h69];decide)
       simpa [h69] using this
      ·have:=j11 (decide (nowT c i=65)) (fun h=>by rw [of_decide_eq_true h];decide)
       simpa [h69] using this
   by_cases h97:97<=nowT c i
   ·have:=j5 (decide (nowT c i<=100)) (fun h=>⟨h97,of_decide_eq_true h⟩)
    simpa [h97] using this
   ·have:=j5 false (fun h=>by cases h)
    simpa [h97] using this
 by_cases h48:nowT c i=48
 ·have:=j2 true (fun _ => .inl h48)
  simpa [h48] using this
 ·have:=j2 (decide (nowT c i=49)) (fun h => .inr (of_decide_eq_true h))
  simpa [h48] using this
theorem zEd {c:List UInt8}:∀ m:Nat,Part c m/\zz0 c m:=by
 intro m
 induction m using Nat.strongRecOn with
 | ind m ih=>
  have hP:Part c m:=zDg (fun m' h=>(ih m' h).1) (fun m' h=>(ih m' h).2)
  have hP':∀ m' ≤ m,Part c m':=fun m' h=>by
   rcases Nat.lt_or_eq_of_le h with h | rfl
   ·exact (ih m' h).1
   ·exact hP
  have hT:∀ m' ≤ m,Term c m':=fun m' h=>zD4 fun m'' h'=>hP' m'' (Nat.le_trans h' h)
  exact ⟨hP,zCg hT⟩
theorem zvD (c:List UInt8):(∃ a b l,zbN c=some (a,(0,(0,())))/\zkE c=some (b,(0,(0,())),l)/\(l.length:Int)<=30/\Stn l a b)
  \/(∃ a cd pl,zbN c=some (a,(cd,(pl,())))/\zkE c=some (0,(cd,(pl,())),[])/\cd≠0):=by
 unfold zbN zkE;by_cases hc:(4000:Int) < c.length
 ·simp only [hc,decide_true,if_true,Option.bind_some];exact .inr ⟨_,1,0,rfl,rfl,by decide⟩
 ·simp only [hc,decide_false,Bool.false_eq_true,if_false];unfold zfb zlN;rcases (zEd (c:=c) (((c.length:Int) - 0).toNat)).2 0 0 0 [] ⟨by omega,by omega,by omega,by omega,by omega,by omega,by omega,by simp⟩ (Nat.le_refl _) with
   ⟨a1,b1,i',n',l',e1,e2,g1,g2,g3,g4,g5,g6,g7⟩ | ⟨cd,pl,b1,i',n',l',e1,e2,g1,g2,g3,g4,g5⟩
  ·simp only [e1,e2,zbJ,Option.bind_some];by_cases hi:i' < (c.length:Int)
   ·simp only [hi,decide_true,if_true,zuA,za3,zqm,Option.bind_some,Int.reduceEq,not_false_eq_true];exact .inr ⟨_,4,i',rfl,rfl,by decide⟩
   ·simp only [hi,decide_false,Bool.false_eq_true,if_false,not_true_eq_false,Option.bind_some];exact .inl ⟨_,_,_,rfl,rfl,by simp at g5;omega,g7⟩
  ·simp only [e1,e2,za3,Option.bind_some];by_cases hi:i' < (c.length:Int)
   ·simp only [hi,decide_true,if_true,zqm,g1,if_false,not_false_eq_true,Option.bind_some];exact .inr ⟨_,cd,pl,rfl,rfl,g1⟩
   ·simp only [hi,decide_false,Bool.false_eq_true,if_false,g1,not_false_eq_true,decide_true,if_true,Option.bind_some];exact .inr ⟨_,cd,pl,rfl,rfl,g1⟩
def zc2 (o:Option Bool) (P:Prop):Prop:=∃ b,o=some b/\(b=true↔P)
theorem zc2.of {b:Bool} {P:Prop} (h:b=true↔P):zc2 (some b) P:=⟨b,rfl,h⟩
theorem zc2.dec {P Q:Prop} [Decidable P] (h:P↔Q):zc2 (some (decide P)) Q:=⟨_,rfl,by simpa using h⟩
theorem zc2.iff {o:Option Bool} {P Q:Prop} (h:zc2 o P) (k:P↔Q):zc2 o Q:=let ⟨b,h1,h2⟩:=h;⟨b,h1,h2.trans k⟩
theorem zc2.eq {o:Option Bool} {P:Prop} [Decidable P] (h:zc2 o P):o=some (decide P):=by
 obtain ⟨b,rfl,hb⟩:=h;by_cases hp:P
 ·simp [hp,hb.2 hp]
 ·have:b=false:=by cases b;rfl;exact absurd (hb.1 rfl) hp
  simp [hp,this]
theorem zc2.to {R:Type} {o:Option Bool} {P:Prop} {k1 k2 x:Option R} (h:zc2 o P) (h1:P->k1=x) (h2 : ¬ P->k2=x):(o.bind fun y=>if y=true then k1 else k2)=x:=by
 obtain ⟨b,rfl,hb⟩:=h;refine zav rfl ?_
 cases b
 ·exact h2 fun hp=>by simpa using hb.2 hp
 ·exact h1 (hb.1 rfl)
theorem zc2.bind {R:Type} {o:Option Bool} {P:Prop} {k:Bool->Option R} {x:Option R} (h:zc2 o P) (h1:∀ b,(b=true↔P)->k b=x):o.bind k=x:=by
 obtain ⟨b,rfl,hb⟩:=h;exact h1 b hb
section
variable {α C:Type} [Inhabited α]
theorem zoH {l:List α} {P:α->Prop}:(∃ x∈l,P x)↔∃ i:Int,0<=i/\i < l.length/\P (ix l i):=by
 constructor
 ·rintro ⟨x,hx,hp⟩;obtain ⟨i,hi,rfl⟩:=List.mem_iff_getElem.1 hx;refine ⟨i,by omega,by omega,?_⟩
  rwa [zus (by omega) (by omega)]
 ·rintro ⟨i,h0,h1,hp⟩;exact ⟨_,zeS h0 h1,hp⟩
theorem zkg {s:List α} {f:α->Option Bool} {L:Int->Option Int} {P:α->Prop} (hs:s.length<=4611686018427387904)
  (hL:∀ t,L t=if decide (t < (s.length:Int))=true then G (0<=t/\t < (s.length:Int)) ((f (ix s t)).bind fun y=>if y=true then some t else G (fits (t+1)) (L (t+1))) else some (-1))
  (hf:∀ x∈s,zc2 (f x) (P x)):∀ (n:Nat) (t:Int),0<=t->t<=s.length->(s.length - t).toNat=n->
   ∃ i,L t=some i/\((i = -1/\∀ j:Int,t<=j->j < s.length -> ¬ P (ix s j))\/(t<=i/\i < s.length/\P (ix s i)/\∀ j:Int,t<=j->j < i -> ¬ P (ix s j))):=by
 intro n
 induction n with
 | zero=>
  intro t h0 h1 hn;refine ⟨-1,?_,.inl ⟨rfl,fun j a b=>by omega⟩⟩
  rw [hL,if_neg (by simp;omega)]
 | succ n ih=>
  intro t h0 h1 hn;rw [hL,if_pos (by simp;omega),zad (by omega)]
  obtain ⟨b,hb,hbp⟩:=hf _ (zeS h0 (by omega:t < s.length))
  rw [hb]
  cases b with
  | true=>exact ⟨t,rfl,.inr ⟨by omega,by omega,hbp.1 rfl,fun j a b=>by omega⟩⟩
  | false=>
   have hnp : ¬ P (ix s t):=fun hp=>by simpa using hbp.2 hp
   obtain ⟨i,hi,hc⟩:=ih (t+1) (by omega) (by omega) (by omega)
   refine ⟨i,?_,?_⟩
   ·refine (if_neg (by simp):(if false=true then some t else G (fits (t+1)) (L (t+1)))=_).trans ?_
    rw [zad (by unfold fits;omega),hi]
   ·rcases hc with ⟨h2,h3⟩ | ⟨h2,h3,h4,h5⟩
    ·refine .inl ⟨h2,fun j a b => ?_⟩
     by_cases e:j=t
     ·rw [e];exact hnp
     ·exact h3 j (by omega) b
    ·refine .inr ⟨by omega,h3,h4,fun j a b => ?_⟩
     by_cases e:j=t
     ·rw [e];exact hnp
     ·exact h5 j (by omega) b
theorem zjc {s:List α} {f:α->Option Bool} {L:Int->Option Int} {P:α->Prop}
  (hL:∀ t,L t=if decide (t < (s.length:Int))=true then G (0<=t/\t < (s.length:Int)) ((f (ix s t)).bind fun y=>if y=true then some t else G (fits (t+1)) (L (t+1))) else some (-1))
  (hs:s.length<=4611686018427387904) (hf:∀ x∈s,zc2 (f x) (P x)):zc2 ((L 0).bind fun y=>some (decide ((0:Int)<=y))) (∃ x∈s,P x):=by
 obtain ⟨i,hi,hc⟩:=zkg hs hL hf _ 0 (by omega) (by omega) rfl
 rw [hi];refine ⟨decide (0<=i),rfl,?_⟩
 rw [decide_eq_true_iff,zoH];rcases hc with ⟨h2,h3⟩ | ⟨h2,h3,h4,h5⟩
 ·constructor
  ·intro h;omega
  ·rintro ⟨j,h0,h1,hp⟩;exact absurd hp (h3 j h0 h1)
 ·exact ⟨fun _=>⟨i,by omega,h3,h4⟩,fun _=>by omega⟩
theorem zua {s:List α} {c:C} {f:α->C->Option (Bool×C)} {L:Int->C->Option (Int×C)} {P:α->Prop}
  (hL:∀ t c,L t c=if decide (t < (s.length:Int))=true then G (0<=t/\t < (s.length:Int)) ((f (ix s t) c).bind fun y=>if y.1=true then some (t,y.2) else G (fits (t+1)) (L (t+1) y.2)) else some (-1,c))
  (hs:s.length<=4611686018427387904) (hf:∀ x∈s,∃ b,f x c=some (b,c)/\(b=true↔P x)):∃ b,((L 0 c).bind fun y=>some (decide ((0:Int)<=y.1),y.2))=some (b,c)/\(b=true↔∃ x∈s,P x):=by
 have key:∀ (n:Nat) (t:Int),0<=t->t<=s.length->(s.length - t).toNat=n->
   ∃ i,L t c=some (i,c)/\((i = -1/\∀ j:Int,t<=j->j < s.length -> ¬ P (ix s j))\/(t<=i/\i < s.length/\P (ix s i))):=by
  intro n
  induction n with
  | zero=>
   intro t h0 h1 hn;refine ⟨-1,?_,.inl ⟨rfl,fun j a b=>by omega⟩⟩
   rw [hL,if_neg (by simp;omega)]
  | succ n ih=>
   intro t h0 h1 hn;rw [hL,if_pos (by simp;omega),zad (by omega)]
   obtain ⟨b,hb,hbp⟩:=hf _ (zeS h0 (by omega:t < s.length))
   rw [hb]
   cases b with
   | true=>exact ⟨t,rfl,.inr ⟨by omega,by omega,hbp.1 rfl⟩⟩
   | false=>
    have hnp : ¬ P (ix s t):=fun hp=>by simpa using hbp.2 hp
    obtain ⟨i,hi,hc⟩:=ih (t+1) (by omega) (by omega) (by omega)
    refine ⟨i,?_,?_⟩
    ·refine (if_neg (by simp):(if false=true then some (t,c) else G (fits (t+1)) (L (t+1) c))=_).trans ?_
     rw [zad (by unfold fits;omega),hi]
    ·rcases hc with ⟨h2,h3⟩ | ⟨h2,h3,h4⟩
     ·refine .inl ⟨h2,fun j a b => ?_⟩
      by_cases e:j=t
      ·rw [e];exact hnp
      ·exact h3 j (by omega) b
     ·exact .inr ⟨by omega,h3,h4⟩
 obtain ⟨i,hi,hc⟩:=key _ 0 (by omega) (by omega) rfl
 rw [hi];refine ⟨decide (0<=i),rfl,?_⟩
 rw [decide_eq_true_iff,zoH];rcases hc with ⟨h2,h3⟩ | ⟨h2,h3,h4⟩
 ·constructor
  ·intro h;omega
  ·rintro ⟨j,h0,h1,hp⟩;exact absurd hp (h3 j h0 h1)
 ·exact ⟨fun _=>⟨i,by omega,h3,h4⟩,fun _=>by omega⟩
end
theorem zfu {R:Type} {len:Int} {L:Int->Option R} {bad:Int->Prop} {x:Option R} {lo:Int} (h0:lo<=len)
  (hs:∀ t,lo<=t->t < len->(bad t->L t=x)/\(¬ bad t->L t=L (t+1))) (hf:(∀ t,lo<=t->t < len -> ¬ bad t)->L len=x):L lo=x:=by
 have key:∀ (n:Nat) (t:Int),lo<=t->t<=len->(len - t).toNat=n->(∀ j,lo<=j->j < t -> ¬ bad j)->L t=x:=by
  intro n
  induction n with
  | zero=>
   intro t h1 h2 hn h;obtain rfl:t=len:=by omega
   exact hf h
  | succ n ih=>
   intro t h1 h2 hn h;by_cases hb:bad t
   ·exact (hs t h1 (by omega)).1 hb
   ·rw [(hs t h1 (by omega)).2 hb]
    refine ih (t+1) (by omega) (by omega) (by omega) fun j a b => ?_
    by_cases e:j=t
    ·rw [e];exact hb
    ·exact h j a (by omega)
 exact key _ lo (Int.le_refl _) h0 rfl (fun j a b=>by omega)
theorem zul {R S:Type} {len:Int} {L:Int->S->Option R} {f:Int->S->S} {lo:Int} {I:Int->S->Prop} {s:S} (h0:lo<=len) (hI:I lo s)
  (hs:∀ t s,lo<=t->t < len->I t s->L t s=L (t+1) (f t s)/\I (t+1) (f t s)):∃ s',I len s'/\L lo s=L len s':=by
 have key:∀ (n:Nat) (t:Int) (s:S),lo<=t->t<=len->(len - t).toNat=n->I t s->∃ s',I len s'/\L t s=L len s':=by
  intro n
  induction n with
  | zero=>
   intro t s h1 h2 hn h;obtain rfl:t=len:=by omega
   exact ⟨s,h,rfl⟩
  | succ n ih=>
   intro t s h1 h2 hn h;obtain ⟨e,h3⟩:=hs t s h1 (by omega) h
   obtain ⟨s',h4,h5⟩:=ih (t+1) _ (by omega) (by omega) (by omega) h3
   exact ⟨s',h4,e.trans h5⟩
 exact key _ lo s (Int.le_refl _) h0 rfl hI
theorem zjF {s:List Int} {v:Int} (hs:s.length<=4611686018427387904):zc2 (zfv s v) (v∈s):=
 zc2.iff (zjc (f:=fun x=>some (decide (v=x))) (P:=fun x=>v=x) (zsc s v) hs (fun x _=>zc2.dec Iff.rfl)) ⟨fun ⟨x,hx,e⟩=>e ▸ hx,fun h=>⟨v,h,rfl⟩⟩
abbrev Arc:=Int×Int×Int×Unit
abbrev Gr:=Int×Int×(List Arc)×Unit
def SLt (x y:Arc):Prop:=x.1 < y.1\/x.1=y.1/\(x.2.1 < y.2.1\/x.2.1=y.2.1/\x.2.2.1 < y.2.2.1)
def GLet (g:Gr):Prop:=g.1 < 1\/4 < g.1
def zwR (g:Gr):Prop:=g.2.1 < 1\/12 < g.2.1\/60 < g.2.2.1.length
def ABad (g:Gr) (x:Arc):Prop:=x.1 < 0\/g.2.1<=x.1\/x.2.2.1 < 0\/g.2.1<=x.2.2.1\/x.2.1 < 0\/g.1<=x.2.1
def GBad (g:Gr):Prop:=∃ x∈g.2.2.1,ABad g x
def GOrd (g:Gr):Prop:=∃ i:Int,1<=i/\i < g.2.2.1.length /\ ¬ SLt (ix g.2.2.1 (i - 1)) (ix g.2.2.1 i)
open Classical in
noncomputable def grE (g:Gr):Int:=if GLet g then 2 else if zwR g then 1 else if GBad g then 2 else if GOrd g then 3 else 0
theorem chk1 (p:Int) (g:Gr):zc2 (zjB p g) (p < 0\/g.2.1<=p):=by
 unfold zjB;by_cases h:p < 0
 ·rw [if_pos (decide_eq_true h)];exact zc2.of (by simp [h])
 ·rw [if_neg (by simpa using h)];exact zc2.dec (by omega)
theorem chk2 (x:Arc) (g:Gr):∃ b,zjC x g g=some (b,g)/\(b=true↔ABad g x):=by
 unfold zjC ABad;obtain ⟨b,e,hb⟩:=chk1 x.1 g;obtain ⟨c,e2,hc⟩:=chk1 x.2.2.1 g;rw [e,e2];simp only [Option.bind_some]
 cases b with
 | true=>exact ⟨true,rfl,by have:=hb.1 rfl;simp;omega⟩
 | false=>
  have hb : ¬ (x.1 < 0\/g.2.1<=x.1):=fun h=>by cases hb.2 h
  cases c with
  | true=>exact ⟨true,rfl,by have:=hc.1 rfl;simp;omega⟩
  | false=>
   have hc : ¬ (x.2.2.1 < 0\/g.2.1<=x.2.2.1):=fun h=>by cases hc.2 h
   by_cases h:x.2.1 < 0
   ·exact ⟨true,by simp [h],by simp;omega⟩
   ·exact ⟨decide (g.1<=x.2.1),by simp [h],by rw [decide_eq_true_iff];omega⟩
theorem zvV (x y:Int):zi1 x y=some (if x < y then -1 else if y < x then 1 else 0):=by
 unfold zi1 zqU;simp only [Option.bind_some,not_true,decide_false,Bool.false_eq_true,if_false,decide_eq_true_eq];by_cases h:x < y
 ·simp [h]
 ·by_cases h2:y < x<;>simp [h,h2]
theorem zDf (a b c:Int):zyO [a,b,c]=some (if a≠0 then a else if b≠0 then b else c):=by
 unfold zyO;rw [zly];unfold zeF;have e0:ix [a,b,c] 0=a:=rfl;have e1:ix [a,b,c] (0+1)=b:=rfl;have e2:ix [a,b,c] (0+1+1)=c:=rfl;rw [if_pos (by simp),zad (by simp),e0]
 by_cases h:a=0
 ·rw [if_neg (by simp [h]),zad (by decide),zly];unfold zeF
  rw [if_pos (by simp),zad (by simp),e1]
  by_cases h2:b=0
  ·rw [if_neg (by simp [h2]),zad (by decide),zly];unfold zeF
   rw [if_pos (by simp),zad (by simp),e2]
   by_cases h3:c=0
   ·rw [if_neg (by simp [h3]),zad (by decide),zly];unfold zeF
    rw [if_neg (by simp)]
    simp [h,h2,h3]
   ·rw [if_pos (by simp [h3])];simp [h,h2]
  ·rw [if_pos (by simp [h2])];simp [h,h2]
 ·rw [if_pos (by simp [h])];simp [h]
theorem zvy (x y:Arc):∃ o,zpM x y=some o/\(0<=o ↔ ¬ SLt x y):=by
 unfold zpM SLt;rw [zvV,zvV,zvV];simp only [Option.bind_some];rw [zDf];refine ⟨_,rfl,?_⟩
 repeat' split
 all_goals omega
theorem ztV (x y:Arc):zc2 (zru x y) (SLt x y):=by
 unfold zru SLt;by_cases h:x.1=y.1
 ·rw [if_neg (by simp [h])]
  by_cases h2:x.2.1=y.2.1
  ·rw [if_neg (by simp [h2])];exact zc2.dec (by omega)
  ·rw [if_pos (by simp [h2])];exact zc2.dec (by omega)
 ·rw [if_pos (by simp [h])];exact zc2.dec (by omega)
section
variable {g:Gr}
theorem zpl:zdH g=some (grE g):=by
 unfold zdH grE;by_cases c1:GLet g
 ·rw [if_pos c1];unfold GLet at c1
  (try dsimp only);(repeat' first | (with_reducible refine G_to ?_ ?_;focus (first | omega | (unfold fits;omega) | (unfold room;(try simp only [List.length_append,List.length_cons,List.length_nil]);omega))) | (with_reducible refine zdE ?_ ?_) | (with_reducible refine zi4 ?_) | (with_reducible refine zi3 ?_) | (with_reducible refine zmR (fun _ => ?_) (fun _ => ?_)))<;>try (exfalso;omega)
  all_goals rfl
 rw [if_neg c1];unfold GLet at c1;by_cases c2:zwR g
 ·rw [if_pos c2];unfold zwR at c2
  (try dsimp only);(repeat' first | (with_reducible refine G_to ?_ ?_;focus (first | omega | (unfold fits;omega) | (unfold room;(try simp only [List.length_append,List.length_cons,List.length_nil]);omega))) | (with_reducible refine zdE ?_ ?_) | (with_reducible refine zi4 ?_) | (with_reducible refine zi3 ?_) | (with_reducible refine zmR (fun _ => ?_) (fun _ => ?_)))<;>try (exfalso;omega)
  all_goals rfl
 rw [if_neg c2];unfold zwR at c2
 (try dsimp only);(repeat' first | (with_reducible refine G_to ?_ ?_;focus (first | omega | (unfold fits;omega) | (unfold room;(try simp only [List.length_append,List.length_cons,List.length_nil]);omega))) | (with_reducible refine zdE ?_ ?_) | (with_reducible refine zi4 ?_) | (with_reducible refine zi3 ?_) | (with_reducible refine zmR (fun _ => ?_) (fun _ => ?_)))<;>try (exfalso;omega)
 obtain ⟨b,hb,hb2⟩:∃ b,zgQ g.2.2.1 g g=some (b,g)/\(b=true↔GBad g):=
  zua (f:=fun x c=>zjC x g c) (zon g.2.2.1 g) (by omega) (fun x _=>chk2 x g)
 refine zav hb ?_
 refine zC5 (fun h=>by rw [if_pos (hb2.1 h)]) (fun h2 => ?_)
 have c3 : ¬ GBad g:=fun h=>by rw [hb2.2 h] at h2;cases h2
 rw [if_neg c3];refine zfu (len:=(g.2.2.1.length:Int)) (bad:=fun i=>1<=i /\ ¬ SLt (ix g.2.2.1 (i - 1)) (ix g.2.2.1 i)) (by omega) (fun i h0 h1=>⟨fun hb => ?_,fun hb => ?_⟩) (fun hh => ?_)
 ·rw [if_pos (show GOrd g from ⟨i,hb.1,h1,hb.2⟩)];rw [zjT];unfold zcR
  (try dsimp only);(repeat' first | (with_reducible refine G_to ?_ ?_;focus (first | omega | (unfold fits;omega) | (unfold room;(try simp only [List.length_append,List.length_cons,List.length_nil]);omega))) | (with_reducible refine zdE ?_ ?_) | (with_reducible refine zi4 ?_) | (with_reducible refine zi3 ?_) | (with_reducible refine zmR (fun _ => ?_) (fun _ => ?_)))<;>try (exfalso;omega)
  obtain ⟨o,e,ho⟩:=zvy (ix g.2.2.1 (i - 1)) (ix g.2.2.1 i);refine zav e ?_
  rw [if_pos (decide_eq_true (ho.2 hb.2))]
 ·conv=>lhs;rw [zjT];unfold zcR
  by_cases h:0 < i
  ·(try dsimp only);(repeat' first | (with_reducible refine G_to ?_ ?_;focus (first | omega | (unfold fits;omega) | (unfold room;(try simp only [List.length_append,List.length_cons,List.length_nil]);omega))) | (with_reducible refine zdE ?_ ?_) | (with_reducible refine zi4 ?_) | (with_reducible refine zi3 ?_) | (with_reducible refine zmR (fun _ => ?_) (fun _ => ?_)))<;>try (exfalso;omega)
   obtain ⟨o,e,ho⟩:=zvy (ix g.2.2.1 (i - 1)) (ix g.2.2.1 i);refine zav e ?_
   rw [if_neg (by rw [decide_eq_true_iff,ho];exact fun h=>hb ⟨by omega,h⟩),zad (by unfold fits;omega)]
  ·(try dsimp only);(repeat' first | (with_reducible refine G_to ?_ ?_;focus (first | omega | (unfold fits;omega) | (unfold room;(try simp only [List.length_append,List.length_cons,List.length_nil]);omega))) | (with_reducible refine zdE ?_ ?_) | (with_reducible refine zi4 ?_) | (with_reducible refine zi3 ?_) | (with_reducible refine zmR (fun _ => ?_) (fun _ => ?_)))<;>try (exfalso;omega)
   all_goals rfl
 ·rw [if_neg (show ¬ GOrd g from fun ⟨i,i0,i1,i2⟩=>hh i (by omega) i1 ⟨i0,i2⟩)]
  rw [zjT];unfold zcR;rw [if_neg (by simp)]
theorem zva:zrz g=some (grE g):=by
 unfold zrz grE;by_cases c1:GLet g
 ·rw [if_pos c1];unfold GLet at c1
  (try dsimp only);(repeat' first | (with_reducible refine G_to ?_ ?_;focus (first | omega | (unfold fits;omega) | (unfold room;(try simp only [List.length_append,List.length_cons,List.length_nil]);omega))) | (with_reducible refine zdE ?_ ?_) | (with_reducible refine zi4 ?_) | (with_reducible refine zi3 ?_) | (with_reducible refine zmR (fun _ => ?_) (fun _ => ?_)))<;>try (exfalso;omega)
  all_goals rfl
 rw [if_neg c1];unfold GLet at c1;by_cases c2:zwR g
 ·rw [if_pos c2];unfold zwR at c2
  (try dsimp only);(repeat' first | (with_reducible refine G_to ?_ ?_;focus (first | omega | (unfold fits;omega) | (unfold room;(try simp only [List.length_append,List.length_cons,List.length_nil]);omega))) | (with_reducible refine zdE ?_ ?_) | (with_reducible refine zi4 ?_) | (with_reducible refine zi3 ?_) | (with_reducible refine zmR (fun _ => ?_) (fun _ => ?_)))<;>try (exfalso;omega)
  all_goals rfl
 rw [if_neg c2];unfold zwR at c2
 (try dsimp only);(repeat' first | (with_reducible refine G_to ?_ ?_;focus (first | omega | (unfold fits;omega) | (unfold room;(try simp only [List.length_append,List.length_cons,List.length_nil]);omega))) | (with_reducible refine zdE ?_ ?_) | (with_reducible refine zi4 ?_) | (with_reducible refine zi3 ?_) | (with_reducible refine zmR (fun _ => ?_) (fun _ => ?_)))<;>try (exfalso;omega)
 refine zfu (len:=(g.2.2.1.length:Int)) (bad:=fun i=>ABad g (ix g.2.2.1 i)) (by omega) (fun i h0 h1=>⟨fun hb => ?_,fun hb => ?_⟩) (fun hh => ?_)
 ·rw [if_pos (show GBad g from zoH.2 ⟨i,h0,h1,hb⟩)];rw [zkC];unfold zdi;unfold ABad at hb
  (try dsimp only);(repeat' first | (with_reducible refine G_to ?_ ?_;focus (first | omega | (unfold fits;omega) | (unfold room;(try simp only [List.length_append,List.length_cons,List.length_nil]);omega))) | (with_reducible refine zdE ?_ ?_) | (with_reducible refine zi4 ?_) | (with_reducible refine zi3 ?_) | (with_reducible refine zmR (fun _ => ?_) (fun _ => ?_)))<;>try (exfalso;omega)
  all_goals rfl
 ·conv=>lhs;rw [zkC];unfold zdi
  unfold ABad at hb
  (try dsimp only);(repeat' first | (with_reducible refine G_to ?_ ?_;focus (first | omega | (unfold fits;omega) | (unfold room;(try simp only [List.length_append,List.length_cons,List.length_nil]);omega))) | (with_reducible refine zdE ?_ ?_) | (with_reducible refine zi4 ?_) | (with_reducible refine zi3 ?_) | (with_reducible refine zmR (fun _ => ?_) (fun _ => ?_)))<;>try (exfalso;omega)
  all_goals rfl
 rw [if_neg (show ¬ GBad g from fun h=>by obtain ⟨i,i0,i1,i2⟩:=zoH.1 h;exact hh i i0 i1 i2)]
 rw [zkC];unfold zdi;rw [if_neg (by simp)]
 by_cases c4:g.2.2.1.length=0
 ·rw [if_neg (show ¬ GOrd g from fun ⟨i,i0,i1,i2⟩=>by omega)]
  rw [zgH];unfold zcn;rw [if_neg (by simp;omega)]
 refine zfu (len:=(g.2.2.1.length:Int)) (bad:=fun i => ¬ SLt (ix g.2.2.1 (i - 1)) (ix g.2.2.1 i)) (by omega) (fun i h0 h1=>⟨fun hb => ?_,fun hb => ?_⟩) (fun hh => ?_)
 ·rw [if_pos (show GOrd g from ⟨i,h0,h1,hb⟩)];rw [zgH];unfold zcn
  (try dsimp only);(repeat' first | (with_reducible refine G_to ?_ ?_;focus (first | omega | (unfold fits;omega) | (unfold room;(try simp only [List.length_append,List.length_cons,List.length_nil]);omega))) | (with_reducible refine zdE ?_ ?_) | (with_reducible refine zi4 ?_) | (with_reducible refine zi3 ?_) | (with_reducible refine zmR (fun _ => ?_) (fun _ => ?_)))<;>try (exfalso;omega)
  obtain ⟨o,e,ho⟩:=ztV (ix g.2.2.1 (i - 1)) (ix g.2.2.1 i);refine zav e ?_
  rw [if_pos (by cases o;rfl;exact absurd (ho.1 rfl) hb)]
 ·conv=>lhs;rw [zgH];unfold zcn
  (try dsimp only);(repeat' first | (with_reducible refine G_to ?_ ?_;focus (first | omega | (unfold fits;omega) | (unfold room;(try simp only [List.length_append,List.length_cons,List.length_nil]);omega))) | (with_reducible refine zdE ?_ ?_) | (with_reducible refine zi4 ?_) | (with_reducible refine zi3 ?_) | (with_reducible refine zmR (fun _ => ?_) (fun _ => ?_)))<;>try (exfalso;omega)
  obtain ⟨o,e,ho⟩:=ztV (ix g.2.2.1 (i - 1)) (ix g.2.2.1 i);refine zav e ?_
  rw [if_neg (by rw [ho.2 (Classical.not_not.1 hb)];decide),zad (by unfold fits;omega)]
 ·rw [if_neg (show ¬ GOrd g from fun ⟨i,i0,i1,i2⟩=>hh i (by omega) i1 i2)]
  rw [zgH];unfold zcn;rw [if_neg (by simp)]
end
structure GrOk (g:Gr):Prop where
 l:1<=g.1/\g.1<=4
 n:1<=g.2.1/\g.2.1<=12
 a:g.2.2.1.length<=60
 x:∀ x∈g.2.2.1,0<=x.1/\x.1 < g.2.1/\0<=x.2.2.1/\x.2.2.1 < g.2.1/\0<=x.2.1/\x.2.1 < g.1
theorem zBO {g:Gr} (h:grE g=0):GrOk g:=by
 unfold grE at h
 split at h
 ·cases h
 split at h
 ·cases h
 split at h
 ·cases h
 rename_i c1 c2 c3;unfold GLet at c1;unfold zwR at c2;refine ⟨by omega,by omega,by omega,fun x hx => ?_⟩
 have : ¬ ABad g x:=fun h=>c3 ⟨x,hx,h⟩
 unfold ABad at this;omega
def Ans (g:Gr) (R:Int->Int->Prop) (p q:Int):Prop:=∀ x∈g.2.2.1,x.1=p->∃ y∈g.2.2.1,y.1=q/\y.2.1=x.2.1/\R x.2.2.1 y.2.2.1
def cE (c:List Int) (p q:Int):Prop:=ix c p=ix c q
def tE (t:List (List Bool)) (p q:Int):Prop:=ix (ix t p) q=true
section
variable {g:Gr}
theorem Ans.mono {R S:Int->Int->Prop} {n:Int} (hx:∀ x∈g.2.2.1,0<=x.2.2.1/\x.2.2.1 < n) (h:∀ a b:Int,0<=a->a < n->0<=b->b < n->R a b->S a b) {p q:Int} (k:Ans g R p q):Ans g S p q:=by
 intro x hx' hp;obtain ⟨y,hy,h1,h2,h3⟩:=k x hx' hp;exact ⟨y,hy,h1,h2,h _ _ (hx x hx').1 (hx x hx').2 (hx y hy).1 (hx y hy).2 h3⟩
theorem zCJ {C:Type} {c:C} {R:Int->Int->Prop} {A:Int->Option Bool} {F:Arc->C->Option (Bool×C)} {p q:Int} (ha:g.2.2.1.length<=60)
  (hF:∀ x∈g.2.2.1,∃ b,F x c=some (b,c)/\(b=true↔∃ y∈g.2.2.1,y.1=q/\y.2.1=x.2.1/\R x.2.2.1 y.2.2.1))
  (hA:∀ t:Int,0<=t->t < g.2.2.1.length->A t=if (ix g.2.2.1 t).1=p then (F (ix g.2.2.1 t) c).bind (fun y=>if (!y.1)=true then some false else A (t+1)) else A (t+1)) (hE:A g.2.2.1.length=some true):zc2 (A 0) (Ans g R p q):=by
 by_cases h:Ans g R p q
 ·refine ⟨true,?_,fun _=>h,fun _=>rfl⟩
  refine zfu (len:=g.2.2.1.length) (bad:=fun _=>False) (by omega) (fun t t0 t1=>⟨fun h=>h.elim,fun _ => ?_⟩) (fun _=>hE)
  rw [hA t t0 t1];by_cases c1:(ix g.2.2.1 t).1=p
  ·rw [if_pos c1];obtain ⟨b,e,hb⟩:=hF _ (zeS t0 t1);have:b=true:=hb.2 (h _ (zeS t0 t1) c1);rw [e,this];rfl
  ·rw [if_neg c1]
 ·refine ⟨false,?_,fun e=>(by cases e),fun k=>absurd k h⟩
  refine zfu (len:=g.2.2.1.length) (bad:=fun t=>(ix g.2.2.1 t).1=p /\ ¬ ∃ y∈g.2.2.1,y.1=q/\y.2.1=(ix g.2.2.1 t).2.1/\R (ix g.2.2.1 t).2.2.1 y.2.2.1) (by omega) (fun t t0 t1 => ?_) (fun hh => ?_)
  ·obtain ⟨b,e,hb⟩:=hF _ (zeS t0 t1);constructor
   ·rintro ⟨h1,h2⟩;rw [hA t t0 t1,if_pos h1,e];have:b=false:=by cases b;rfl;exact absurd (hb.1 rfl) h2
    rw [this];rfl
   ·intro hn;rw [hA t t0 t1];by_cases c1:(ix g.2.2.1 t).1=p
    ·rw [if_pos c1,e];have:b=true:=by
      cases b with
      | true=>rfl
      | false=>exact absurd ⟨c1,fun h=>by cases hb.2 h⟩ hn
     rw [this];rfl
    ·rw [if_neg c1]
  ·refine absurd (fun x hx hp => ?_) h
   obtain ⟨t,t0,t1,rfl⟩:=zoH (P:=fun y=>y=x).1 ⟨x,hx,rfl⟩
   exact Classical.byContradiction fun hn=>hh t t0 t1 ⟨hp,hn⟩
end
def tb (N:Int) (f:Int->Bool):List Bool:=(List.range N.toNat).map fun p:Nat=>f (p:Int)
theorem zdk {N:Int} {f:Int->Bool} (h:0<=N):((tb N f).length:Int)=N:=by unfold tb;simp;omega
theorem zdG {N:Int} {f:Int->Bool} {p:Int} (h0:0<=p) (h1:p < N):ix (tb N f) p=f p:=by
 unfold tb;rw [zus h0 (by simp;omega),List.getElem_map,List.getElem_range]
 congr 1;omega
theorem zzj {N:Int} {l:List Bool} {f:Int->Bool} (hN:0<=N) (hl:(l.length:Int)=N) (h:∀ p,0<=p->p < N->ix l p=f p):l=tb N f:=by
 have:=zdk (f:=f) hN;exact zxn (by omega) fun j j0 j1=>by rw [zdG j0 (by omega)];exact h j j0 (by omega)
theorem fill {β:Type} {N:Int} (hN:0<=N) {loop:Int->List Bool->Option β} {fin:List Bool->Option β} {f:Int->Bool}
  (hs:∀ t out,0<=t->t < N->(out.length:Int)=N->loop t out=loop (t+1) (out.set t.toNat (f t)))
  (hf:∀ out,(out.length:Int)=N->loop N out=fin out) {out:List Bool} (ho:(out.length:Int)=N):loop 0 out=fin (tb N f):=by
 obtain ⟨s',⟨h1,h2⟩,h3⟩:=zul (len:=N) (L:=loop) (f:=fun t s=>s.set t.toNat (f t)) (lo:=0) (I:=fun t s=>(s.length:Int)=N/\∀ j,0<=j->j < t->ix s j=f j) (s:=out) hN ⟨ho,fun j a b=>by omega⟩
  (fun t s t0 t1 hI=>⟨hs t s t0 t1 hI.1,by simp [hI.1],fun j j0 j1=>by
   by_cases e:j=t
   ·subst e;rw [zgO j0 (by omega)]
   ·rw [zmS t0 j0 (fun h=>e h.symm)];exact hI.2 j j0 (by omega)⟩)
 rw [h3,hf s' h1,zzj hN h1 h2]
theorem zkR {N:Int} (h:0<=N):((List.replicate N.toNat false).length:Int)=N:=by simp;omega
theorem zyL {a b:List Bool} (ha:a.length<=1000):zfn a b=some (decide (a=b)):=by
 unfold zfn;by_cases hl:(a.length:Int)=b.length
 ·rw [if_neg (by simpa using hl)]
  refine zfu (len:=(a.length:Int)) (bad:=fun t=>ix a t≠ix b t) (lo:=0) (by omega) (fun t t0 t1=>⟨fun hb => ?_,fun hb => ?_⟩) (fun hh => ?_)
  ·rw [zkB];unfold zdh;rw [if_pos (by simp;omega)]
   refine G_to (by omega) (G_to (by omega) ?_)
   rw [if_pos (by simpa using hb),decide_eq_false (fun e=>hb (by rw [e]))]
  ·conv=>lhs;rw [zkB];unfold zdh
   rw [if_pos (by simp;omega)]
   refine G_to (by omega) (G_to (by omega) ?_)
   rw [if_neg (by simpa using hb)]
   exact G_to (by unfold fits;omega) rfl
  ·rw [zkB];unfold zdh;rw [if_neg (by simp),decide_eq_true (zxn (by omega) fun t t0 t1=>Decidable.not_not.1 (hh t t0 t1))]
 ·rw [if_pos (by simpa using hl),decide_eq_false (fun e=>hl (by rw [e]))]
theorem zyR {a b:List Bool} (ha:a.length<=1000):zjG a b=some (decide (a=b)):=by
 unfold zjG;by_cases hl:(a.length:Int)=b.length
 ·rw [if_neg (by simpa using hl)]
  refine zfu (len:=(a.length:Int)) (bad:=fun t=>ix a t≠ix b t) (lo:=0) (by omega) (fun t t0 t1=>⟨fun hb => ?_,fun hb => ?_⟩) (fun hh => ?_)
  ·rw [zih];unfold zcb;rw [if_pos (by simp;omega)]
   refine G_to (by omega) (G_to (by omega) ?_)
   rw [if_pos (by simpa using hb),decide_eq_false (fun e=>hb (by rw [e]))]
  ·conv=>lhs;rw [zih];unfold zcb
   rw [if_pos (by simp;omega)]
   refine G_to (by omega) (G_to (by omega) ?_)
   rw [if_neg (by simpa using hb)]
   exact G_to (by unfold fits;omega) rfl
  ·rw [zih];unfold zcb;rw [if_neg (by simp),decide_eq_true (zxn (by omega) fun t t0 t1=>Decidable.not_not.1 (hh t t0 t1))]
 ·rw [if_pos (by simpa using hl),decide_eq_false (fun e=>hl (by rw [e]))]
theorem zvU {s:List Bool} (hs:s.length<=1000):zhv s=some s:=by
 have hr:G (room ([]:List Bool) s 1) (some (([]:List Bool)++s))=some s:=by
  rw [zad (zkU (by simp;omega))];rfl
 unfold zhv;refine zAW (fun h => ?_) (fun h=>hr)
 obtain rfl:s=[]:=List.length_eq_zero_iff.1 h;rw [hr];exact zqO (ts:=[(.list .bool)]) (some ([]:List Bool))
def cnt (X:List Bool):Nat:=(X.filter id).length
theorem zEf (X:List Bool):cnt X<=X.length:=List.length_filter_le _ _
theorem zyP:∀ (X Y:List Bool),X.length=Y.length->(∀ j:Nat,X[j]? =some true->Y[j]? =some true)->cnt X<=cnt Y/\(X≠Y->cnt X < cnt Y)
 | [],[],_,_=>⟨Nat.le_refl _,fun h=>absurd rfl h⟩
 | [],_::_,h,_=>by simp at h
 | _::_,[],h,_=>by simp at h
 | x::X,y::Y,h,hj=>by
  obtain ⟨h1,h2⟩:=zyP X Y (by simpa using h) (fun j=>by simpa using hj (j+1))
  have h0:=hj 0;unfold cnt at h1 h2 ⊢
  cases x<;>cases y
  ·simp only [List.filter_cons,id_eq,Bool.false_eq_true,if_false];exact ⟨h1,fun hne=>h2 (fun e=>hne (by rw [e]))⟩
  ·simp only [List.filter_cons,id_eq,Bool.false_eq_true,if_false,if_true,List.length_cons];exact ⟨by omega,fun _=>by omega⟩
  ·simp at h0
  ·simp only [List.filter_cons,id_eq,if_true,List.length_cons];exact ⟨by omega,fun hne=>by have:=h2 (fun e=>hne (by rw [e]));omega⟩
theorem zCm {X Y:List Bool} {N:Int} (hx:(X.length:Int)=N) (hy:(Y.length:Int)=N) (h:∀ p,0<=p->p < N->ix X p=true->ix Y p=true) (hne:X≠Y):cnt X < cnt Y:=by
 refine (zyP X Y (by omega) fun j hj => ?_).2 hne
 obtain ⟨h1,h2⟩:=List.getElem?_eq_some_iff.1 hj;have e:=h j (by omega) (by omega) (by rw [zus (by omega) (by omega)];simpa using h2)
 rw [zus (by omega) (by omega)] at e
 rw [List.getElem?_eq_getElem (by omega)]
 simpa using e
theorem zCE {N:Int} {F:List Bool->List Bool} {loop:List Bool->Option (List Bool)} {P:List Bool->Prop} {μ:List Bool->Nat}
  (hl:∀ X,(X.length:Int)=N->loop X=if F X=X then some X else loop (F X))
  (hF:∀ X,(X.length:Int)=N->((F X).length:Int)=N) (hP:∀ X,(X.length:Int)=N->P X->P (F X)/\(F X≠X->μ (F X) < μ X)):
  ∀ (m:Nat) X,μ X=m->(X.length:Int)=N->P X->∃ R,loop X=some R/\(R.length:Int)=N/\P R/\F R=R:=by
 intro m
 induction m using Nat.strongRecOn with
 | ind m ih=>
  intro X hm hX hp;rw [hl X hX];by_cases e:F X=X
  ·exact ⟨X,by rw [if_pos e],hX,hp,e⟩
  ·rw [if_neg e];obtain ⟨h1,h2⟩:=hP X hX hp;exact ih _ (by have:=h2 e;omega) _ rfl (hF X hX) h1
theorem zxF {N:Int} {F:List Bool->List Bool} {loop:List Bool->Option (List Bool)} {P:List Bool->Prop}
  (hl:∀ X,(X.length:Int)=N->loop X=if F X=X then some X else loop (F X))
  (hF:∀ X,(X.length:Int)=N->((F X).length:Int)=N) (hP:∀ X,(X.length:Int)=N->P X->P (F X)/\∀ p,0<=p->p < N->ix X p=true->ix (F X) p=true)
  {X:List Bool} (hX:(X.length:Int)=N) (hp:P X):∃ R,loop X=some R/\(R.length:Int)=N/\P R/\F R=R:=
 zCE (μ:=fun X=>N.toNat - cnt X) hl hF (fun X hX hp=>⟨(hP X hX hp).1,fun hne=>by
  have h1:=zCm hX (hF X hX) (hP X hX hp).2 (fun e=>hne e.symm)
  have h2:=zEf (F X);have h3:=hF X hX;show N.toNat - cnt (F X) < N.toNat - cnt X;omega⟩) _ X rfl hX hp
theorem zuO {N:Int} {F:List Bool->List Bool} {loop:List Bool->Option (List Bool)} {P:List Bool->Prop}
  (hl:∀ X,(X.length:Int)=N->loop X=if F X=X then some X else loop (F X))
  (hF:∀ X,(X.length:Int)=N->((F X).length:Int)=N) (hP:∀ X,(X.length:Int)=N->P X->P (F X)/\∀ p,0<=p->p < N->ix (F X) p=true->ix X p=true)
  {X:List Bool} (hX:(X.length:Int)=N) (hp:P X):∃ R,loop X=some R/\(R.length:Int)=N/\P R/\F R=R:=
 zCE (μ:=cnt) hl hF (fun X hX hp=>⟨(hP X hX hp).1,fun hne=>zCm (hF X hX) hX (hP X hX hp).2 hne⟩) _ X rfl hX hp
def Go (g:Gr) (p q:Int):Prop:=(∃ x∈g.2.2.1,x.1=p/\x.2.2.1=q)\/((∀ x∈g.2.2.1,x.1≠p)/\p=q)
theorem Go.rng {g:Gr} (ok:GrOk g) {p q:Int} (h:Go g p q) (h0:0<=p) (h1:p < g.2.1):0<=q/\q < g.2.1:=by
 rcases h with ⟨x,hx,_,rfl⟩ | ⟨_,rfl⟩
 ·have:=ok.x x hx;omega
 ·exact ⟨h0,h1⟩
open Classical in
noncomputable def St (g:Gr) (all:Bool) (X:List Bool) (p:Int):Bool:=if all then decide (∀ q,Go g p q->ix X q=true) else decide (∃ q,Go g p q/\ix X q=true)
theorem zgL {g:Gr} {X:List Bool} {p:Int}:St g false X p=true↔∃ q,Go g p q/\ix X q=true:=by unfold St;simp
theorem zhA {g:Gr} {X:List Bool} {p:Int}:St g true X p=true↔∀ q,Go g p q->ix X q=true:=by unfold St;simp
theorem zqw {g:Gr} (ok:GrOk g) {all:Bool} {X Y:List Bool} (h:∀ p,0<=p->p < g.2.1->ix X p=true->ix Y p=true) {p:Int} (h0:0<=p) (h1:p < g.2.1) (hs:St g all X p=true):St g all Y p=true:=by
 cases all
 ·obtain ⟨q,hq,hx⟩:=zgL.1 hs;obtain ⟨a,b⟩:=hq.rng ok h0 h1;exact zgL.2 ⟨q,hq,h q a b hx⟩
 ·exact zhA.2 fun q hq=>by
   obtain ⟨a,b⟩:=hq.rng ok h0 h1;exact h q a b (zhA.1 hs q hq)
section
variable {g:Gr}
theorem zuL (ok:GrOk g) (p q:Int):zc2 (znB g p q) (Go g p q):=by
 have hn:=ok.a;have key:∀ (n:Nat) (any:Bool) (i:Int),0<=i->i<=g.2.2.1.length->((g.2.2.1.length:Int) - i).toNat=n->(any=true↔∃ j:Int,0<=j/\j < i/\(ix g.2.2.1 j).1=p)->(∀ j:Int,0<=j->j < i -> ¬ ((ix g.2.2.1 j).1=p/\(ix g.2.2.1 j).2.2.1=q))->
   zc2 (znC g p q any i) (Go g p q):=by
  intro n
  induction n with
  | zero=>
   intro any i h0 h1 hn ha hb;rw [zqe];unfold zeI;rw [if_neg (by simp;omega)]
   have hno : ¬ ∃ x∈g.2.2.1,x.1=p/\x.2.2.1=q:=by
    rw [zoH];rintro ⟨j,j0,j1,h⟩;exact hb j j0 (by omega) h
   cases any with
   | true=>
    rw [if_neg (by simp)]
    obtain ⟨j,j0,j1,hj⟩:=ha.1 rfl;refine zc2.of ⟨fun h=>(by cases h),fun h => ?_⟩
    rcases h with h | ⟨h,_⟩
    ·exact absurd h hno
    ·exact absurd hj (h _ (zeS j0 (by omega)))
   | false=>
    rw [if_pos (by simp)]
    have hall:∀ x∈g.2.2.1,x.1≠p:=fun x hx e=>by
     have:∃ x∈g.2.2.1,x.1=p:=⟨x,hx,e⟩;rw [zoH] at this;obtain ⟨j,j0,j1,hj⟩:=this;have:=ha.2 ⟨j,j0,by omega,hj⟩
     cases this
    exact zc2.dec ⟨fun h => .inr ⟨hall,h⟩,fun h=>by
     rcases h with h | ⟨_,h⟩
     ·exact absurd h hno
     ·exact h⟩
  | succ n ih=>
   intro any i h0 h1 hn ha hb;rw [zqe];unfold zeI;have i1:0<=i+1/\i+1<=g.2.2.1.length/\((g.2.2.1.length:Int) - (i+1)).toNat=n/\i < g.2.2.1.length:=by clear ha hb;omega
   obtain ⟨i1,i2,i3,i4⟩:=i1;rw [if_pos (decide_eq_true i4),zad ⟨h0,i4⟩];by_cases e1:(ix g.2.2.1 i).1=p
   ·rw [if_pos (decide_eq_true e1),zad ⟨h0,i4⟩];by_cases e2:(ix g.2.2.1 i).2.2.1=q
    ·rw [if_pos (decide_eq_true e2)];exact zc2.of ⟨fun _ => .inl ⟨_,zeS h0 i4,e1,e2⟩,fun _=>rfl⟩
    ·rw [if_neg (by simpa using e2),zad (zaE (by clear ha hb;omega) (by clear ha hb;omega))]
     refine ih true (i+1) i1 i2 i3 ⟨fun _=>⟨i,h0,by omega,e1⟩,fun _=>rfl⟩ fun j j0 j1 h => ?_
     by_cases ej:j=i
     ·subst ej;exact e2 h.2
     ·exact hb j j0 (by omega) h
   ·rw [if_neg (by simpa using e1),zad (zaE (by clear ha hb;omega) (by clear ha hb;omega))]
    refine ih any (i+1) i1 i2 i3 (ha.trans ⟨fun ⟨j,a,b,c⟩=>⟨j,a,by omega,c⟩,fun ⟨j,a,b,c⟩=>⟨j,a,?_,c⟩⟩) fun j j0 j1 h => ?_
    ·by_cases ej:j=i
     ·subst ej;exact absurd c e1
     ·omega
    ·by_cases ej:j=i
     ·subst ej;exact e1 h.1
     ·exact hb j j0 (by omega) h
 exact key _ false 0 (by omega) (by omega) rfl ⟨fun h=>(by cases h),fun ⟨j,a,b,_⟩=>by omega⟩ (fun j a b=>by omega)
theorem zBj (ok:GrOk g) {X:List Bool} (hX:(X.length:Int)=g.2.1) {p:Int} (h0:0<=p) (h1:p < g.2.1):znF g p X=some (St g false X p):=by
 have hn:=ok.n;have t:zc2 (znF g p X) (∃ q,Go g p q/\ix X q=true):=by
  unfold znF;by_cases hh:∃ q,Go g p q/\ix X q=true
  ·refine zc2.iff (P:=True) ⟨true,?_,by simp⟩ (by simp [hh])
   refine zfu (len:=g.2.1) (bad:=fun q=>Go g p q/\ix X q=true) (lo:=0) (by omega) (fun q q0 q1=>⟨fun hb => ?_,fun hb => ?_⟩) (fun hx => ?_)
   ·rw [zje];unfold zdc;rw [if_pos (decide_eq_true q1)];refine (zuL ok p q).to (fun _ => ?_) (fun h=>absurd hb.1 h)
    rw [zad (by omega),if_pos hb.2]
   ·conv=>lhs;rw [zje];unfold zdc
    rw [if_pos (decide_eq_true q1)];refine (zuL ok p q).to (fun h => ?_) (fun h => ?_)
    ·rw [zad (by omega),if_neg (fun e=>hb ⟨h,e⟩),zad (by unfold fits;omega)]
    ·rw [zad (by unfold fits;omega)]
   ·obtain ⟨q,hq,e⟩:=hh;obtain ⟨a,b⟩:=hq.rng ok h0 h1;exact absurd ⟨hq,e⟩ (hx q a b)
  ·refine zc2.iff (P:=False) ⟨false,?_,by simp⟩ (by simp [hh])
   refine zfu (len:=g.2.1) (bad:=fun q=>Go g p q/\ix X q=true) (lo:=0) (by omega) (fun q q0 q1=>⟨fun hb=>absurd ⟨q,hb⟩ hh,fun hb => ?_⟩) (fun hx => ?_)
   ·conv=>lhs;rw [zje];unfold zdc
    rw [if_pos (decide_eq_true q1)];refine (zuL ok p q).to (fun h => ?_) (fun h => ?_)
    ·rw [zad (by omega),if_neg (fun e=>hb ⟨h,e⟩),zad (by unfold fits;omega)]
    ·rw [zad (by unfold fits;omega)]
   ·rw [zje];unfold zdc;rw [if_neg (by simp)]
 obtain ⟨b,e,hb⟩:=t;rw [e];have:b=true↔St g false X p=true:=hb.trans zgL.symm;congr 1
 exact Bool.eq_iff_iff.2 this
theorem zyu (ok:GrOk g) {X:List Bool} (hX:(X.length:Int)=g.2.1) {p:Int} (h0:0<=p) (h1:p < g.2.1):zkD g p X=some (St g true X p):=by
 have hn:=ok.n;have t:zc2 (zkD g p X) (∀ q,Go g p q->ix X q=true):=by
  unfold zkD;by_cases hh:∃ q,Go g p q/\ix X q≠true
  ·refine zc2.iff (P:=False) ⟨false,?_,by simp⟩ ⟨fun h=>h.elim,fun h => ?_⟩
   ·refine zfu (len:=g.2.1) (bad:=fun q=>Go g p q/\ix X q≠true) (lo:=0) (by omega) (fun q q0 q1=>⟨fun hb => ?_,fun hb => ?_⟩) (fun hx => ?_)
    ·rw [zh4];unfold zcK;rw [if_pos (decide_eq_true q1)];refine (zuL ok p q).to (fun _ => ?_) (fun h=>absurd hb.1 h)
     rw [zad (by omega),if_pos (by simpa using hb.2)]
    ·conv=>lhs;rw [zh4];unfold zcK
     rw [if_pos (decide_eq_true q1)];refine (zuL ok p q).to (fun h => ?_) (fun h => ?_)
     ·rw [zad (by omega),if_neg (fun e=>hb ⟨h,by simpa using e⟩),zad (by unfold fits;omega)]
     ·rw [zad (by unfold fits;omega)]
    ·obtain ⟨q,hq,e⟩:=hh;obtain ⟨a,b⟩:=hq.rng ok h0 h1;exact absurd ⟨hq,e⟩ (hx q a b)
   ·obtain ⟨q,hq,e⟩:=hh;exact e (h q hq)
  ·have hall:∀ q,Go g p q->ix X q=true:=fun q hq=>Classical.byContradiction fun e=>hh ⟨q,hq,e⟩
   refine zc2.iff (P:=True) ⟨true,?_,by simp⟩ ⟨fun _=>hall,fun _=>trivial⟩
   refine zfu (len:=g.2.1) (bad:=fun q=>Go g p q/\ix X q≠true) (lo:=0) (by omega) (fun q q0 q1=>⟨fun hb=>absurd ⟨q,hb⟩ hh,fun hb => ?_⟩) (fun hx => ?_)
   ·conv=>lhs;rw [zh4];unfold zcK
    rw [if_pos (decide_eq_true q1)];refine (zuL ok p q).to (fun h => ?_) (fun h => ?_)
    ·rw [zad (by omega),if_neg (fun e=>hb ⟨h,by simpa using e⟩),zad (by unfold fits;omega)]
    ·rw [zad (by unfold fits;omega)]
   ·rw [zh4];unfold zcK;rw [if_neg (by simp)]
 obtain ⟨b,e,hb⟩:=t;rw [e];have:b=true↔St g true X p=true:=hb.trans zhA.symm;congr 1
 exact Bool.eq_iff_iff.2 this
end
theorem zt9 {s:List Int} {v:Int} (hs:s.length<=4611686018427387904):zc2 (zi9 s v) (v∈s):=
 zc2.iff (zjc (f:=fun x=>some (decide (v=x))) (P:=fun x=>v=x) (zfS s v) hs (fun x _=>zc2.dec Iff.rfl)) ⟨fun ⟨x,hx,e⟩=>e ▸ hx,fun h=>⟨v,h,rfl⟩⟩
abbrev Wlk:=Gr×List (List Int)×Unit
structure WOk (g:Gr) (w:Wlk):Prop where
 e:w.1=g
 l:(w.2.1.length:Int)=g.2.1
 r:∀ p,0<=p->p < g.2.1->(ix w.2.1 p).length<=61/\∀ q,q∈ix w.2.1 p↔Go g p q
theorem zst {N:Int} {b:Nat} (h0:0<=N) (h1:N<=12) (hb:b<=24):mkOK N N b:=⟨h0,by omega,by
 have:N * b<=12 * 24:=Int.mul_le_mul h1 (by omega) (by omega) (by omega)
 omega⟩
structure Lf (g:Gr) (all:Bool) (a b R:List Bool):Prop where
 l:(R.length:Int)=g.2.1
 t:∀ p,0<=p->p < g.2.1->ix b p=true->ix R p=true
 s:∀ p,0<=p->p < g.2.1->ix a p=true->St g all R p=true->ix R p=true
 m:∀ S:List Bool,(S.length:Int)=g.2.1->(∀ p,0<=p->p < g.2.1->ix b p=true->ix S p=true)->(∀ p,0<=p->p < g.2.1->ix a p=true->St g all S p=true->ix S p=true)->∀ p,0<=p->p < g.2.1->ix R p=true->ix S p=true
structure Gf (g:Gr) (all:Bool) (a R:List Bool):Prop where
 l:(R.length:Int)=g.2.1
 s:∀ p,0<=p->p < g.2.1->ix R p=true->ix a p=true/\St g all R p=true
 m:∀ S:List Bool,(S.length:Int)=g.2.1->(∀ p,0<=p->p < g.2.1->ix S p=true->ix a p=true/\St g all S p=true)->∀ p,0<=p->p < g.2.1->ix S p=true->ix R p=true
theorem zCF {N:Int} {X Y:List Bool} (hx:(X.length:Int)=N) (hy:(Y.length:Int)=N) (h:∀ p,0<=p->p < N->(ix X p=true↔ix Y p=true)):X=Y:=
 zxn (by omega) fun p p0 p1=>Bool.eq_iff_iff.2 (h p p0 (by omega))
theorem Lf.uniq {g:Gr} {all:Bool} {a b R S:List Bool} (h:Lf g all a b R) (k:Lf g all a b S):R=S:=
 zCF h.l k.l fun p p0 p1=>⟨h.m S k.l k.t k.s p p0 p1,k.m R h.l h.t h.s p p0 p1⟩
theorem Gf.uniq {g:Gr} {all:Bool} {a R S:List Bool} (h:Gf g all a R) (k:Gf g all a S):R=S:=
 zCF h.l k.l fun p p0 p1=>⟨k.m R h.l h.s p p0 p1,h.m S k.l k.s p p0 p1⟩
section
variable {g:Gr} {w:Wlk}
theorem zwv (ok:GrOk g) (hw:WOk g w) {X:List Bool} (hX:(X.length:Int)=g.2.1) {p:Int} (h0:0<=p) (h1:p < g.2.1):zcB w p X=some (St g false X p):=by
 have hr:=hw.r p h0 h1;unfold zcB;rw [zad ⟨h0,by have:=hw.l;omega⟩]
 have t:zc2 (zd7 (ix w.2.1 p) X) (∃ q∈ix w.2.1 p,ix X q=true):=by
  unfold zd7 zik;refine zjc (s:=ix w.2.1 p) (f:=fun q=>zcN q X) (L:=fun t=>zd9 (ix w.2.1 p) X t) (P:=fun q=>ix X q=true) (fun t => ?_) (by omega) (fun q hq => ?_)
  ·exact zm8 _ _ _
  ·obtain ⟨a,b⟩:=((hr.2 q).1 hq).rng ok h0 h1;show zc2 (zcN q X) _;unfold zcN;rw [zad ⟨a,by omega⟩]
   exact ⟨_,rfl,Iff.rfl⟩
 obtain ⟨b,e,hb⟩:=t;rw [e];have:b=true↔St g false X p=true:=hb.trans ((Iff.intro (fun ⟨q,a,c⟩=>⟨q,(hr.2 q).1 a,c⟩) (fun ⟨q,a,c⟩=>⟨q,(hr.2 q).2 a,c⟩)).trans zgL.symm)
 exact congrArg some (Bool.eq_iff_iff.2 this)
theorem zvw {N:Int} {a:List Bool} (ha:(a.length:Int)=N) (h1:N<=12):zcT a=some (tb N fun p => !ix a p):=by
 unfold zcT;rw [zvU (by omega)]
 show zfx a 0 a=_;refine fill (N:=N) (by omega) (loop:=fun t out=>zfx a t out) (fin:=fun out=>some out) (fun t out t0 t1 ho => ?_) (fun out ho => ?_) ha
 ·conv=>lhs;rw [znO];unfold zdm
  rw [if_pos (decide_eq_true (by omega)),zad ⟨t0,by omega⟩,zad ⟨t0,by omega⟩,zad (by omega),zad (zaE (by omega) (by omega))]
 ·show zfx a N out=some out;rw [znO];unfold zdm;rw [if_neg (by simp;omega)]
theorem wlen (ok:GrOk g) (hw:WOk g w):((List.replicate (w.1.2.1).toNat (false:Bool)).length:Int)=g.2.1:=by
 have:=ok.n;rw [hw.e];simp;omega
theorem zmN (ok:GrOk g) (hw:WOk g w) {f:Int->Bool} {loop:Int->List Bool->Option (List Bool)} {rule:Int->Option Bool}
  (hl:∀ t out,loop t out=if (decide (t < ((List.replicate (w.1.2.1).toNat (false:Bool)).length:Int)))=true then (rule t).bind (fun y'=>G (0<=t/\t < (out.length:Int)) (G ((t).toNat < out.length) (G (fits (t+(1:Int))) (loop (t+(1:Int)) (out.set (t).toNat y'))))) else some out)
  (hr:∀ t,0<=t->t < g.2.1->rule t=some (f t)):G (mkOK w.1.2.1 w.1.2.1 1) (loop 0 (List.replicate (w.1.2.1).toNat (false:Bool)))=some (tb g.2.1 f):=by
 have hn:=ok.n;have hwl:=wlen ok hw;rw [zad (by rw [hw.e];exact zst (by omega) (by omega) (by omega))]
 refine fill (N:=g.2.1) (by omega) (loop:=loop) (fin:=fun out=>some out) (f:=f) (fun t out t0 t1 ho => ?_) (fun out ho => ?_) hwl
 ·rw [hl,if_pos (decide_eq_true (by omega)),hr t t0 t1]
  show G _ _=_;rw [zad ⟨t0,by omega⟩,zad (by omega),zad (zaE (by omega) (by omega))]
 ·rw [hl,if_neg (by simp only [decide_eq_true_eq];omega)]
theorem zAm (ok:GrOk g) (hw:WOk g w) {a b:List Bool} (ha:(a.length:Int)=g.2.1) (hb:(b.length:Int)=g.2.1):zen w a b=some (tb g.2.1 fun p=>ix a p && ix b p):=by
 unfold zen;refine zmN ok hw (loop:=fun t out=>zc7 w a b t out) (rule:=fun t=>zdU t a b) (fun t out=>zk9 _ _ _ _ _) (fun t t0 t1 => ?_)
 unfold zdU;rw [zad ⟨t0,by omega⟩]
 cases ix a t<;>simp [zad (show 0<=t/\t < (b.length:Int) from ⟨t0,by omega⟩)]
theorem zAn (ok:GrOk g) (hw:WOk g w) {a b:List Bool} (ha:(a.length:Int)=g.2.1) (hb:(b.length:Int)=g.2.1):zeo w a b=some (tb g.2.1 fun p=>ix a p || ix b p):=by
 unfold zeo;refine zmN ok hw (loop:=fun t out=>zc8 w a b t out) (rule:=fun t=>zdV t a b) (fun t out=>zlb _ _ _ _ _) (fun t t0 t1 => ?_)
 unfold zdV;rw [zad ⟨t0,by omega⟩]
 cases ix a t<;>simp [zad (show 0<=t/\t < (b.length:Int) from ⟨t0,by omega⟩)]
theorem zAq (ok:GrOk g) (hw:WOk g w) {a b:List Bool} (ha:(a.length:Int)=g.2.1) (hb:(b.length:Int)=g.2.1):zcy w a b=some (tb g.2.1 fun p => !ix a p && !ix b p):=by
 unfold zcy;refine zmN ok hw (loop:=fun t out=>zc9 w a b t out) (rule:=fun t=>zdW t a b) (fun t out=>zlf _ _ _ _ _) (fun t t0 t1 => ?_)
 unfold zdW;rw [zad ⟨t0,by omega⟩]
 cases ix a t<;>simp [zad (show 0<=t/\t < (b.length:Int) from ⟨t0,by omega⟩)]
theorem zAr (ok:GrOk g) (hw:WOk g w) {a b:List Bool} (ha:(a.length:Int)=g.2.1) (hb:(b.length:Int)=g.2.1):zer w a b=some (tb g.2.1 fun p => !ix a p && !ix b p):=by
 unfold zer;refine zmN ok hw (loop:=fun t out=>zda w a b t out) (rule:=fun t=>zdX t a b) (fun t out=>zlh _ _ _ _ _) (fun t t0 t1 => ?_)
 unfold zdX;rw [zad ⟨t0,by omega⟩]
 cases ix a t<;>simp [zad (show 0<=t/\t < (b.length:Int) from ⟨t0,by omega⟩)]
theorem zvx (ok:GrOk g) (hw:WOk g w):zca w=some (tb g.2.1 fun _=>true):=by
 have:zdN w=some (tb g.2.1 fun _=>true):=by
  unfold zdN;exact zmN ok hw (loop:=fun t out=>zcV w t out) (rule:=fun t=>zgN t) (fun t out=>zkm _ _ _) (fun t t0 t1=>rfl)
 unfold zca;rw [this];rfl
theorem zvm (ok:GrOk g) (hw:WOk g w) {a:List Bool} (ha:(a.length:Int)=g.2.1):zdM w a w=some (tb g.2.1 fun p=>St g false a p,w):=by
 have hn:=ok.n;have hwl:=wlen ok hw;unfold zdM;rw [zad (by rw [hw.e];exact zst (by omega) (by omega) (by omega))]
 refine fill (N:=g.2.1) (by omega) (loop:=fun t out=>zb9 w a t w out) (fin:=fun out=>some (out,w)) (f:=fun p=>St g false a p) (fun t out t0 t1 ho => ?_) (fun out ho => ?_) hwl
 ·conv=>lhs;rw [zfc];unfold zaY zfj
  rw [if_pos (decide_eq_true (by omega)),zwv ok hw ha t0 t1]
  show G _ _=_;rw [zad ⟨t0,by omega⟩,zad (by omega),zad (zaE (by omega) (by omega))]
 ·show zb9 w a g.2.1 w out=_;rw [zfc];unfold zaY;rw [if_neg (by simp only [decide_eq_true_eq];omega)]
theorem zAo (ok:GrOk g) (hw:WOk g w) {a X:List Bool} (ha:(a.length:Int)=g.2.1) (hX:(X.length:Int)=g.2.1):zep w a w X=some (tb g.2.1 fun p=>ix X p || (ix a p && St g false X p),X,a,w):=by
 have hn:=ok.n;have hwl:=wlen ok hw;unfold zep;rw [zad (by rw [hw.e];exact zst (by omega) (by omega) (by omega))]
 refine fill (N:=g.2.1) (by omega) (loop:=fun t out=>zcg w t a w out X) (fin:=fun out=>some (out,X,a,w)) (f:=fun p=>ix X p || (ix a p && St g false X p)) (fun t out t0 t1 ho => ?_) (fun out ho => ?_) hwl
 ·have hu:zdb t a w X=some (ix X t || (ix a t && St g false X t),X,a,w):=by
   unfold zdb;rw [zad ⟨t0,by omega⟩,zad (by omega)]
   cases hx:ix X t
   ·rw [if_neg (by simp),zad ⟨t0,by omega⟩]
    cases hy:ix a t
    ·rfl
    ·rw [if_pos rfl,zwv ok hw hX t0 t1];rfl
   ·rfl
  conv=>lhs;rw [zfK];unfold za6
  rw [if_pos (decide_eq_true (by omega)),hu]
  show G _ _=_;rw [zad ⟨t0,by omega⟩,zad (by omega),zad (zaE (by omega) (by omega))]
 ·show zcg w g.2.1 a w out X=_;rw [zfK];unfold za6;rw [if_neg (by simp only [decide_eq_true_eq];omega)]
theorem zAp (ok:GrOk g) (hw:WOk g w) {X:List Bool} (hX:(X.length:Int)=g.2.1):zeq w w X=some (tb g.2.1 fun p=>ix X p && St g false X p,X,w):=by
 have hn:=ok.n;have hwl:=wlen ok hw;unfold zeq;rw [zad (by rw [hw.e];exact zst (by omega) (by omega) (by omega))]
 refine fill (N:=g.2.1) (by omega) (loop:=fun t out=>zch w t w out X) (fin:=fun out=>some (out,X,w)) (f:=fun p=>ix X p && St g false X p) (fun t out t0 t1 ho => ?_) (fun out ho => ?_) hwl
 ·have hu:zdy t w X=some (ix X t && St g false X t,X,w):=by
   unfold zdy;rw [zad ⟨t0,by omega⟩,zad (by omega)]
   cases hx:ix X t
   ·rfl
   ·rw [if_pos rfl,zwv ok hw hX t0 t1];rfl
  conv=>lhs;rw [zfL];unfold za7
  rw [if_pos (decide_eq_true (by omega)),hu]
  show G _ _=_;rw [zad ⟨t0,by omega⟩,zad (by omega),zad (zaE (by omega) (by omega))]
 ·show zch w g.2.1 w out X=_;rw [zfL];unfold za7;rw [if_neg (by simp only [decide_eq_true_eq];omega)]
theorem zpO (ok:GrOk g) (hw:WOk g w) {a b:List Bool} (ha:(a.length:Int)=g.2.1) (hb:(b.length:Int)=g.2.1):∃ R,zaT w a b=some R/\Lf g false a b R:=by
 have hn:=ok.n;unfold zaT;rw [zvU (by omega)]
 obtain ⟨R,e,hl,⟨p1,p2⟩,hf⟩:=zxF (N:=g.2.1) (F:=fun X=>tb g.2.1 fun p=>ix X p || (ix a p && St g false X p)) (loop:=fun X=>zdB w a X)
  (P:=fun X=>(∀ p,0<=p->p < g.2.1->ix b p=true->ix X p=true)/\∀ S:List Bool,(S.length:Int)=g.2.1->(∀ p,0<=p->p < g.2.1->ix b p=true->ix S p=true)->(∀ p,0<=p->p < g.2.1->ix a p=true->St g false S p=true->ix S p=true)->∀ p,0<=p->p < g.2.1->ix X p=true->ix S p=true)
  (fun X hX=>by
   conv=>lhs;rw [zl7];unfold zbx
   rw [zAo ok hw ha hX];simp only [Option.bind_some];rw [zyR (by have:=zdk (N:=g.2.1) (f:=fun p=>ix X p || (ix a p && St g false X p)) (by omega);omega)]
   simp only [Option.bind_some,decide_eq_true_eq])
  (fun X _=>zdk (by omega))
  (fun X hX hp=>⟨⟨fun p p0 p1 h=>by rw [zdG p0 p1,hp.1 p p0 p1 h];rfl,fun S hS s1 s2 p p0 p1 h=>by
   rw [zdG p0 p1] at h;rcases (Bool.or_eq_true _ _).mp h with h | h
   ·exact hp.2 S hS s1 s2 p p0 p1 h
   ·obtain ⟨h1,h2⟩:=(Bool.and_eq_true _ _).mp h;exact s2 p p0 p1 h1 (zqw ok (hp.2 S hS s1 s2) p0 p1 h2)⟩,fun p p0 p1 h=>by rw [zdG p0 p1,h];rfl⟩)
  hb ⟨fun p _ _ h=>h,fun S hS s1 s2=>s1⟩
 refine ⟨R,e,hl,p1,fun p q0 q1 h1 h2 => ?_,p2⟩
 rw [<- hf,zdG q0 q1,h1,h2];simp
theorem zwi (ok:GrOk g) (hw:WOk g w) {a:List Bool} (ha:(a.length:Int)=g.2.1):∃ R,zbP w a=some R/\Gf g false a R:=by
 have hn:=ok.n;unfold zbP;rw [zvU (by omega)]
 obtain ⟨R,e,hl,⟨p1,p2⟩,hf⟩:=zuO (N:=g.2.1) (F:=fun X=>tb g.2.1 fun p=>ix X p && St g false X p) (loop:=fun X=>zdP w X)
  (P:=fun X=>(∀ p,0<=p->p < g.2.1->ix X p=true->ix a p=true)/\∀ S:List Bool,(S.length:Int)=g.2.1->(∀ p,0<=p->p < g.2.1->ix S p=true->ix a p=true/\St g false S p=true)->∀ p,0<=p->p < g.2.1->ix S p=true->ix X p=true)
  (fun X hX=>by
   conv=>lhs;rw [zmu];unfold zbF
   rw [zAp ok hw hX];simp only [Option.bind_some];rw [zyR (by have:=zdk (N:=g.2.1) (f:=fun p=>ix X p && St g false X p) (by omega);omega)]
   simp only [Option.bind_some,decide_eq_true_eq])
  (fun X _=>zdk (by omega))
  (fun X hX hp=>⟨⟨fun p p0 p1 h=>by
    rw [zdG p0 p1] at h;exact hp.1 p p0 p1 ((Bool.and_eq_true _ _).mp h).1,fun S hS s1 p p0 p1 h=>by
    rw [zdG p0 p1,hp.2 S hS s1 p p0 p1 h,zqw ok (hp.2 S hS s1) p0 p1 (s1 p p0 p1 h).2];rfl⟩,fun p p0 p1 h=>by
    rw [zdG p0 p1] at h;exact ((Bool.and_eq_true _ _).mp h).1⟩)
  ha ⟨fun p _ _ h=>h,fun S hS s1 p p0 p1 h=>(s1 p p0 p1 h).1⟩
 refine ⟨R,e,hl,fun p q0 q1 h=>⟨p1 p q0 q1 h,?_⟩,p2⟩
 rw [<- hf,zdG q0 q1] at h;exact ((Bool.and_eq_true _ _).mp h).2
theorem zBA (ok:GrOk g) {all:Bool} {a b:List Bool} (ha:(a.length:Int)=g.2.1) (hb:(b.length:Int)=g.2.1):∃ R,zlO g all a b=some R/\Lf g all a b R:=by
 have hn:=ok.n;have eg:(g.1,g.2.1,g.2.2.1,())=g:=rfl;have hb0 : ¬ b.length=0:=by omega
 have mk:=zst (N:=g.2.1) (b:=1) (by omega) (by omega) (by omega)
 have st:zlO g all a b=zbM g all a b (tb g.2.1 fun _=>false):=by
  unfold zlO;rw [zad mk];refine fill (N:=g.2.1) (by omega) (loop:=fun t out=>zkQ g all a b t out) (fin:=fun out=>zbM g all a b out) (f:=fun _=>false) (fun t out t0 t1 ho => ?_) (fun out ho => ?_) (zkR (by omega))
  ·conv=>lhs;rw [zqi];unfold zeL
   rw [if_pos (decide_eq_true t1),if_neg hb0,zad ⟨t0,by omega⟩,zad (by omega),zad (zaE (by omega) (by omega))]
  ·show zkQ g all a b g.2.1 out=_;rw [zqi];unfold zeL;rw [if_neg (by simp)]
 rw [st];obtain ⟨R,e,hl,⟨p1,p2⟩,hf⟩:=zxF (N:=g.2.1) (F:=fun X=>tb g.2.1 fun p=>ix b p || (ix a p && St g all X p)) (loop:=fun X=>zbM g all a b X)
  (P:=fun X=>(∀ p,0<=p->p < g.2.1->ix X p=true->ix (tb g.2.1 fun p=>ix b p || (ix a p && St g all X p)) p=true)/\∀ S:List Bool,(S.length:Int)=g.2.1->(∀ p,0<=p->p < g.2.1->ix b p=true->ix S p=true)->(∀ p,0<=p->p < g.2.1->ix a p=true->St g all S p=true->ix S p=true)->∀ p,0<=p->p < g.2.1->ix X p=true->ix S p=true)
  (fun X hX=>by
   have h1:zbM g all a b X=(fun out=>(zfn out X).bind fun y=>if y=true then some X else zbM g all a b out) (tb g.2.1 fun p=>ix b p || (ix a p && St g all X p)):=by
    conv=>lhs;rw [zvf];unfold zfC
    rw [zad mk];refine fill (N:=g.2.1) (by omega) (loop:=fun t out=>zcZ g all a b X (zbM g all a b) t out) (fin:=fun out=>(zfn out X).bind fun y=>if y=true then some X else zbM g all a b out) (f:=fun p=>ix b p || (ix a p && St g all X p)) (fun t out t0 t1 ho => ?_) (fun out ho => ?_) (zkR (by omega))
    ·have j12:∀ goes,zfq a b t out (zcZ g all a b X (zbM g all a b)) goes=zcZ g all a b X (zbM g all a b) (t+1) (out.set t.toNat (ix b t || (ix a t && goes))):=by
      intro goes;have j14:∀ v,zfr b t (zcZ g all a b X (zbM g all a b)) (out.set t.toNat v)=zcZ g all a b X (zbM g all a b) (t+1) (out.set t.toNat (ix b t || v)):=by
       intro v;have hl2:((out.set t.toNat v).length:Int)=g.2.1:=by simp;omega
       unfold zfr zfs;rw [if_neg hb0,if_pos rfl,zad ⟨t0,by omega⟩]
       cases ix b t
       ·rw [if_neg (by simp),zad ⟨t0,by omega⟩,zad (by omega),zad ⟨t0,by omega⟩,zad (by omega),zad (zaE (by omega) (by omega)),zgO t0 (by omega),List.set_set];rfl
       ·rw [if_pos rfl,zad ⟨t0,by omega⟩,zad (by omega),zad (zaE (by omega) (by omega)),List.set_set];rfl
      unfold zfq;rw [zad ⟨t0,by omega⟩]
      cases ix a t
      ·rw [if_neg (by simp),zad ⟨t0,by omega⟩,zad (by omega),j14];rfl
      ·rw [if_pos rfl,zad ⟨t0,by omega⟩,zad (by omega),j14];rfl
     conv=>lhs;rw [zqk];unfold zeM
     rw [if_pos (decide_eq_true t1),eg,zBj ok hX t0 t1];show (if all=true then _ else _)=_
     cases all
     ·rw [if_neg (by simp)];exact j12 _
     ·rw [if_pos rfl,zyu ok hX t0 t1];exact j12 _
    ·show zcZ g all a b X (zbM g all a b) g.2.1 out=_;rw [zqk];unfold zeM;rw [if_neg (by simp)]
   show zbM g all a b X=_;rw [h1];show (zfn _ X).bind _=_;rw [zyL (by have:=zdk (N:=g.2.1) (f:=fun p=>ix b p || (ix a p && St g all X p)) (by omega);omega)]
   simp only [Option.bind_some,decide_eq_true_eq])
  (fun X _=>zdk (by omega))
  (fun X hX hp=>⟨⟨fun p p0 p1 h=>by
    have h':=h;rw [zdG p0 p1] at h;rw [zdG p0 p1];rcases (Bool.or_eq_true _ _).mp h with h | h
    ·rw [h];rfl
    ·obtain ⟨h1,h2⟩:=(Bool.and_eq_true _ _).mp h;rw [h1,zqw ok hp.1 p0 p1 h2];simp,fun S hS s1 s2 p p0 p1 h=>by
    rw [zdG p0 p1] at h;rcases (Bool.or_eq_true _ _).mp h with h | h
    ·exact s1 p p0 p1 h
    ·obtain ⟨h1,h2⟩:=(Bool.and_eq_true _ _).mp h;exact s2 p p0 p1 h1 (zqw ok (hp.2 S hS s1 s2) p0 p1 h2)⟩,hp.1⟩)
  (X:=tb g.2.1 fun _=>false) (zdk (by omega)) ⟨fun p p0 p1 h=>(by rw [zdG p0 p1] at h;cases h),fun S hS s1 s2 p p0 p1 h=>(by rw [zdG p0 p1] at h;cases h)⟩
 refine ⟨R,e,hl,fun p q0 q1 h => ?_,fun p q0 q1 h1 h2 => ?_,p2⟩
 ·rw [<- hf,zdG q0 q1,h];rfl
 ·rw [<- hf,zdG q0 q1,h1,h2];simp
theorem zCf (ok:GrOk g) {all:Bool} {a:List Bool} (ha:(a.length:Int)=g.2.1):∃ R,zmX g all a=some R/\Gf g all a R:=by
 have hn:=ok.n;have eg:(g.1,g.2.1,g.2.2.1,())=g:=rfl;have mk:=zst (N:=g.2.1) (b:=1) (by omega) (by omega) (by omega)
 have st:zmX g all a=zbs g all a (tb g.2.1 fun _=>true):=by
  unfold zmX;rw [zad mk];refine fill (N:=g.2.1) (by omega) (loop:=fun t out=>zib g all a t out) (fin:=fun out=>zbs g all a out) (f:=fun _=>true) (fun t out t0 t1 ho => ?_) (fun out ho => ?_) (zkR (by omega))
  ·conv=>lhs;rw [znU];unfold zds
   rw [if_pos (decide_eq_true t1),zad ⟨t0,by omega⟩,zad (by omega),zad (zaE (by omega) (by omega))]
  ·show zib g all a g.2.1 out=_;rw [znU];unfold zds;rw [if_neg (by simp)]
 rw [st];obtain ⟨R,e,hl,⟨p1,p2⟩,hf⟩:=zuO (N:=g.2.1) (F:=fun X=>tb g.2.1 fun p=>ix a p && St g all X p) (loop:=fun X=>zbs g all a X)
  (P:=fun X=>(∀ p,0<=p->p < g.2.1->ix (tb g.2.1 fun p=>ix a p && St g all X p) p=true->ix X p=true)/\∀ S:List Bool,(S.length:Int)=g.2.1->(∀ p,0<=p->p < g.2.1->ix S p=true->ix a p=true/\St g all S p=true)->∀ p,0<=p->p < g.2.1->ix S p=true->ix X p=true)
  (fun X hX=>by
   have h1:zbs g all a X=(fun out=>(zfn out X).bind fun y=>if y=true then some X else zbs g all a out) (tb g.2.1 fun p=>ix a p && St g all X p):=by
    conv=>lhs;rw [ztz];unfold zeC
    rw [zad mk];refine fill (N:=g.2.1) (by omega) (loop:=fun t out=>zcL g all a X (zbs g all a) t out) (fin:=fun out=>(zfn out X).bind fun y=>if y=true then some X else zbs g all a out) (f:=fun p=>ix a p && St g all X p) (fun t out t0 t1 ho => ?_) (fun out ho => ?_) (zkR (by omega))
    ·have j12:∀ goes,zei a t out (zcL g all a X (zbs g all a)) goes=zcL g all a X (zbs g all a) (t+1) (out.set t.toNat (ix a t && goes)):=by
      intro goes;unfold zei;rw [zad ⟨t0,by omega⟩]
      cases ix a t
      ·rw [if_neg (by simp),zad ⟨t0,by omega⟩,zad (by omega),zad (zaE (by omega) (by omega))];rfl
      ·rw [if_pos rfl,zad ⟨t0,by omega⟩,zad (by omega),zad (zaE (by omega) (by omega))];rfl
     conv=>lhs;rw [znW];unfold zdt
     rw [if_pos (decide_eq_true t1),eg,zBj ok hX t0 t1];show (if all=true then _ else _)=_
     cases all
     ·rw [if_neg (by simp)];exact j12 _
     ·rw [if_pos rfl,zyu ok hX t0 t1];exact j12 _
    ·show zcL g all a X (zbs g all a) g.2.1 out=_;rw [znW];unfold zdt;rw [if_neg (by simp)]
   show zbs g all a X=_;rw [h1];show (zfn _ X).bind _=_;rw [zyL (by have:=zdk (N:=g.2.1) (f:=fun p=>ix a p && St g all X p) (by omega);omega)]
   simp only [Option.bind_some,decide_eq_true_eq])
  (fun X _=>zdk (by omega))
  (fun X hX hp=>⟨⟨fun p p0 p1 h=>by
    rw [zdG p0 p1] at h;rw [zdG p0 p1];obtain ⟨h1,h2⟩:=(Bool.and_eq_true _ _).mp h;rw [h1,zqw ok hp.1 p0 p1 h2];rfl,fun S hS s1 p p0 p1 h=>by
    rw [zdG p0 p1,(s1 p p0 p1 h).1,zqw ok (hp.2 S hS s1) p0 p1 (s1 p p0 p1 h).2];rfl⟩,hp.1⟩)
  (X:=tb g.2.1 fun _=>true) (zdk (by omega)) ⟨fun p p0 p1 h=>by rw [zdG p0 p1],fun S hS s1 p p0 p1 h=>by rw [zdG p0 p1]⟩
 refine ⟨R,e,hl,fun p q0 q1 h => ?_,p2⟩
 rw [<- hf,zdG q0 q1] at h;exact (Bool.and_eq_true _ _).mp h
end
section
variable {g:Gr}
def ng (N:Int) (X:List Bool):List Bool:=tb N fun p => !ix X p
theorem zkz {N:Int} {X:List Bool} {p:Int} (p0:0<=p) (p1:p < N):ix (ng N X) p=true ↔ ¬ ix X p=true:=by
 unfold ng;rw [zdG p0 p1];cases ix X p<;>simp
theorem zqa {N:Int} {X:List Bool} (h:0<=N):((ng N X).length:Int)=N:=zdk h
theorem zEc (ok:GrOk g) {X:List Bool} {p:Int} (p0:0<=p) (p1:p < g.2.1):St g true (ng g.2.1 X) p=true ↔ ¬ St g false X p=true:=by
 rw [zhA,zgL];constructor
 ·rintro h ⟨q,hq,hx⟩;obtain ⟨a,b⟩:=hq.rng ok p0 p1;exact (zkz a b).1 (h q hq) hx
 ·intro h q hq;obtain ⟨a,b⟩:=hq.rng ok p0 p1;exact (zkz a b).2 fun hx=>h ⟨q,hq,hx⟩
theorem zzZ (ok:GrOk g) {X:List Bool} {p:Int} (p0:0<=p) (p1:p < g.2.1):St g false (ng g.2.1 X) p=true ↔ ¬ St g true X p=true:=by
 rw [zhA,zgL];constructor
 ·rintro ⟨q,hq,hx⟩ h;obtain ⟨a,b⟩:=hq.rng ok p0 p1;exact (zkz a b).1 hx (h q hq)
 ·intro h;refine Classical.byContradiction fun hn=>h fun q hq=>Classical.byContradiction fun hx=>hn ⟨q,hq,?_⟩
  obtain ⟨a,b⟩:=hq.rng ok p0 p1;exact (zkz a b).2 hx
theorem zEg (ok:GrOk g) {o a G:List Bool} (ho:∀ p,0<=p->p < g.2.1->ix o p=true) (h:Gf g false (ng g.2.1 a) G):Lf g true o a (ng g.2.1 G):=by
 have hn:=ok.n;refine ⟨zqa (by omega),fun p p0 p1 ha=>(zkz p0 p1).2 fun hg=>(zkz p0 p1).1 (h.s p p0 p1 hg).1 ha,fun p p0 p1 _ hs=>(zkz p0 p1).2 fun hg=>(zEc ok p0 p1).1 hs (h.s p p0 p1 hg).2,fun S hS s1 s2 p p0 p1 hx => ?_⟩
 refine Classical.byContradiction fun hns=>(zkz p0 p1).1 hx (h.m (ng g.2.1 S) (zqa (by omega)) (fun q q0 q1 hq => ?_) p p0 p1 ((zkz p0 p1).2 hns))
 have hq:=(zkz q0 q1).1 hq;refine ⟨(zkz q0 q1).2 fun ha=>hq (s1 q q0 q1 ha),(zzZ ok q0 q1).2 fun hs=>hq (s2 q q0 q1 (ho q q0 q1) hs)⟩
theorem zEh (ok:GrOk g) {o a U:List Bool} (ho:∀ p,0<=p->p < g.2.1->ix o p=true) (h:Lf g false o (ng g.2.1 a) U):Gf g true a (ng g.2.1 U):=by
 have hn:=ok.n;refine ⟨zqa (by omega),fun p p0 p1 hx => ?_,fun S hS s1 p p0 p1 hx=>(zkz p0 p1).2 fun hu => ?_⟩
 ·have hu:=(zkz p0 p1).1 hx;exact ⟨Classical.byContradiction fun ha=>hu (h.t p p0 p1 ((zkz p0 p1).2 ha)),(zEc ok p0 p1).2 fun hs=>hu (h.s p p0 p1 (ho p p0 p1) hs)⟩
 ·refine (zkz p0 p1).1 (h.m (ng g.2.1 S) (zqa (by omega)) (fun q q0 q1 hq=>(zkz q0 q1).2 fun hs=>(zkz q0 q1).1 hq (s1 q q0 q1 hs).1) (fun q q0 q1 _ hq=>(zkz q0 q1).2 fun hs=>(zzZ ok q0 q1).1 hq (s1 q q0 q1 hs).2) p p0 p1 hu) hx
theorem zEi (ok:GrOk g) {a b G U:List Bool} (hG:Gf g false (ng g.2.1 b) G) (hU:Lf g false (ng g.2.1 b) (tb g.2.1 fun p => !ix a p && !ix b p) U):Lf g true a b (tb g.2.1 fun p => !ix G p && !ix U p):=by
 have hn:=ok.n;have hr:∀ p,0<=p->p < g.2.1->(ix (tb g.2.1 fun p => !ix G p && !ix U p) p=true ↔ ¬ ix G p=true /\ ¬ ix U p=true):=fun p p0 p1=>by
  rw [zdG p0 p1];cases ix G p<;>cases ix U p<;>simp
 have hab:∀ p,0<=p->p < g.2.1->(ix (tb g.2.1 fun p => !ix a p && !ix b p) p=true ↔ ¬ ix a p=true /\ ¬ ix b p=true):=fun p p0 p1=>by
  rw [zdG p0 p1];cases ix a p<;>cases ix b p<;>simp
 have hin:∀ p,0<=p->p < g.2.1->ix U p=true -> ¬ ix b p=true/\(¬ ix a p=true\/St g false U p=true):=by
  intro p p0 p1 hp;have:=hU.m (tb g.2.1 fun p => !ix b p && (!ix a p || St g false U p)) (zdk (by omega)) (fun q q0 q1 hq=>by
    obtain ⟨h1,h2⟩:=(hab q q0 q1).1 hq;rw [zdG q0 q1];simp [h1,h2])
   (fun q q0 q1 hq hs=>by
    have h1:=(zkz q0 q1).1 hq;rw [zdG q0 q1];have h2:St g false U q=true:=zqw ok (fun r r0 r1 hr=>by
     rw [zdG r0 r1] at hr;obtain ⟨h3,h4⟩:=(Bool.and_eq_true _ _).mp hr;have h3 : ¬ ix b r=true:=by simpa using h3
     rcases (Bool.or_eq_true _ _).mp h4 with h4 | h4
     ·exact hU.t r r0 r1 ((hab r r0 r1).2 ⟨by simpa using h4,h3⟩)
     ·exact hU.s r r0 r1 ((zkz r0 r1).2 h3) h4) q0 q1 hs
    simp [h1,h2]) p p0 p1 hp
  rw [zdG p0 p1] at this;obtain ⟨h3,h4⟩:=(Bool.and_eq_true _ _).mp this;refine ⟨by simpa using h3,?_⟩
  rcases (Bool.or_eq_true _ _).mp h4 with h4 | h4
  ·exact .inl (by simpa using h4)
  ·exact .inr h4
 refine ⟨zdk (by omega),fun p p0 p1 hb=>(hr p p0 p1).2 ⟨fun hg=>(zkz p0 p1).1 (hG.s p p0 p1 hg).1 hb,fun hu=>(hin p p0 p1 hu).1 hb⟩,fun p p0 p1 ha hs=>(hr p p0 p1).2 ⟨fun hg => ?_,fun hu => ?_⟩,fun S hS s1 s2 p p0 p1 hx => ?_⟩
 ·obtain ⟨q,hq,hx⟩:=zgL.1 (hG.s p p0 p1 hg).2;obtain ⟨q0,q1⟩:=hq.rng ok p0 p1;exact ((hr q q0 q1).1 (zhA.1 hs q hq)).1 hx
 ·rcases (hin p p0 p1 hu).2 with h | h
  ·exact h ha
  ·obtain ⟨q,hq,hx⟩:=zgL.1 h;obtain ⟨q0,q1⟩:=hq.rng ok p0 p1;exact ((hr q q0 q1).1 (zhA.1 hs q hq)).2 hx
 ·-- what is neither in S nor in U is for ever so
  refine Classical.byContradiction fun hns => ?_
  obtain ⟨h1,h2⟩:=(hr p p0 p1).1 hx;have hT:∀ q,0<=q->q < g.2.1->(ix (tb g.2.1 fun p => !ix S p && !ix U p) q=true ↔ ¬ ix S q=true /\ ¬ ix U q=true):=fun q q0 q1=>by
   rw [zdG q0 q1];cases ix S q<;>cases ix U q<;>simp
  refine h1 (hG.m (tb g.2.1 fun p => !ix S p && !ix U p) (zdk (by omega)) (fun q q0 q1 hq => ?_) p p0 p1 ((hT p p0 p1).2 ⟨hns,h2⟩))
  obtain ⟨k1,k2⟩:=(hT q q0 q1).1 hq;have kb : ¬ ix b q=true:=fun h=>k1 (s1 q q0 q1 h)
  have ka:ix a q=true:=Classical.byContradiction fun h=>k2 (hU.t q q0 q1 ((hab q q0 q1).2 ⟨h,kb⟩))
  have ks : ¬ St g true S q=true:=fun h=>k1 (s2 q q0 q1 ka h)
  have ku : ¬ St g false U q=true:=fun h=>k2 (hU.s q q0 q1 ((zkz q0 q1).2 kb) h)
  refine ⟨(zkz q0 q1).2 kb,zgL.2 ?_⟩
  refine Classical.byContradiction fun hno=>ks (zhA.2 fun r hr => ?_)
  obtain ⟨r0,r1⟩:=hr.rng ok q0 q1;refine Classical.byContradiction fun hrs=>hno ⟨r,hr,(hT r r0 r1).2 ⟨hrs,fun hru=>ku (zgL.2 ⟨r,hr,hru⟩)⟩⟩
end
section
variable {g:Gr} {w:Wlk}
theorem zzU (ok:GrOk g):∃ w,zcd g=some w/\WOk g w:=by
 have hn:=ok.n;have ha:=ok.a;have mk:=zst (N:=g.2.1) (b:=24) (by omega) (by omega) (by omega)
 have hmain:∃ w,zfy g g.1 g.2.1 g.2.2.1 (List.replicate (g.2.1).toNat ([]:List Int))=some w/\WOk g w:=by
  unfold zfy;obtain ⟨s1,⟨i1,i2⟩,e1⟩:=zul (len:=(g.2.2.1.length:Int)) (lo:=0) (L:=fun t (s:List (List Int))=>zcD g t g.1 g.2.1 g.2.2.1 s)
   (f:=fun t s=>if (ix g.2.2.1 t).2.2.1∈ix s (ix g.2.2.1 t).1 then s else s.set (ix g.2.2.1 t).1.toNat (ix s (ix g.2.2.1 t).1++[(ix g.2.2.1 t).2.2.1]))
   (I:=fun t (s:List (List Int))=>(s.length:Int)=g.2.1/\∀ p,0<=p->p < g.2.1->((ix s p).length:Int)<=t/\∀ q,q∈ix s p↔∃ j:Int,0<=j/\j < t/\(ix g.2.2.1 j).1=p/\(ix g.2.2.1 j).2.2.1=q)
   (s:=List.replicate (g.2.1).toNat ([]:List Int)) (by omega)
   ⟨by simp;omega,fun p p0 p1=>by
    rw [zsW p0 (by omega)]
    exact ⟨by simp,fun q=>⟨fun h=>by simp at h,fun ⟨j,j0,j1,_⟩=>by omega⟩⟩⟩
   (fun t s t0 t1 hI=>by
    obtain ⟨hl,hr⟩:=hI;obtain ⟨x0,x1,x2,x3,_⟩:=ok.x _ (zeS t0 t1);obtain ⟨r1,r2⟩:=hr _ x0 x1;generalize hx:ix g.2.2.1 t=x at *
    have hc:=zt9 (s:=ix s x.1) (v:=x.2.2.1) (by omega)
    have fT:fits (t+1):=zaE (by omega) (by omega)
    constructor
    ·show zcD g t g.1 g.2.1 g.2.2.1 s=zcD g (t+1) g.1 g.2.1 g.2.2.1 _
     conv=>lhs;rw [zjW];unfold zb3
     rw [if_pos (decide_eq_true t1),zad ⟨t0,t1⟩,hx,zad ⟨x0,by omega⟩,zad (by omega),zad (by omega)]
     obtain ⟨b,e,hb⟩:=hc;rw [e];simp only [Option.bind_some]
     cases b with
     | true=>
      rw [if_neg (by simp),if_pos (hb.1 rfl)]
      unfold zbm;rw [zad fT]
     | false=>
      rw [if_pos (by simp),if_neg (fun h=>by have:=hb.2 h;cases this)]
      unfold zbm;have hro:room (ix s x.1) [x.2.2.1] 8:=zkU (by simp;omega)
      (repeat' first | with_reducible refine zdE ?_ ?_ | with_reducible refine G_to ?_ ?_)<;>first | rfl | omega | exact hro | exact fT | trivial | exact ⟨x0,by omega⟩
    ·skip
     have stp:∀ p q:Int,(∃ j:Int,0<=j/\j < t+1/\(ix g.2.2.1 j).1=p/\(ix g.2.2.1 j).2.2.1=q)↔((∃ j:Int,0<=j/\j < t/\(ix g.2.2.1 j).1=p/\(ix g.2.2.1 j).2.2.1=q)\/(x.1=p/\x.2.2.1=q)):=by
      intro p q;constructor
      ·rintro ⟨j,j0,j1,h⟩;by_cases e:j=t
       ·subst e;rw [hx] at h;exact .inr h
       ·exact .inl ⟨j,j0,by omega,h⟩
      ·rintro (⟨j,j0,j1,h⟩ | h)
       ·exact ⟨j,j0,by omega,h⟩
       ·exact ⟨t,t0,by omega,by rw [hx];exact h⟩
     split
     ·rename_i hin;refine ⟨hl,fun p p0 p1=>⟨by have:=(hr p p0 p1).1;omega,fun q => ?_⟩⟩
      rw [stp,(hr p p0 p1).2 q];constructor
      ·exact fun h => .inl h
      ·rintro (h | ⟨rfl,rfl⟩)
       ·exact h
       ·exact (r2 _).1 hin
     ·refine ⟨by simp;omega,fun p p0 p1 => ?_⟩
      by_cases e:p=x.1
      ·subst e;rw [zgO p0 (by omega)]
       refine ⟨by simp;omega,fun q => ?_⟩
       rw [stp,List.mem_append,r2 q,List.mem_singleton];exact ⟨fun h=>h.elim .inl fun h => .inr ⟨rfl,h.symm⟩,fun h=>h.elim .inl fun h => .inr h.2.symm⟩
      ·rw [zmS x0 p0 (fun h=>e h.symm)]
       refine ⟨by have:=(hr p p0 p1).1;omega,fun q => ?_⟩
       rw [stp,(hr p p0 p1).2 q];exact ⟨fun h => .inl h,fun h=>h.elim id fun h=>absurd h.1.symm e⟩)
  rw [show zcD g 0 g.1 g.2.1 g.2.2.1 (List.replicate (g.2.1).toNat ([]:List Int))=_ from e1];rw [zjW];unfold zb3;rw [if_neg (by simp)]
  obtain ⟨s2,⟨k1,k2⟩,e2⟩:=zul (len:=(s1.length:Int)) (lo:=0) (L:=fun t (s:List (List Int))=>zcE s1 t g.1 g.2.1 g.2.2.1 s)
   (f:=fun t s=>if (ix s t).length=0 then s.set t.toNat [t] else s)
   (I:=fun t (s:List (List Int))=>(s.length:Int)=g.2.1/\∀ p,0<=p->p < g.2.1->ix s p=if p < t/\(ix s1 p).length=0 then [p] else ix s1 p)
   (s:=s1) (by omega) ⟨i1,fun p p0 p1=>by rw [if_neg (by omega)]⟩
   (fun t s t0 t1 hI=>by
    obtain ⟨hl,hr⟩:=hI;have fT:fits (t+1):=zaE (by omega) (by omega)
    have ht:ix s t=ix s1 t:=by rw [hr t t0 (by omega),if_neg (by omega)]
    constructor
    ·show zcE s1 t g.1 g.2.1 g.2.2.1 s=zcE s1 (t+1) g.1 g.2.1 g.2.2.1 _
     conv=>lhs;rw [zjX];unfold zb4
     rw [if_pos (decide_eq_true t1),zad ⟨t0,by omega⟩,zad (by omega),zad (by omega)]
     by_cases e:(ix s t).length=0
     ·rw [if_pos (by simp [e]),if_pos e,zad ⟨t0,by omega⟩,zad fT]
     ·rw [if_neg (by simpa using e),if_neg e,zad fT]
    ·skip
     split
     ·rename_i e;refine ⟨by simp;omega,fun p p0 p1 => ?_⟩
      by_cases ep:p=t
      ·subst ep;rw [zgO p0 (by omega),if_pos ⟨by omega,by rw [<- ht];exact e⟩]
      ·rw [zmS t0 p0 (fun h=>ep h.symm),hr p p0 p1]
       by_cases c:p < t/\(ix s1 p).length=0
       ·rw [if_pos c,if_pos ⟨by omega,c.2⟩]
       ·rw [if_neg c,if_neg (fun h=>c ⟨by omega,h.2⟩)]
     ·rename_i e;refine ⟨hl,fun p p0 p1 => ?_⟩
      rw [hr p p0 p1];by_cases c:p < t/\(ix s1 p).length=0
      ·rw [if_pos c,if_pos ⟨by omega,c.2⟩]
      ·rw [if_neg c,if_neg (fun h => ?_)]
       by_cases ep:p=t
       ·subst ep;exact e (by rw [ht];exact h.2)
       ·exact c ⟨by omega,h.2⟩)
  rw [show zcE s1 0 g.1 g.2.1 g.2.2.1 s1=_ from e2];rw [zjX];unfold zb4;rw [if_neg (by simp)]
  refine ⟨_,rfl,⟨rfl,k1,fun p p0 p1 => ?_⟩⟩
  show (ix s2 p).length<=61/\∀ q,q∈ix s2 p↔Go g p q;obtain ⟨m1,m2⟩:=i2 p p0 p1;have hgo:∀ q,(∃ j:Int,0<=j/\j < (g.2.2.1.length:Int)/\(ix g.2.2.1 j).1=p/\(ix g.2.2.1 j).2.2.1=q)↔∃ x∈g.2.2.1,x.1=p/\x.2.2.1=q:=fun q=>(zoH (l:=g.2.2.1) (P:=fun x:Arc=>x.1=p/\x.2.2.1=q)).symm
  rw [k2 p p0 p1];by_cases e:(ix s1 p).length=0
  ·rw [if_pos ⟨by omega,e⟩]
   have hnil:ix s1 p=[]:=List.length_eq_zero_iff.1 e;have hno:∀ x∈g.2.2.1,x.1≠p:=fun x hx h=>by
    have:=(m2 x.2.2.1).2 ((hgo _).2 ⟨x,hx,h,rfl⟩);rw [hnil] at this;simp at this
   refine ⟨by simp,fun q => ?_⟩
   rw [List.mem_singleton];exact ⟨fun h => .inr ⟨hno,h.symm⟩,fun h=>h.elim (fun ⟨x,hx,h1,_⟩=>absurd h1 (hno x hx)) fun h=>h.2.symm⟩
  ·rw [if_neg (fun h=>e h.2)]
   refine ⟨by omega,fun q => ?_⟩
   rw [m2 q,hgo q];refine ⟨fun h => .inl h,fun h=>h.elim id fun h => ?_⟩
   exfalso
   cases hc:ix s1 p with
   | nil=>rw [hc] at e;simp at e
   | cons y ys=>
    obtain ⟨x,hx,h1,_⟩:=(hgo y).1 ((m2 y).1 (by rw [hc];exact List.mem_cons_self ..))
    exact h.1 x hx h1
 obtain ⟨w,e,hw⟩:=hmain;refine ⟨w,?_,hw⟩
 unfold zcd;exact zdE (G_to mk e) (G_to mk e)
theorem zax {α:Type} {x:α} {K:List (Tr α)}:(Tr.mk x K).isMk=true:=rfl
theorem zxw (ok:GrOk g) (hw:WOk g w) {s v:Int} {al:Bool} (hs:s=48\/s=49):zai w (Tr.mk (s,al,v,()) [])=some (tb g.2.1 fun _=>decide (s=49)):=by
 have e:zdL w (Tr.mk (s,al,v,()) [])=some (tb g.2.1 fun _=>decide (s=49)):=by
  unfold zdL;refine zmN ok hw (loop:=fun t out=>zdO w (Tr.mk (s,al,v,()) []) t out) (rule:=fun t=>zdS t (Tr.mk (s,al,v,()) [])) (fun t out=>zms _ _ _ _) (fun t t0 t1 => ?_)
  unfold zdS;exact zad zax
 have e':((zdL w (Tr.mk (s,al,v,()) [])).bind fun y=>some y)=some (tb g.2.1 fun _=>decide (s=49)):=by rw [e];rfl
 rw [ze1];unfold zbk zba;rcases hs with rfl | rfl
 ·exact (zad zax).trans ((if_pos rfl).trans ((if_pos rfl).trans e'))
 ·exact (zad zax).trans ((if_neg (by exact Bool.false_ne_true)).trans ((if_pos rfl).trans e'))
theorem zAP (ok:GrOk g) {v p:Int} {al:Bool}:zc2 (zd6 g.2.2.1 p (Tr.mk (97,al,v,()) [])) (∃ x∈g.2.2.1,x.1=p/\x.2.1=v):=by
 have ha:=ok.a;unfold zd6 zii;refine zjc (s:=g.2.2.1) (f:=fun x=>zcj x p (Tr.mk (97,al,v,()) [])) (L:=fun t=>zd8 g.2.2.1 p (Tr.mk (97,al,v,()) []) t) (P:=fun x=>x.1=p/\x.2.1=v) (fun t=>zm6 _ _ _ _) (by omega) (fun x hx => ?_)
 show zc2 (zcj x p _) _;unfold zcj;by_cases e:x.1=p
 ·refine ⟨decide (x.2.1=v),(if_pos (decide_eq_true e)).trans (zad zax),by simp [e]⟩
 ·exact ⟨false,if_neg (by simpa using e),by simp [e]⟩
open Classical in
theorem zDs (ok:GrOk g) (hw:WOk g w) {v:Int} {al:Bool}:zai w (Tr.mk (97,al,v,()) [])=some (tb g.2.1 fun p=>decide (∃ x∈g.2.2.1,x.1=p/\x.2.1=v)):=by
 have hn:=ok.n;have hwl:=wlen ok hw;have e:zem w (Tr.mk (97,al,v,()) []) w=some (tb g.2.1 fun p=>decide (∃ x∈g.2.2.1,x.1=p/\x.2.1=v),w):=by
  unfold zem;rw [zad (by rw [hw.e];exact zst (by omega) (by omega) (by omega))]
  refine fill (N:=g.2.1) (by omega) (loop:=fun t out=>zcf w (Tr.mk (97,al,v,()) []) t w out) (fin:=fun out=>some (out,w)) (f:=fun p=>decide (∃ x∈g.2.2.1,x.1=p/\x.2.1=v)) (fun t out t0 t1 ho => ?_) (fun out ho => ?_) hwl
  ·have hu:zdT t (Tr.mk (97,al,v,()) []) w=some (decide (∃ x∈g.2.2.1,x.1=t/\x.2.1=v),w):=by
    unfold zdT;rw [hw.e,(zAP ok (p:=t)).eq];rfl
   conv=>lhs;rw [zfJ];unfold za5
   rw [if_pos (decide_eq_true (by omega)),hu]
   show G _ _=_;rw [zad ⟨t0,by omega⟩,zad (by omega),zad (zaE (by omega) (by omega))]
  ·show zcf w _ g.2.1 w out=_;rw [zfJ];unfold za5;rw [if_neg (by simp only [decide_eq_true_eq];omega)]
 rw [ze1];unfold zbk zba;exact (zad zax).trans ((if_neg (by exact Bool.false_ne_true)).trans ((if_neg (by exact Bool.false_ne_true)).trans ((if_pos rfl).trans (by rw [e];rfl))))
theorem zzf {s v:Int} {al:Bool} {a:Tr ND} {K:List (Tr ND)} {R:List Bool} (hs:s=33\/s=88\/s=70\/s=71\/s=38\/s=124\/s=85) (ha:zai w a=some R):
  zai w (Tr.mk (s,al,v,()) (a::K))=zao zai w (Tr.mk (s,al,v,()) (a::K)) R:=by
 have e:((zai w (ix (a::K) 0)).bind fun y=>zao zai w (Tr.mk (s,al,v,()) (a::K)) y)=zao zai w (Tr.mk (s,al,v,()) (a::K)) R:=by
  show ((zai w a).bind fun y=>_)=_
  rw [ha];rfl
 have hk:0<=(0:Int)/\(0:Int) < ((a::K).length:Int):=⟨by omega,by simp only [List.length_cons];omega⟩
 rw [ze1];unfold zbk zba;refine (zad zax).trans ?_
 have d48 : ¬ decide (s=48)=true:=by simp;omega
 have d49 : ¬ decide (s=49)=true:=by simp;omega
 have d97 : ¬ decide (s=97)=true:=by simp;omega
 exact (if_neg d48).trans ((if_neg d49).trans ((if_neg d97).trans ((zad zax).trans ((zad hk).trans (zdE e e)))))
theorem zDm {N:Int} {v:Int} {al:Bool} {K:List (Tr ND)} {R:List Bool} (hR:(R.length:Int)=N) (h1:N<=12):zao zai w (Tr.mk (33,al,v,()) K) R=some (ng N R):=by
 unfold zao;exact (zad zax).trans ((if_pos rfl).trans (by rw [zvw hR h1];rfl))
theorem zB5 {s v:Int} {al:Bool} {a b:Tr ND} {R S:List Bool} (hs:s=38\/s=124\/s=85) (hb:zai w b=some S):
  zao zai w (Tr.mk (s,al,v,()) [a,b]) R=zap w (Tr.mk (s,al,v,()) [a,b]) R S:=by
 have e:((zai w (ix [a,b] 1)).bind fun y=>zap w (Tr.mk (s,al,v,()) [a,b]) R y)=zap w (Tr.mk (s,al,v,()) [a,b]) R S:=by
  show ((zai w b).bind fun y=>_)=_
  rw [hb];rfl
 have j13:zaH zai w (Tr.mk (s,al,v,()) [a,b]) R true=zap w (Tr.mk (s,al,v,()) [a,b]) R S:=by
  unfold zaH;have hk:0<=(1:Int)/\(1:Int) < (([a,b]:List (Tr ND)).length:Int):=⟨by omega,by simp⟩
  exact (if_pos rfl).trans ((zad zax).trans ((zad hk).trans (zdE e e)))
 unfold zao;rcases hs with rfl | rfl | rfl
 ·exact (zad zax).trans ((if_neg (by exact Bool.false_ne_true)).trans ((if_pos rfl).trans j13))
 ·exact (zad zax).trans ((if_neg (by exact Bool.false_ne_true)).trans ((if_neg (by exact Bool.false_ne_true)).trans ((if_pos rfl).trans j13)))
 ·exact (zad zax).trans ((if_neg (by exact Bool.false_ne_true)).trans ((if_neg (by exact Bool.false_ne_true)).trans ((if_neg (by exact Bool.false_ne_true)).trans j13)))
theorem zDn (ok:GrOk g) (hw:WOk g w) {v:Int} {al:Bool} {K:List (Tr ND)} {R S:List Bool} (hR:(R.length:Int)=g.2.1) (hS:(S.length:Int)=g.2.1):zap w (Tr.mk (38,al,v,()) K) R S=some (tb g.2.1 fun p=>ix R p && ix S p):=by
 unfold zap;exact (zad zax).trans ((if_pos rfl).trans (by rw [zAm ok hw hR hS];rfl))
theorem zB4 (ok:GrOk g) (hw:WOk g w) {v:Int} {al:Bool} {K:List (Tr ND)} {R S:List Bool} (hR:(R.length:Int)=g.2.1) (hS:(S.length:Int)=g.2.1):zap w (Tr.mk (124,al,v,()) K) R S=some (tb g.2.1 fun p=>ix R p || ix S p):=by
 unfold zap;exact (zad zax).trans ((if_neg (by exact Bool.false_ne_true)).trans ((zad zax).trans ((if_pos rfl).trans (by rw [zAn ok hw hR hS];rfl))))
theorem zDq (ok:GrOk g) (hw:WOk g w) {v:Int} {al:Bool} {K:List (Tr ND)} {a b:List Bool} (ha:(a.length:Int)=g.2.1) (hb:(b.length:Int)=g.2.1):∃ R,zap w (Tr.mk (85,al,v,()) K) a b=some R/\Lf g al a b R:=by
 have hn:=ok.n
 cases al with
 | false=>
  obtain ⟨R,e,h⟩:=zpO ok hw ha hb;refine ⟨R,?_,h⟩
  unfold zap;exact (zad zax).trans ((if_neg (by exact Bool.false_ne_true)).trans ((zad zax).trans ((if_neg (by exact Bool.false_ne_true)).trans ((zad zax).trans ((if_pos rfl).trans (by rw [e];rfl))))))
 | true=>
  obtain ⟨G',e1,hG⟩:=zwi ok hw (zqa (N:=g.2.1) (X:=b) (by omega))
  obtain ⟨U,e2,hU⟩:=zpO ok hw (zqa (N:=g.2.1) (X:=b) (by omega)) (zdk (N:=g.2.1) (f:=fun p => !ix a p && !ix b p) (by omega))
  refine ⟨_,?_,zEi ok hG hU⟩
  have en:zcT b=some (ng g.2.1 b):=zvw hb (by omega)
  have j21:zck w a b G'=some (tb g.2.1 fun p => !ix G' p && !ix U p):=by
   unfold zck zcl;simp only [en,zAq ok hw ha hb,e2,zAr ok hw hG.l hU.l,Option.bind_some];exact zdE (zdE (zdE rfl rfl) rfl) rfl
  unfold zap;refine (zad zax).trans ((if_neg (by exact Bool.false_ne_true)).trans ((zad zax).trans ((if_neg (by exact Bool.false_ne_true)).trans ((zad zax).trans ((if_neg (by exact Bool.false_ne_true)).trans ?_)))))
  simp only [en,e1,j21,Option.bind_some];exact zdE (zdE rfl rfl) rfl
theorem zuD {s v:Int} {al:Bool} {K:List (Tr ND)} {R:List Bool} {N:Int} (hs:s=88\/s=70\/s=71) (hR:(R.length:Int)=N) (h1:N<=12):
  zao zai w (Tr.mk (s,al,v,()) K) R=zaw w (Tr.mk (s,al,v,()) K) (if al=true then ng N R else R):=by
 have j13:zaH zai w (Tr.mk (s,al,v,()) K) R false=zaw w (Tr.mk (s,al,v,()) K) (if al=true then ng N R else R):=by
  unfold zaH;refine (if_neg (by exact Bool.false_ne_true)).trans ((zad zax).trans ?_)
  cases al
  ·exact if_neg (by exact Bool.false_ne_true)
  ·refine (if_pos rfl).trans ?_
   rw [zvw hR h1];rfl
 unfold zao;rcases hs with rfl | rfl | rfl
 ·exact (zad zax).trans ((if_neg (by exact Bool.false_ne_true)).trans ((if_neg (by exact Bool.false_ne_true)).trans ((if_neg (by exact Bool.false_ne_true)).trans j13)))
 ·exact (zad zax).trans ((if_neg (by exact Bool.false_ne_true)).trans ((if_neg (by exact Bool.false_ne_true)).trans ((if_neg (by exact Bool.false_ne_true)).trans j13)))
 ·exact (zad zax).trans ((if_neg (by exact Bool.false_ne_true)).trans ((if_neg (by exact Bool.false_ne_true)).trans ((if_neg (by exact Bool.false_ne_true)).trans j13)))
theorem zDr (ok:GrOk g) (hw:WOk g w) {v:Int} {al:Bool} {K:List (Tr ND)} {a:List Bool} (ha:(a.length:Int)=g.2.1):zaw w (Tr.mk (88,al,v,()) K) (if al=true then ng g.2.1 a else a)=some (tb g.2.1 fun p=>St g al a p):=by
 have hn:=ok.n;unfold zaw;refine (zad zax).trans ((if_pos rfl).trans ?_)
 cases al with
 | false=>
  rw [if_neg (by simp),zvm ok hw ha]
  exact (zad zax).trans (if_neg (by exact Bool.false_ne_true))
 | true=>
  rw [if_pos rfl,zvm ok hw (zqa (by omega))]
  refine (zad zax).trans ((if_pos rfl).trans ?_)
  show (zcT (tb g.2.1 fun p=>St g false (ng g.2.1 a) p)).bind _=_
  rw [zvw (zdk (by omega)) (by omega)]
  show some _=some _;congr 1
  refine zzj (by omega) (zdk (by omega)) fun p p0 p1 => ?_
  rw [zdG p0 p1,zdG p0 p1];have:=zzZ (g:=g) ok (X:=a) p0 p1
  cases h1:St g false (ng g.2.1 a) p<;>cases h2:St g true a p<;>simp_all
theorem zDo (ok:GrOk g) (hw:WOk g w) {v:Int} {al:Bool} {K:List (Tr ND)} {a:List Bool} (ha:(a.length:Int)=g.2.1):∃ R,zaw w (Tr.mk (70,al,v,()) K) (if al=true then ng g.2.1 a else a)=some R/\Lf g al (tb g.2.1 fun _=>true) a R:=by
 have hn:=ok.n
 cases al with
 | false=>
  obtain ⟨R,e,h⟩:=zpO ok hw (zdk (N:=g.2.1) (f:=fun _=>true) (by omega)) ha
  refine ⟨R,?_,h⟩
  rw [show (if (false:Bool)=true then ng g.2.1 a else a)=a from if_neg (by simp)]
  unfold zaw;refine (zad zax).trans ((if_neg (by exact Bool.false_ne_true)).trans ((zad zax).trans ((zad zax).trans ((if_pos rfl).trans ?_))))
  rw [zvx ok hw];show (zaT w _ a).bind _=_;rw [e];exact (zad zax).trans (if_neg (by exact Bool.false_ne_true))
 | true=>
  obtain ⟨R,e,h⟩:=zwi ok hw (zqa (N:=g.2.1) (X:=a) (by omega))
  refine ⟨ng g.2.1 R,?_,zEg ok (fun p p0 p1=>by rw [zdG p0 p1]) h⟩
  rw [show (if (true:Bool)=true then ng g.2.1 a else a)=ng g.2.1 a from if_pos rfl]
  unfold zaw;refine (zad zax).trans ((if_neg (by exact Bool.false_ne_true)).trans ((zad zax).trans ((zad zax).trans ((if_neg (by exact Bool.false_ne_true)).trans ?_))))
  rw [e];refine (zad zax).trans ((if_pos rfl).trans ?_)
  rw [zvw h.l (by omega)];rfl
theorem zDp (ok:GrOk g) (hw:WOk g w) {v:Int} {al:Bool} {K:List (Tr ND)} {a:List Bool} (ha:(a.length:Int)=g.2.1):∃ R,zaw w (Tr.mk (71,al,v,()) K) (if al=true then ng g.2.1 a else a)=some R/\Gf g al a R:=by
 have hn:=ok.n
 cases al with
 | false=>
  obtain ⟨R,e,h⟩:=zwi ok hw ha;refine ⟨R,?_,h⟩
  rw [show (if (false:Bool)=true then ng g.2.1 a else a)=a from if_neg (by simp)]
  unfold zaw;refine (zad zax).trans ((if_neg (by exact Bool.false_ne_true)).trans ((zad zax).trans ((zad zax).trans ((if_neg (by exact Bool.false_ne_true)).trans ?_))))
  rw [e];exact (zad zax).trans (if_neg (by exact Bool.false_ne_true))
 | true=>
  obtain ⟨R,e,h⟩:=zpO ok hw (zdk (N:=g.2.1) (f:=fun _=>true) (by omega)) (zqa (N:=g.2.1) (X:=a) (by omega))
  refine ⟨ng g.2.1 R,?_,zEh ok (fun p p0 p1=>by rw [zdG p0 p1]) h⟩
  rw [show (if (true:Bool)=true then ng g.2.1 a else a)=ng g.2.1 a from if_pos rfl]
  unfold zaw;refine (zad zax).trans ((if_neg (by exact Bool.false_ne_true)).trans ((zad zax).trans ((zad zax).trans ((if_pos rfl).trans ?_))))
  rw [zvx ok hw];show (zaT w _ _).bind _=_;rw [e];refine (zad zax).trans ((if_pos rfl).trans ?_)
  rw [zvw h.l (by omega)];rfl
end
section
variable {g:Gr} {w:Wlk} {l:L5} {k s v A B:Int} {al:Bool} {u:Unit}
theorem zEF (ok:GrOk g) (k0:0<=k) (k1:k < l.length) (hx:ix l k=(48,al,v,A,B,u)):zaJ g l k=some (tb g.2.1 fun _=>false):=by
 have hn:=ok.n;rw [zjz];unfold zej;rw [zad ⟨k0,k1⟩,zad (zst (by omega) (by omega) (by omega)),hx]
 refine (if_pos rfl).trans (congrArg some (zzj (by omega) (zkR (by omega)) fun p p0 p1 => ?_))
 rw [zsW p0 (by omega)]
theorem zCC (ok:GrOk g) (hx:ix l k=(s,al,v,A,B,u)):zhu g l k 0 (List.replicate (g.2.1).toNat false)=zb1 g l k 0 (tb g.2.1 fun _=>decide (s=49)):=by
 have hn:=ok.n;refine fill (N:=g.2.1) (by omega) (loop:=fun t out=>zhu g l k t out) (fin:=fun out=>zb1 g l k 0 out) (f:=fun _=>decide (s=49)) (fun t out t0 t1 ho => ?_) (fun out ho => ?_) (zkR (by omega))
 ·conv=>lhs;rw [zpe];unfold zek
  rw [if_pos (decide_eq_true t1),zad ⟨t0,by omega⟩,zad (by omega),zad (zaE (by omega) (by omega)),hx]
 ·show zhu g l k g.2.1 out=_;rw [zpe];unfold zek;rw [if_neg (by simp)]
theorem zEG (ok:GrOk g) (k0:0<=k) (k1:k < l.length) (hx:ix l k=(49,al,v,A,B,u)):zaJ g l k=some (tb g.2.1 fun _=>true):=by
 have hn:=ok.n;have ha:=ok.a;rw [zjz];unfold zej zd4;rw [zad ⟨k0,k1⟩,zad (zst (by omega) (by omega) (by omega)),zCC ok hx,hx]
 refine (if_neg (by exact Bool.false_ne_true)).trans ((if_pos rfl).trans ((if_pos rfl).trans ?_))
 have:∀ i:Int,(ix l k).1=49->True:=fun _ _=>trivial
 refine zfu (len:=(g.2.2.1.length:Int)) (L:=fun i=>zb1 g l k i (tb g.2.1 fun _=>decide ((49:Int)=49))) (bad:=fun _=>False) (lo:=0) (by omega) (fun i i0 i1=>⟨fun h=>h.elim,fun _ => ?_⟩) (fun _ => ?_)
 ·show zb1 g l k i _=_
  conv=>lhs;rw [zgJ];unfold zcs zeN
  rw [if_pos (decide_eq_true i1),hx];refine (if_neg (by exact Bool.false_ne_true)).trans ((if_neg (by exact Bool.false_ne_true)).trans ?_)
  rw [zad (zaE (by omega) (by omega))]
 ·show zb1 g l k _ _=_;rw [zgJ];unfold zcs;rw [if_neg (by simp)]
  simp
open Classical in
theorem zEH (ok:GrOk g) (k0:0<=k) (k1:k < l.length) (hx:ix l k=(97,al,v,A,B,u)):zaJ g l k=some (tb g.2.1 fun p=>decide (∃ x∈g.2.2.1,x.1=p/\x.2.1=v)):=by
 have hn:=ok.n;have ha:=ok.a;rw [zjz];unfold zej zd4;rw [zad ⟨k0,k1⟩,zad (zst (by omega) (by omega) (by omega)),zCC ok hx,hx]
 refine (if_neg (by exact Bool.false_ne_true)).trans ((if_neg (by exact Bool.false_ne_true)).trans ((if_pos rfl).trans ?_))
 obtain ⟨s',⟨i1,i2⟩,e1⟩:=zul (len:=(g.2.2.1.length:Int)) (lo:=0) (L:=fun t (s:List Bool)=>zb1 g l k t s)
  (f:=fun t s=>if (ix g.2.2.1 t).2.1=v then s.set (ix g.2.2.1 t).1.toNat true else s)
  (I:=fun t (s:List Bool)=>(s.length:Int)=g.2.1/\∀ p,0<=p->p < g.2.1->(ix s p=true↔∃ j:Int,0<=j/\j < t/\(ix g.2.2.1 j).1=p/\(ix g.2.2.1 j).2.1=v))
  (s:=tb g.2.1 fun _=>decide ((97:Int)=49)) (by omega)
  ⟨zdk (by omega),fun p p0 p1=>by
   rw [zdG p0 p1];exact ⟨fun h=>(by simp at h),fun ⟨j,j0,j1,_⟩=>by omega⟩⟩
  (fun t s t0 t1 hI=>by
   obtain ⟨hl,hr⟩:=hI;obtain ⟨x0,x1,_⟩:=ok.x _ (zeS t0 t1);have fT:fits (t+1):=zaE (by omega) (by omega)
   constructor
   ·show zb1 g l k t s=zb1 g l k (t+1) _
    conv=>lhs;rw [zgJ];unfold zcs zeN
    rw [if_pos (decide_eq_true t1),hx];refine (if_pos rfl).trans ((zad ⟨t0,t1⟩).trans ?_)
    by_cases e:(ix g.2.2.1 t).2.1=v
    ·rw [if_pos e];refine (if_pos (decide_eq_true e)).trans ?_
     rw [zad ⟨t0,t1⟩,zad ⟨x0,by omega⟩,zad (by omega),zad fT]
    ·rw [if_neg e];refine (if_neg (by simpa using e)).trans ?_
     rw [zad fT]
   ·have stp:∀ p:Int,(∃ j:Int,0<=j/\j < t+1/\(ix g.2.2.1 j).1=p/\(ix g.2.2.1 j).2.1=v)↔((∃ j:Int,0<=j/\j < t/\(ix g.2.2.1 j).1=p/\(ix g.2.2.1 j).2.1=v)\/((ix g.2.2.1 t).1=p/\(ix g.2.2.1 t).2.1=v)):=by
     intro p;constructor
     ·rintro ⟨j,j0,j1,h⟩;by_cases e:j=t
      ·subst e;exact .inr h
      ·exact .inl ⟨j,j0,by omega,h⟩
     ·rintro (⟨j,j0,j1,h⟩ | h)
      ·exact ⟨j,j0,by omega,h⟩
      ·exact ⟨t,t0,by omega,h⟩
    split
    ·rename_i e;refine ⟨by simp;omega,fun p p0 p1 => ?_⟩
     rw [stp];by_cases ep:p=(ix g.2.2.1 t).1
     ·subst ep;rw [zgO p0 (by omega)];exact ⟨fun _ => .inr ⟨rfl,e⟩,fun _=>rfl⟩
     ·rw [zmS x0 p0 (fun h=>ep h.symm),hr p p0 p1]
      exact ⟨fun h => .inl h,fun h=>h.elim id fun h=>absurd h.1.symm ep⟩
    ·rename_i e;refine ⟨hl,fun p p0 p1 => ?_⟩
     rw [stp,hr p p0 p1];exact ⟨fun h => .inl h,fun h=>h.elim id fun h=>absurd h.2 e⟩)
 rw [show zb1 g l k 0 (tb g.2.1 fun _=>decide ((97:Int)=49))=_ from e1]
 rw [zgJ];unfold zcs;rw [if_neg (by simp)]
 refine congrArg some (zzj (by omega) i1 fun p p0 p1 => ?_)
 refine Bool.eq_iff_iff.2 ((i2 p p0 p1).trans ?_)
 rw [decide_eq_true_iff];exact (zoH (l:=g.2.2.1) (P:=fun x:Arc=>x.1=p/\x.2.1=v)).symm
theorem zBn (ok:GrOk g) (k0:0<=k) (k1:k < l.length) (hx:ix l k=(s,al,v,A,B,u)) (hs:s=33\/s=88\/s=70\/s=71) {R:List Bool} (hA:zaJ g l A=some R):zaJ g l k=zbH g l k R (List.replicate (g.2.1).toNat false):=by
 have hn:=ok.n;have mk:=zst (N:=g.2.1) (b:=1) (by omega) (by omega) (by omega)
 have hA':zaJ (g.1,g.2.1,g.2.2.1,()) l (ix l k).2.2.2.1=some R:=by rw [hx];exact hA
 have d:∀ c:Int,c≠33->c≠88->c≠70->c≠71 -> ¬ decide ((ix l k).1=c)=true:=fun c _ _ _ _=>by rw [hx];simp;omega
 rw [zjz];unfold zej zd4;rw [zad ⟨k0,k1⟩,zad mk,if_neg (d 48 (by decide) (by decide) (by decide) (by decide)),if_neg (d 49 (by decide) (by decide) (by decide) (by decide)),if_neg (d 97 (by decide) (by decide) (by decide) (by decide)),hA']
 show G _ _=_;unfold zdd;rw [zad mk,if_neg (d 38 (by decide) (by decide) (by decide) (by decide)),if_neg (d 124 (by decide) (by decide) (by decide) (by decide)),if_neg (d 85 (by decide) (by decide) (by decide) (by decide))]
theorem zBo (ok:GrOk g) (k0:0<=k) (k1:k < l.length) (hx:ix l k=(s,al,v,A,B,u)) (hs:s=38\/s=124\/s=85) {R S:List Bool} (hA:zaJ g l A=some R) (hB:zaJ g l B=some S):zaJ g l k=zbH g l k R S:=by
 have hn:=ok.n;have mk:=zst (N:=g.2.1) (b:=1) (by omega) (by omega) (by omega)
 have hA':zaJ (g.1,g.2.1,g.2.2.1,()) l (ix l k).2.2.2.1=some R:=by rw [hx];exact hA
 have hB':zaJ (g.1,g.2.1,g.2.2.1,()) l (ix l k).2.2.2.2.1=some S:=by rw [hx];exact hB
 have d:∀ c:Int,c≠s -> ¬ decide ((ix l k).1=c)=true:=fun c _=>by rw [hx];simp;omega
 have j18:zdd zaJ g l k R true=zbH g l k R S:=by
  unfold zdd;rw [if_pos rfl,hB'];rfl
 rw [zjz];unfold zej zd4;rw [zad ⟨k0,k1⟩,zad mk,if_neg (d 48 (by omega)),if_neg (d 49 (by omega)),if_neg (d 97 (by omega)),hA']
 show G _ _=_;rw [zad mk];rcases hs with rfl | rfl | rfl
 ·rw [if_pos (by rw [hx];rfl)];exact j18
 ·rw [if_neg (d 38 (by omega)),if_pos (by rw [hx];rfl)];exact j18
 ·rw [if_neg (d 38 (by omega)),if_neg (d 124 (by omega)),show decide ((ix l k).1=85)=true from by rw [hx];rfl];exact j18
theorem zxD (ok:GrOk g) (hx:ix l k=(s,al,v,A,B,u)) (hs:s=33\/s=38\/s=124\/s=88) {R S:List Bool} (hR:(R.length:Int)=g.2.1) (hS:(S.length:Int)=g.2.1) {f:Int->Bool}
  (hf:∀ p,0<=p->p < g.2.1->f p=if s=33 then !ix R p else if s=38 then ix R p && ix S p else if s=124 then ix R p || ix S p else St g al R p):zbH g l k R S=some (tb g.2.1 f):=by
 have hn:=ok.n;have eg:(g.1,g.2.1,g.2.2.1,())=g:=rfl;have d:∀ c:Int,c≠s -> ¬ decide ((ix l k).1=c)=true:=fun c _=>by rw [hx];simp;omega
 unfold zbH;rw [if_neg (d 85 (by omega)),if_neg (d 71 (by omega)),if_neg (d 70 (by omega))]
 refine fill (N:=g.2.1) (by omega) (loop:=fun t out=>zeO g l k R S t out) (fin:=fun out=>some out) (f:=f) (fun t out t0 t1 ho => ?_) (fun out ho => ?_) (zkR (by omega))
 ·have fT:fits (t+1):=zaE (by omega) (by omega)
  show zeO g l k R S t out=zeO g l k R S (t+1) _;have hft:=hf t t0 t1
  conv=>lhs;rw [zn0];unfold zdv
  rw [if_pos (decide_eq_true t1)];rcases hs with rfl | rfl | rfl | rfl
  ·rw [if_pos (by rw [hx];rfl),zad ⟨t0,by omega⟩,zad (by omega),zad ⟨t0,by omega⟩,zad (by omega),zad fT,show f t = !ix R t by rw [hft];simp]
  ·rw [if_neg (d 33 (by omega)),if_pos (by rw [hx];rfl),zad ⟨t0,by omega⟩,zad (by omega),show f t=(ix R t && ix S t) by rw [hft];simp]
   cases ix R t
   ·rw [if_neg (by simp),zad ⟨t0,by omega⟩,zad (by omega),zad fT];rfl
   ·rw [if_pos rfl,zad ⟨t0,by omega⟩,zad (by omega),zad ⟨t0,by omega⟩,zad (by omega),zad fT];rfl
  ·rw [if_neg (d 33 (by omega)),if_neg (d 38 (by omega)),if_pos (by rw [hx];rfl),zad ⟨t0,by omega⟩,zad (by omega),show f t=(ix R t || ix S t) by rw [hft];simp]
   cases ix R t
   ·rw [if_neg (by simp),zad ⟨t0,by omega⟩,zad (by omega),zad ⟨t0,by omega⟩,zad (by omega),zad fT];rfl
   ·rw [if_pos rfl,zad ⟨t0,by omega⟩,zad (by omega),zad fT];rfl
  ·rw [if_neg (d 33 (by omega)),if_neg (d 38 (by omega)),if_neg (d 124 (by omega)),if_pos (by rw [hx];rfl),eg,zBj ok hR t0 t1,show f t=St g al R t by rw [hft];simp]
   show G _ _=_;rw [zad ⟨t0,by omega⟩,zad (by omega)]
   have hal:(ix l k).2.1=al:=by rw [hx]
   cases al with
   | false=>
    rw [if_neg (by rw [hal];simp),zad fT]
   | true=>
    rw [if_pos hal,zyu ok hR t0 t1];have hl2:((out.set t.toNat (St g false R t)).length:Int)=g.2.1:=by simp;omega
    show G _ _=_;rw [zad ⟨t0,by omega⟩,zad (by omega),zad fT,List.set_set]
 ·show zeO g l k R S g.2.1 out=_;rw [zn0];unfold zdv;rw [if_neg (by simp)]
theorem zCB (ok:GrOk g) (hx:ix l k=(85,al,v,A,B,u)) {R S:List Bool} (hR:(R.length:Int)=g.2.1) (hS:(S.length:Int)=g.2.1):∃ T,zbH g l k R S=some T/\Lf g al R S T:=by
 have eg:(g.1,g.2.1,g.2.2.1,())=g:=rfl;obtain ⟨T,e,h⟩:=zBA ok (all:=al) hR hS;refine ⟨T,?_,h⟩
 unfold zbH;rw [if_pos (by rw [hx];rfl),eg,show (ix l k).2.1=al by rw [hx],e];rfl
theorem zCA (ok:GrOk g) (hx:ix l k=(71,al,v,A,B,u)) {R S:List Bool} (hR:(R.length:Int)=g.2.1):∃ T,zbH g l k R S=some T/\Gf g al R T:=by
 have eg:(g.1,g.2.1,g.2.2.1,())=g:=rfl;obtain ⟨T,e,h⟩:=zCf ok (all:=al) hR;refine ⟨T,?_,h⟩
 unfold zbH;rw [if_neg (by rw [hx];exact Bool.false_ne_true),if_pos (by rw [hx];rfl),eg,show (ix l k).2.1=al by rw [hx],e];rfl
theorem zCz (ok:GrOk g) (hx:ix l k=(70,al,v,A,B,u)) {R:List Bool} (hR:(R.length:Int)=g.2.1):∃ T,zbH g l k R (List.replicate (g.2.1).toNat false)=some T/\Lf g al (tb g.2.1 fun _=>true) R T:=by
 have hn:=ok.n;have eg:(g.1,g.2.1,g.2.2.1,())=g:=rfl;obtain ⟨T,e,h⟩:=zBA ok (all:=al) (zdk (N:=g.2.1) (f:=fun _=>true) (by omega)) hR
 refine ⟨T,?_,h⟩
 unfold zbH;rw [if_neg (by rw [hx];exact Bool.false_ne_true),if_neg (by rw [hx];exact Bool.false_ne_true),if_pos (by rw [hx];rfl)]
 have h1:zfD g l k R 0 (List.replicate (g.2.1).toNat false)=(zlO g al (tb g.2.1 fun _=>true) R).bind fun y=>some y:=by
  refine fill (N:=g.2.1) (by omega) (loop:=fun t out=>zfD g l k R t out) (fin:=fun out=>(zlO g al out R).bind fun y=>some y) (f:=fun _=>true) (fun t out t0 t1 ho => ?_) (fun out ho => ?_) (zkR (by omega))
  ·conv=>lhs;rw [znZ];unfold zdu
   rw [if_pos (decide_eq_true t1),zad ⟨t0,by omega⟩,zad (by omega),zad (zaE (by omega) (by omega))]
  ·show zfD g l k R g.2.1 out=_;rw [znZ];unfold zdu;rw [if_neg (by simp),eg,show (ix l k).2.1=al by rw [hx]]
 rw [h1,e];rfl
theorem zpP (ok:GrOk g) (hw:WOk g w) {t:Tr ND} {k:Int} (h:Stn l t k):∃ R,zai w t=some R/\zaJ g l k=some R/\(R.length:Int)=g.2.1:=by
 have hn:=ok.n
 induction h with
 | leaf k k0 k1 hs=>
  generalize hx:ix l k=x at hs;obtain ⟨s,al,v,A,B,u⟩:=x;rcases (hs:s=48\/s=49\/s=97) with rfl | rfl | rfl
  ·exact ⟨_,zxw ok hw (.inl rfl),zEF ok k0 k1 hx,zdk (by omega)⟩
  ·exact ⟨_,zxw ok hw (.inr rfl),zEG ok k0 k1 hx,zdk (by omega)⟩
  ·exact ⟨_,zDs ok hw,zEH ok k0 k1 hx,zdk (by omega)⟩
 | one k a k0 k1 hs ha iha=>
  obtain ⟨Ra,e1,e2,hl⟩:=iha;generalize hx:ix l k=x at hs e2;obtain ⟨s,al,v,A,B,u⟩:=x;have e2:zaJ g l A=some Ra:=e2;have hs:s=33\/s=88\/s=70\/s=71:=hs;have p1:zai w (Tr.mk (s,al,v,()) [a])=_:=zzf (by omega) e1
  have r1:=zBn ok k0 k1 hx hs e2;rcases hs with rfl | rfl | rfl | rfl
  ·exact ⟨_,p1.trans (zDm hl (by omega)),r1.trans (zxD ok hx (by omega) hl (zkR (by omega)) fun p _ _=>by simp),zqa (by omega)⟩
  ·exact ⟨_,p1.trans ((zuD (.inl rfl) hl (by omega)).trans (zDr ok hw hl)),r1.trans (zxD ok hx (by omega) hl (zkR (by omega)) fun p _ _=>by simp),zdk (by omega)⟩
  ·obtain ⟨R,q1,q2⟩:=zDo ok hw (v:=v) (al:=al) (K:=[a]) hl;obtain ⟨T,q3,q4⟩:=zCz ok hx hl;rw [<- q2.uniq q4] at q3;exact ⟨R,p1.trans ((zuD (.inr (.inl rfl)) hl (by omega)).trans q1),r1.trans q3,q2.l⟩
  ·obtain ⟨R,q1,q2⟩:=zDp ok hw (v:=v) (al:=al) (K:=[a]) hl;obtain ⟨T,q3,q4⟩:=zCA ok hx (S:=List.replicate (g.2.1).toNat false) hl;rw [<- q2.uniq q4] at q3;exact ⟨R,p1.trans ((zuD (.inr (.inr rfl)) hl (by omega)).trans q1),r1.trans q3,q2.l⟩
 | two k a b k0 k1 hs ha hb iha ihb=>
  obtain ⟨Ra,e1,e2,hl⟩:=iha;obtain ⟨Rb,e3,e4,hl2⟩:=ihb;generalize hx:ix l k=x at hs e2 e4;obtain ⟨s,al,v,A,B,u⟩:=x;have e2:zaJ g l A=some Ra:=e2;have e4:zaJ g l B=some Rb:=e4;have hs:s=38\/s=124\/s=85:=hs;have p1:zai w (Tr.mk (s,al,v,()) [a,b])=_:=(zzf (by omega) e1).trans (zB5 hs e3)
  have r1:=zBo ok k0 k1 hx hs e2 e4;rcases hs with rfl | rfl | rfl
  ·exact ⟨_,p1.trans (zDn ok hw hl hl2),r1.trans (zxD ok hx (by omega) hl hl2 fun p _ _=>by simp),zdk (by omega)⟩
  ·exact ⟨_,p1.trans (zB4 ok hw hl hl2),r1.trans (zxD ok hx (by omega) hl hl2 fun p _ _=>by simp),zdk (by omega)⟩
  ·obtain ⟨R,q1,q2⟩:=zDq ok hw (v:=v) (al:=al) (K:=[a,b]) hl hl2;obtain ⟨T,q3,q4⟩:=zCB ok hx hl hl2;rw [<- q2.uniq q4] at q3;exact ⟨R,p1.trans q1,r1.trans q3,q2.l⟩
end
theorem zeV {α:Type}:∀ {ks:List α} {x:α},zd0 ks x=none↔x∉ks
 | [],x=>by simp [zd0]
 | y::ys,x=>by
  unfold zd0;by_cases h:y=x
  ·rw [if_pos h];simp [h]
  ·rw [if_neg h,Option.map_eq_none_iff,zeV];simp [Ne.symm h]
abbrev ones {α:Type} (ks:List α):List Int:=List.replicate ks.length 1
theorem zEy {α:Type} {ks:List α} {x:α}:(mget ks (ones ks) x 0=0)↔x∉ks:=by
 unfold mget
 cases h:zd0 ks x with
 | none=>simp [zeV.1 h]
 | some j=>
  have hx:x∈ks:=by
   refine Classical.byContradiction fun hn => ?_
   rw [zeV.2 hn] at h;cases h
  have:=znx h;simp [hx,this]
theorem zEz {α:Type} {ks:List α} {x:α} (h:x∉ks):zok ks x=ks++[x]:=by
 unfold zok;rw [zeV.2 h]
theorem zEA {α:Type} {ks:List α} {x:α} (h:x∉ks):zrn ks (ones ks) x 1=ones (ks++[x]):=by
 unfold zrn;rw [zeV.2 h];show List.replicate ks.length 1++[1]=List.replicate (ks++[x]).length 1;rw [List.length_append,List.length_singleton,List.replicate_succ']
theorem zBh {α:Type} [DecidableEq α]:∀ {l U:List α},l.Nodup->(∀ x∈l,x∈U)->l.length<=U.length
 | [],_,_,_=>Nat.zero_le _
 | a::l,U,hn,hs=>by
  have ha:=hs a (by simp)
  obtain ⟨h1,h2⟩:=List.nodup_cons.1 hn;have:=zBh (U:=U.erase a) h2 (fun x hx=>(List.mem_erase_of_ne (by rintro rfl;exact h1 hx)).2 (hs x (by simp [hx])))
  rw [List.length_erase_of_mem ha] at this;have hp:0 < U.length:=List.length_pos_of_mem ha;rw [List.length_cons];omega
theorem zkh {l:List Int} {n:Nat} (h:l.Nodup) (hb:∀ x∈l,0<=x/\x < n):l.length<=n:=by
 have:=zBh (U:=(List.range n).map Int.ofNat) h (fun x hx=>by
  have:=hb x hx;exact List.mem_map.2 ⟨x.toNat,List.mem_range.2 (by omega),by show ((x.toNat:Nat):Int)=x;omega⟩)
 simpa using this
theorem zA5 {α:Type} {ks:List α} {x:α} (h:x∈ks):∃ j,zd0 ks x=some j:=by
 cases e:zd0 ks x with
 | none=>exact absurd h (zeV.1 e)
 | some j=>exact ⟨j,rfl⟩
theorem zrk {α:Type} (ks:List α) (x:α):zd0 (x::ks) x=some 0:=by unfold zd0;rw [if_pos rfl]
theorem zrl {α:Type} {ks:List α} {x y:α} (h:y≠x):zd0 (y::ks) x=(zd0 ks x).map (·+1):=by
 rw [zd0,if_neg h]
theorem zxr {α:Type}:∀ {ks:List α} {x:α} {j:Nat} (l:List α),zd0 ks x=some j->zd0 (ks++l) x=some j
 | [],_,_,_,h=>by cases h
 | y::ks,x,j,l,h=>by
  rw [List.cons_append];by_cases e:y=x
  ·subst e;rw [zrk] at h ⊢;exact h
  ·rw [zrl e] at h ⊢
   cases hm:zd0 ks x with
   | none=>rw [hm] at h;cases h
   | some i=>rw [hm] at h;rw [zxr l hm];exact h
theorem zxs {α:Type}:∀ {ks:List α} {x:α},x∉ks->zd0 (ks++[x]) x=some ks.length
 | [],x,_=>zrk _ _
 | y::ks,x,h=>by
  have hy:y≠x:=by rintro rfl;exact h (by simp)
  rw [List.cons_append,zrl hy,zxs (fun hh=>h (by simp [hh]))];rfl
theorem zy9 {α:Type}:∀ {ks:List α} {x:α} {k:Nat},ks[k]? =some x->(∀ j,j < k->ks[j]? ≠some x)->zd0 ks x=some k
 | [],_,_,h,_=>by simp at h
 | y::ks,x,k,h,hf=>by
  cases k with
  | zero=>
   have:y=x:=by simpa using h
   subst this;exact zrk _ _
  | succ k=>
   have hy:y≠x:=by have:=hf 0 (by omega);simpa using this
   rw [zrl hy,zy9 (k:=k) (by simpa using h) (fun j hj=>by have:=hf (j+1) (by omega);simpa using this)];rfl
theorem zEw {α:Type} {ks:List α} {x y:α} {j:Nat} (h:zd0 ks x=some j) (k:zd0 ks y=some j):x=y:=by
 have:=zmU h;rw [zmU k] at this;injection this with this;exact this.symm
theorem zDb {α:Type} {ks:List α} (hn:ks.Nodup) {j:Nat} (hj:j < ks.length):zd0 ks ks[j]=some j:=
 zy9 (by simp) fun i hi e=>by
  have hi':i < ks.length:=by omega
  rw [List.getElem?_eq_getElem hi'] at e;exact List.pairwise_iff_getElem.1 hn i j hi' hj hi (Option.some.inj e)
theorem zA4 {α β:Type} (f:α->β):∀ {ks:List α} {x:α},(∀ y∈ks,f y=f x->y=x)->zd0 (ks.map f) (f x)=zd0 ks x
 | [],_,_=>rfl
 | y::ks,x,h=>by
  have ih:=zA4 f (ks:=ks) (x:=x) (fun z hz=>h z (by simp [hz]))
  rw [List.map_cons];by_cases e:y=x
  ·subst e;rw [zrk,zrk]
  ·rw [zrl e,zrl (fun hh=>e (h y (by simp) hh)),ih]
def iota (n:Nat):List Int:=(List.range n).map fun j:Nat=>(j:Int)
theorem iota_len (n:Nat):(iota n).length=n:=by simp [iota]
theorem zAS (n:Nat):iota (n+1)=iota n++[(n:Int)]:=by simp [iota,List.range_succ]
theorem zEx {α:Type} {ks:List α} {x:α} {j:Nat} (h:zd0 ks x=some j):mget ks (iota ks.length) x 0=j:=by
 have:=znx h;unfold mget;rw [h];simp [iota,this]
theorem zzc {α:Type} {ks:List α} {x:α}:mhas ks x=true↔x∈ks:=by
 unfold mhas
 cases e:zd0 ks x with
 | none=>simp [zeV.1 e]
 | some j=>
  have:=zmU e;simp [List.mem_of_getElem? this]
theorem zD9 {α:Type} {ks:List α} {x:α} (h:x∉ks):zrn ks (iota ks.length) x ks.length=iota (ks++[x]).length:=by
 unfold zrn;rw [zeV.2 h,List.length_append,List.length_singleton,zAS]
theorem zx1 {α:Type} [DecidableEq α]:∀ {l U:List α},U.Nodup->(∀ x∈U,x∈l)->l.length<=U.length->l.Nodup
 | [],_,_,_,_=>List.nodup_nil
 | a::l,U,hU,hs,hl=>by
  have ha:a∉l:=fun ha=>by
   have:=zBh (l:=U) (U:=l) hU (fun x hx=>by
    rcases List.mem_cons.1 (hs x hx) with rfl | h
    ·exact ha
    ·exact h)
   rw [List.length_cons] at hl;omega
  refine List.nodup_cons.2 ⟨ha,?_⟩
  refine zx1 (U:=U.erase a) (hU.erase a) (fun x hx => ?_) ?_
  ·have hne:x≠a:=((List.Nodup.mem_erase_iff hU).1 hx).1;rcases List.mem_cons.1 (hs x (List.mem_of_mem_erase hx)) with h | h
   ·exact absurd h hne
   ·exact h
  ·have:U.length - 1<=(U.erase a).length:=by
    by_cases h:a∈U
    ·rw [List.length_erase_of_mem h];omega
    ·rw [List.erase_of_not_mem h];omega
   rw [List.length_cons] at hl;omega
theorem zzD {l:List Int} {k:Int} (k0:0<=k) (k1:k < l.length):ix l.reverse k=ix l (l.length - 1 - k):=by
 rw [zus k0 (by rw [List.length_reverse];exact k1),zus (by omega) (by omega),List.getElem_reverse]
 congr 1;omega
theorem zqK {w:List Int} (hw:w.length<=1000000):zjf w=some w.reverse:=by
 have key:∀ (m:Nat) (i j:Int) (s:List Int),(j - i).toNat=m->0<=i->i+j=w.length - 1->i<=j+1->s.length=w.length->(∀ k:Int,0<=k->k < w.length->ix s k=if k < i\/j < k then ix w (w.length - 1 - k) else ix w k)->zfF i j s=some w.reverse:=by
  intro m
  induction m using Nat.strongRecOn with
  | _ m ih=>
  intro i j s hm i0 hij hji hs hk;rw [zp1];unfold zcI;by_cases c:i < j
  ·rw [if_pos (decide_eq_true c),zad (by omega),zad (by omega),zad (by omega),zad (by omega),zad (by omega),zad (by omega),zad (by rw [List.length_set];omega),zad (by rw [List.length_set];omega),zad (by unfold fits;omega),zad (by unfold fits;omega)]
   refine ih (j - 1 - (i+1)).toNat (by omega) (i+1) (j - 1) _ rfl (by omega) (by omega) (by omega) (by rw [List.length_set,List.length_set];exact hs) (fun k k0 k1 => ?_)
   by_cases e1:j=k
   ·subst e1;rw [zgO (by omega) (by rw [List.length_set];omega),hk i i0 (by omega),if_neg (by omega),if_pos (by omega)]
    congr 1;omega
   ·rw [zmS (by omega) k0 e1]
    by_cases e2:i=k
    ·subst e2;rw [zgO i0 (by omega),hk j (by omega) (by omega),if_neg (by omega),if_pos (by omega)]
     congr 1;omega
    ·rw [zmS i0 k0 e2,hk k k0 k1];by_cases e3:k < i\/j < k
     ·rw [if_pos e3,if_pos (by omega)]
     ·rw [if_neg e3,if_neg (by omega)]
  ·rw [if_neg (by simpa using c)]
   refine congrArg some (zxn (by rw [List.length_reverse];exact hs) (fun k k0 k1 => ?_))
   rw [hk k k0 (by omega),zzD k0 (by omega)]
   by_cases e3:k < i\/j < k
   ·rw [if_pos e3]
   ·rw [if_neg e3];congr 1;omega
 unfold zjf;rw [zad (by unfold fits;omega)]
 exact key _ 0 (w.length - 1) w rfl (by omega) (by omega) (by omega) rfl (fun k k0 k1=>by rw [if_neg (by omega)])
theorem Go.ex {g:Gr} (p:Int):∃ q,Go g p q:=by
 by_cases h:∃ x∈g.2.2.1,x.1=p
 ·obtain ⟨x,hx,e⟩:=h;exact ⟨_,.inl ⟨x,hx,e,rfl⟩⟩
 ·exact ⟨p,.inr ⟨fun x hx e=>h ⟨x,hx,e⟩,rfl⟩⟩
theorem zzb {α β:Type} {ks:List α} {vs:List β} {x q:α} {y z:β} (hl:vs.length=ks.length) (h:q∈ks):mget (ks++[x]) (vs++[y]) q z=mget ks vs q z:=by
 obtain ⟨j,e⟩:=zA5 h;have hj:=znx e;unfold mget;rw [zxr _ e,e];show (vs++[y]).getD j z=vs.getD j z;simp only [List.getD_eq_getElem?_getD];rw [List.getElem?_append_left (by omega)]
theorem zza {α β:Type} {ks:List α} {vs:List β} {x:α} {y z:β} (hl:vs.length=ks.length) (h:x∉ks):mget (ks++[x]) (vs++[y]) x z=y:=by
 unfold mget;rw [zxs h];show (vs++[y]).getD ks.length z=y;simp only [List.getD_eq_getElem?_getD];rw [List.getElem?_append_right (by omega),hl]
 simp
theorem zvu {α:Type} {ks:List α} {x:α} (h:x∉ks):zok ks x=ks++[x]:=by
 unfold zok;rw [zeV.2 h]
theorem zvv {α β:Type} {ks:List α} {vs:List β} {x:α} {y:β} (h:x∉ks):zrn ks vs x y=vs++[y]:=by
 unfold zrn;rw [zeV.2 h]
def Ch (g:Gr) (a b:List Bool) (ks vs:List Int) (p:Int):List Int->Prop
 | []=>False
 | [q]=>q=p/\mget ks vs p 0 = -1
 | q::q'::r=>mget ks vs q 0=q'/\Go g q' q/\ix a q'=true /\ ¬ ix b q'=true/\Ch g a b ks vs p (q'::r)
theorem Ch.ext {g:Gr} {a b:List Bool} {ks vs:List Int} {p x y:Int} (hl:vs.length=ks.length):∀ {r:List Int},(∀ q∈r,q∈ks)->Ch g a b ks vs p r->Ch g a b (ks++[x]) (vs++[y]) p r
 | [],_,h=>h
 | [q],hm,h=>⟨h.1,by rw [zzb hl (by have:=hm q (by simp);rw [<- h.1];exact this)];exact h.2⟩
 | q::q'::r,hm,h=>⟨by rw [zzb hl (hm q (by simp))];exact h.1,h.2.1,h.2.2.1,h.2.2.2.1,Ch.ext hl (fun z hz=>hm z (List.mem_cons_of_mem _ hz)) h.2.2.2.2⟩
theorem Ch.last {g:Gr} {a b:List Bool} {ks vs:List Int} {p:Int}:∀ {r:List Int},Ch g a b ks vs p r->∃ s,r=s++[p]
 | [q],h=>⟨[],by rw [h.1];rfl⟩
 | q::q'::r,h=>by
  obtain ⟨s,e⟩:=Ch.last h.2.2.2.2;exact ⟨q::s,by rw [e];rfl⟩
def Way (g:Gr) (R:List Int):Prop:=∀ i:Int,0<=i->i+1 < R.length->Go g (ix R i) (ix R (i+1))
theorem Way.snoc {g:Gr} {R:List Int} {q:Int} (h:Way g R) (hn:0 < R.length) (hq:Go g (ix R (R.length - 1)) q):Way g (R++[q]):=by
 intro i i0 i1;simp only [List.length_append,List.length_singleton] at i1;by_cases e:i+1 < R.length
 ·rw [zbe i0 (by omega),zbe (by omega) e];exact h i i0 e
 ·have e1:i=R.length - 1:=by omega
  have e2:i+1=R.length:=by omega
  rw [e2,zdf,zbe i0 (by omega),e1];exact hq
theorem Ch.way {g:Gr} {a b:List Bool} {ks vs:List Int} {p:Int}:∀ {r:List Int},Ch g a b ks vs p r->Way g r.reverse/\∀ i:Int,0<=i->i+1 < r.reverse.length->ix a (ix r.reverse i)=true /\ ¬ ix b (ix r.reverse i)=true
 | [q],h=>⟨fun i i0 i1=>by simp at i1;omega,fun i i0 i1=>by simp at i1;omega⟩
 | q::q'::r,h=>by
  obtain ⟨h1,h2⟩:=Ch.way h.2.2.2.2;have e:(q::q'::r).reverse=(q'::r).reverse++[q]:=by simp
  have hl:0 < (q'::r).reverse.length:=by simp
  have hlast:ix (q'::r).reverse ((q'::r).reverse.length - 1)=q':=by
   rw [List.reverse_cons];have:(((r.reverse++[q']).length:Int) - 1)=r.reverse.length:=by simp
   rw [this];exact zdf
  rw [e];refine ⟨h1.snoc hl (by rw [hlast];exact h.2.1),fun i i0 i1 => ?_⟩
  simp only [List.length_append,List.length_singleton] at i1;rw [zbe i0 (by omega)]
  by_cases ei:i+1 < (q'::r).reverse.length
  ·exact h2 i i0 ei
  ·have:i=(q'::r).reverse.length - 1:=by omega
   rw [this,hlast];exact ⟨h.2.2.1,h.2.2.2.1⟩
section
variable {g:Gr} {w:Wlk}
theorem zEb {a b:List Bool} {ks vs:List Int} {p:Int}:∀ {r acc:List Int},(∀ q∈r,0<=q)->acc.length+r.length<=1000->Ch g a b ks vs p r->zbA ks vs (r.headD (-1)) acc=some (acc++r).reverse
 | [q],acc,hq,hl,h=>by
  have q0:=hq q (by simp)
  have hl:acc.length+1<=1000:=hl;show zbA ks vs q acc=_;rw [zev];unfold za2;rw [if_pos (decide_eq_true q0),zad (zkU (by simp;omega))]
  rw [h.1,h.2,zev];unfold za2;rw [if_neg (by decide),zqK (by simp;omega)]
  rfl
 | q::q'::r,acc,hq,hl,h=>by
  have q0:=hq q (by simp)
  simp only [List.length_cons] at hl;show zbA ks vs q acc=_;rw [zev];unfold za2;rw [if_pos (decide_eq_true q0),zad (zkU (by simp;omega)),h.1]
  have:=zEb (r:=q'::r) (acc:=acc++[q]) (fun z hz=>hq z (List.mem_cons_of_mem _ hz)) (by simp;omega) h.2.2.2.2
  have e:(acc++[q])++(q'::r)=acc++(q::q'::r):=by simp
  rw [e] at this;exact this
structure BI (g:Gr) (a b:List Bool) (p d:Int) (ks vs:List Int):Prop where
 nd:ks.Nodup
 l:vs.length=ks.length
 r:∀ q∈ks,0<=q/\q < g.2.1
 hp:p∈ks
 d0:0<=d
 d1:d<=ks.length
 ab:∀ q∈ks,ix a q=true\/ix b q=true
 c:∀ q∈ks,∃ r,Ch g a b ks vs p (q::r)/\(∀ z∈q::r,z∈ks)/\(q::r).length<=ks.length
 t:∀ i:Int,0<=i->i < d -> ¬ ix b (ix ks i)=true/\∀ q,Go g (ix ks i) q->ix a q=true\/ix b q=true->q∈ks
theorem BI.put {a b:List Bool} {p d q:Int} {ks vs:List Int} (h:BI g a b p d ks vs) (hd:d < ks.length) (hb : ¬ ix b (ix ks d)=true) (hq:q∉ks) (hr:0<=q/\q < g.2.1) (hab:ix a q=true\/ix b q=true) (hg:Go g (ix ks d) q):BI g a b p d (ks++[q]) (vs++[ix ks d]):=by
 have hin:=zeS h.d0 hd;refine ⟨List.nodup_append.2 ⟨h.nd,by simp,fun x hx y hy=>by rw [List.mem_singleton] at hy;rintro rfl;exact hq (hy ▸ hx)⟩,by simp [h.l],fun x hx => ?_,by simp [h.hp],h.d0,by simp;omega,fun x hx => ?_,fun x hx => ?_,fun i i0 i1 => ?_⟩
 ·rcases List.mem_append.1 hx with hx | hx
  ·exact h.r x hx
  ·rw [List.mem_singleton.1 hx];exact hr
 ·rcases List.mem_append.1 hx with hx | hx
  ·exact h.ab x hx
  ·rw [List.mem_singleton.1 hx];exact hab
 ·rcases List.mem_append.1 hx with hx | hx
  ·obtain ⟨r,k1,k2,k3⟩:=h.c x hx;exact ⟨r,Ch.ext h.l k2 k1,fun z hz=>List.mem_append_left _ (k2 z hz),by simp only [List.length_append,List.length_singleton];omega⟩
  ·rw [List.mem_singleton.1 hx];obtain ⟨r,k1,k2,k3⟩:=h.c _ hin;refine ⟨ix ks d::r,⟨zza h.l hq,hg,(h.ab _ hin).resolve_right hb,hb,Ch.ext h.l k2 k1⟩,fun z hz => ?_,by simp only [List.length_append,List.length_singleton,List.length_cons] at k3 ⊢;omega⟩
   rcases List.mem_cons.1 hz with rfl | hz
   ·simp
   ·exact List.mem_append_left _ (k2 z hz)
 ·obtain ⟨k1,k2⟩:=h.t i i0 i1;rw [zbe i0 (by omega)]
  exact ⟨k1,fun z hz hz2=>List.mem_append_left _ (k2 z hz hz2)⟩
theorem zBf (ok:GrOk g) (hw:WOk g w) {a b E:List Bool} (ha:(a.length:Int)=g.2.1) (hb:(b.length:Int)=g.2.1) (hE:Lf g false a b E) {p:Int} (p0:0<=p) (p1:p < g.2.1) (hp:ix E p=true):
  ∀ (m:Nat) (d:Int) (ks vs:List Int),(g.2.1 - d).toNat=m->BI g a b p d ks vs->∃ R,zaI w a b ks vs (ks.drop d.toNat)=some R/\0 < R.length/\R.length<=12/\ix R 0=p/\(∀ q∈R,0<=q/\q < g.2.1)/\Way g R/\(∀ i:Int,0<=i->i+1 < R.length->ix a (ix R i)=true)/\ix b (ix R (R.length - 1))=true:=by
 have hn:=ok.n;intro m
 induction m using Nat.strongRecOn with
 | ind m ih=>
  intro d ks vs hm hI;have hks:(ks.length:Int)<=g.2.1:=by
   have:=zkh (n:=g.2.1.toNat) hI.nd (fun x hx=>by have:=hI.r x hx;omega)
   omega
  have d0:=hI.d0;have hlt:d < ks.length:=by
   refine Classical.byContradiction fun hd => ?_
   have hd:d=ks.length:=by have:=hI.d1;omega
   have:=hE.m (tb g.2.1 fun q=>decide (q∉ks) && (ix a q || ix b q)) (zdk (by omega)) (fun q q0 q1 hq=>by
     rw [zdG q0 q1,hq];have:q∉ks:=fun h=>by
      obtain ⟨i,i0,i1,e⟩:=(zoH (l:=ks) (P:=fun z=>z=q)).1 ⟨q,h,rfl⟩
      have:=(hI.t i i0 (by omega)).1
      rw [e] at this;exact this hq
     simp [this]) (fun q q0 q1 hq hs=>by
     obtain ⟨r,hr,hx⟩:=zgL.1 hs;obtain ⟨r0,r1⟩:=hr.rng ok q0 q1;rw [zdG r0 r1] at hx;obtain ⟨h1,h2⟩:=(Bool.and_eq_true _ _).mp hx;rw [zdG q0 q1,hq];have:q∉ks:=fun h=>by
      obtain ⟨i,i0,i1,e⟩:=(zoH (l:=ks) (P:=fun z=>z=q)).1 ⟨q,h,rfl⟩
      have:=(hI.t i i0 (by omega)).2 r (by rw [e];exact hr) ((Bool.or_eq_true _ _).mp h2)
      exact (of_decide_eq_true h1) this
     simp [this]) p p0 p1 hp
   rw [zdG p0 p1] at this;exact (of_decide_eq_true ((Bool.and_eq_true _ _).mp this).1) hI.hp
  have hin:=zeS d0 hlt;obtain ⟨r0,r1⟩:=hI.r _ hin;have hdl:((ks.drop d.toNat).length:Int)=ks.length - d:=by simp;omega
  have hhd:ix (ks.drop d.toNat) 0=ix ks d:=by
   rw [zC7 d0 hlt];rfl
  rw [zmx];unfold zbG;rw [zad ⟨by omega,by omega⟩,zad (by omega),hhd,zad ⟨r0,by omega⟩]
  by_cases hbb:ix b (ix ks d)=true
  ·rw [if_pos hbb];obtain ⟨r,k1,k2,k3⟩:=hI.c _ hin;have h8:=zEb (r:=ix ks d::r) (acc:=[]) (fun q hq=>(hI.r q (k2 q hq)).1) (by simp only [List.length_nil];omega) k1
   rw [show zbA ks vs (ix ks d) []=_ from h8];obtain ⟨s,es⟩:=k1.last;obtain ⟨y1,y2⟩:=k1.way;have elen:((([]:List Int)++(ix ks d::r)).reverse.length:Int)=(ix ks d::r).length:=by simp
   refine ⟨_,rfl,by simp,by simp only [List.nil_append,List.length_reverse];omega,?_,fun q hq=>hI.r q (k2 q (List.mem_reverse.1 hq)),by simpa using y1,fun i i0 i1=>(y2 i i0 (by simpa using i1)).1,?_⟩
   ·rw [List.nil_append,es,List.reverse_append];rfl
   ·have:ix (([]:List Int)++(ix ks d::r)).reverse ((([]:List Int)++(ix ks d::r)).reverse.length - 1)=ix ks d:=by
     rw [List.nil_append,List.reverse_cons];have:(((r.reverse++[ix ks d]).length:Int) - 1)=r.reverse.length:=by simp
     rw [this];exact zdf
    rw [this];exact hbb
  ·rw [if_neg hbb,zad ⟨r0,by have:=hw.l;omega⟩]
   obtain ⟨w1,w2⟩:=hw.r _ r0 r1;obtain ⟨⟨ks',vs'⟩,⟨hI',hlt',hd',hall⟩,e⟩:=zul (len:=((ix w.2.1 (ix ks d)).length:Int)) (lo:=0) (S:=List Int×List Int)
    (L:=fun t s=>zat w a b (ks.drop d.toNat) (zaI w a b) t s.1 s.2 (s.1.drop d.toNat))
    (f:=fun t s=>if ix (ix w.2.1 (ix ks d)) t∉s.1/\(ix a (ix (ix w.2.1 (ix ks d)) t)=true\/ix b (ix (ix w.2.1 (ix ks d)) t)=true) then (s.1++[ix (ix w.2.1 (ix ks d)) t],s.2++[ix ks d]) else s)
    (I:=fun t s=>BI g a b p d s.1 s.2/\d < s.1.length/\ix s.1 d=ix ks d/\∀ j:Int,0<=j->j < t->ix a (ix (ix w.2.1 (ix ks d)) j)=true\/ix b (ix (ix w.2.1 (ix ks d)) j)=true->ix (ix w.2.1 (ix ks d)) j∈s.1)
    (s:=(ks,vs)) (by omega) ⟨hI,hlt,rfl,fun j j0 j1=>by omega⟩
    (fun t s t0 t1 hS=>by
     obtain ⟨K,V⟩:=s;obtain ⟨s1,s2,s3,s4⟩:=hS;have s2:d < (K.length:Int):=s2;have s1:BI g a b p d K V:=s1;have hq:=(w2 _).1 (zeS t0 t1);obtain ⟨q0,q1⟩:=hq.rng ok r0 r1;generalize hqe:ix (ix w.2.1 (ix ks d)) t=q at *
     have fT:fits (t+1):=zaE (by omega) (by omega)
     have hkl:(K.length:Int)<=g.2.1:=by
      have:=zkh (n:=g.2.1.toNat) s1.nd (fun x hx=>by have:=s1.r x hx;omega)
      omega
     have hdropl:(K.drop d.toNat).length<=12:=by simp;omega
     constructor
     ·show zat w a b (ks.drop d.toNat) (zaI w a b) t K V (K.drop d.toNat)=zat w a b (ks.drop d.toNat) (zaI w a b) (t+1) _ _ _
      conv=>lhs;rw [zgb];unfold zbd
      rw [hhd,hqe,if_pos (decide_eq_true t1),zad ⟨t0,t1⟩];by_cases hin2:q∈K
      ·rw [if_neg (by simp [zzc.2 hin2])]
       unfold zaL za9;rw [if_neg (by simp),zad fT]
       simp [hin2]
      ·have hnh:mhas K q=false:=by cases hh:mhas K q;rfl;exact absurd (zzc.1 hh) hin2
       have yes:zaL w (ks.drop d.toNat) t K V (K.drop d.toNat) (zat w a b (ks.drop d.toNat) (zaI w a b)) true=zat w a b (ks.drop d.toNat) (zaI w a b) (t+1) (K++[q]) (V++[ix ks d]) ((K++[q]).drop d.toNat):=by
        unfold zaL za9;rw [if_pos rfl,hhd,hqe,zad (zkU (by simp only [List.length_singleton];omega)),zad fT,zvu hin2,zvv hin2,List.drop_append_of_le_length (by omega)]
       rw [if_pos (by simp [hnh]),zad ⟨q0,by omega⟩]
       by_cases hqa:ix a q=true
       ·rw [if_pos hqa,yes];simp [hin2,hqa]
       ·rw [if_neg hqa,zad ⟨q0,by omega⟩]
        by_cases hqb:ix b q=true
        ·rw [hqb,yes];simp [hin2,hqb]
        ·have hqb':ix b q=false:=by simpa using hqb
         rw [hqb'];unfold zaL za9;rw [if_neg (by simp),zad fT]
         simp [hqa,hqb]
     ·split
      ·rename_i hc;have hc1:q∉K:=hc.1;refine ⟨?_,?_,?_,fun j j0 j1 hj => ?_⟩
       ·have:=s1.put (q:=q) s2 (by rw [s3];exact hbb) hc1 ⟨q0,q1⟩ hc.2 (by rw [s3];exact hq)
        rw [s3] at this;exact this
       ·show d < ((K++[q]).length:Int);simp;omega
       ·show ix (K++[q]) d=_;rw [zbe d0 s2];exact s3
       ·show _∈K++[q];by_cases ej:j=t
        ·subst ej;rw [hqe];simp
        ·exact List.mem_append_left _ (s4 j j0 (by omega) hj)
      ·rename_i hc;refine ⟨s1,s2,s3,fun j j0 j1 hj => ?_⟩
       by_cases ej:j=t
       ·subst ej;rw [hqe] at hj ⊢;exact Classical.byContradiction fun hno=>hc ⟨hno,hj⟩
       ·exact s4 j j0 (by omega) hj)
   have hI':BI g a b p d ks' vs':=hI';have hlt':d < (ks'.length:Int):=hlt';have hd':ix ks' d=ix ks d:=hd';rw [show zat w a b (ks.drop d.toNat) (zaI w a b) 0 ks vs (ks.drop d.toNat)=_ from e];show ∃ R,zat w a b (ks.drop d.toNat) (zaI w a b) _ ks' vs' (ks'.drop d.toNat)=some R/\_;rw [zgb];unfold zbd;rw [hhd,if_neg (by simp),zad ⟨by omega,by simp;omega⟩]
   have hdd:(ks'.drop d.toNat).drop (1:Int).toNat=ks'.drop (d+1).toNat:=by
    rw [List.drop_drop];congr 1;omega
   rw [hdd];refine ih _ (by omega) (d+1) ks' vs' rfl ⟨hI'.nd,hI'.l,hI'.r,hI'.hp,by omega,by omega,hI'.ab,hI'.c,fun i i0 i1 => ?_⟩
   by_cases ei:i=d
   ·subst ei;rw [hd'];refine ⟨hbb,fun q hq hq2 => ?_⟩
    obtain ⟨j,j0,j1,ej⟩:=(zoH (l:=ix w.2.1 (ix ks i)) (P:=fun z=>z=q)).1 ⟨q,(w2 q).2 hq,rfl⟩
    have:=hall j j0 j1 (by rw [ej];exact hq2)
    rw [ej] at this;exact this
   ·exact hI'.t i i0 (by omega)
theorem zBe (ok:GrOk g) (hw:WOk g w) {a b E:List Bool} (ha:(a.length:Int)=g.2.1) (hb:(b.length:Int)=g.2.1) (hE:Lf g false a b E) {p:Int} (p0:0<=p) (p1:p < g.2.1) (hp:ix E p=true):
  ∃ R,zdQ w p a b=some R/\0 < R.length/\R.length<=12/\ix R 0=p/\(∀ q∈R,0<=q/\q < g.2.1)/\Way g R/\(∀ i:Int,0<=i->i+1 < R.length->ix a (ix R i)=true)/\ix b (ix R (R.length - 1))=true:=by
 have hn:=ok.n;unfold zdQ;rw [zvu (ks:=([]:List Int)) (by simp),zvv (ks:=([]:List Int)) (by simp)]
 have hab:ix a p=true\/ix b p=true:=by
  have:=hE.m (tb g.2.1 fun q=>ix a q || ix b q) (zdk (by omega)) (fun q q0 q1 hq=>by rw [zdG q0 q1,hq];simp) (fun q q0 q1 hq _=>by rw [zdG q0 q1,hq];rfl) p p0 p1 hp
  rw [zdG p0 p1] at this;exact (Bool.or_eq_true _ _).mp this
 refine zBf ok hw ha hb hE p0 p1 hp _ 0 [p] [-1] rfl ⟨by simp,rfl,fun q hq=>by rw [List.mem_singleton.1 hq];exact ⟨p0,p1⟩,by simp,by omega,by simp,fun q hq=>by rw [List.mem_singleton.1 hq];exact hab,fun q hq => ?_,fun i i0 i1=>by omega⟩
 rw [List.mem_singleton.1 hq];exact ⟨[],⟨rfl,zza (ks:=([]:List Int)) (vs:=([]:List Int)) rfl (by simp)⟩,by simp,by simp⟩
end
theorem zqT {s:List Int} (hs:s.length<=1000):zel s=some s:=by
 have hr:G (room ([]:List Int) s 8) (some (([]:List Int)++s))=some s:=by
  rw [zad (zkU (by simp;omega))];rfl
 unfold zel;refine zAW (fun h => ?_) (fun h=>hr)
 obtain rfl:s=[]:=List.length_eq_zero_iff.1 h;rw [hr];exact zqO (ts:=[(.list (.int .i64))]) (some ([]:List Int))
theorem ze0q {g:Gr} {w:Wlk} (ok:GrOk g) (hw:WOk g w) {X:List Bool} (hX:(X.length:Int)=g.2.1) (hcl:∀ v,0<=v->v < g.2.1->ix X v=true->∃ q,Go g v q/\ix X q=true)
  {row:List Int} (h0:0 < row.length) (h1:row.length<=100) (hr:∀ q∈row,0<=q/\q < g.2.1):
  ∀ (m:Nat) (ext:List Int),(g.2.1 - ext.length).toNat=m->ext.Nodup->(∀ z∈ext,z∉row/\(0<=z/\z < g.2.1)/\ix X z=true)->Way g (row++ext)->ix X (ix (row++ext) ((row++ext).length - 1))=true->
  ∃ (S:List Int) (k:Nat),zdA w X (row++ext)=some ((S.take k,S.drop k,()),X)/\k < S.length/\Way g S/\Go g (ix S (S.length - 1)) (ix S k)/\(∃ e2,S=row++e2/\∀ z∈e2,(0<=z/\z < g.2.1)/\ix X z=true)/\S.length<=200:=by
 have hn:=ok.n;intro m
 induction m using Nat.strongRecOn with
 | ind m ih=>
  intro ext hm hnd hext hway hlast;have hel:(ext.length:Int)<=g.2.1:=by
   have:=zkh (n:=g.2.1.toNat) hnd (fun z hz=>by have:=(hext z hz).2.1;omega)
   omega
  have hcl2:(row++ext).length<=112:=by simp;omega
  have hc0:0 < (row++ext).length:=by simp;omega
  have hcr:∀ z∈row++ext,0<=z/\z < g.2.1:=fun z hz=>by
   rcases List.mem_append.1 hz with hz | hz
   ·exact hr z hz
   ·exact (hext z hz).2.1
  generalize hcur:row++ext=cur at *
  have hv:=zeS (l:=cur) (i:=cur.length - 1) (by omega) (by omega)
  obtain ⟨v0,v1⟩:=hcr _ hv;generalize hve:ix cur (cur.length - 1)=v at *
  obtain ⟨w1,w2⟩:=hw.r v v0 v1;obtain ⟨i,ei,hi⟩:=zkg (s:=ix w.2.1 v) (f:=fun q=>zbj q X) (L:=fun t=>zbD (ix w.2.1 v) X t) (P:=fun q=>ix X q=true) (by omega) (fun t=>zhy _ _ _) (fun q hq=>by
   obtain ⟨a,b⟩:=((w2 q).1 hq).rng ok v0 v1;show zc2 (zbj q X) _;unfold zbj;rw [zad ⟨a,by omega⟩]
   exact ⟨_,rfl,Iff.rfl⟩) _ 0 (by omega) (by omega) rfl
  have hif:0<=i/\i < (ix w.2.1 v).length/\ix X (ix (ix w.2.1 v) i)=true:=by
   rcases hi with ⟨_,hno⟩ | ⟨a,b,c,_⟩
   ·exfalso;obtain ⟨q,hq,hx⟩:=hcl v v0 v1 hlast;obtain ⟨j,j0,j1,ej⟩:=(zoH (l:=ix w.2.1 v) (P:=fun z=>z=q)).1 ⟨q,(w2 q).2 hq,rfl⟩
    exact hno j j0 j1 (by rw [ej];exact hx)
   ·exact ⟨a,b,c⟩
  obtain ⟨i0,i1,hqx⟩:=hif;have hgo:=(w2 _).1 (zeS i0 i1);generalize hqe:ix (ix w.2.1 v) i=q at *
  obtain ⟨q0,q1⟩:=hgo.rng ok v0 v1;obtain ⟨j,ej,hj⟩:=zkg (s:=cur) (f:=fun x=>some (decide (q=x))) (L:=fun t=>zcH cur q t) (P:=fun x=>q=x) (by omega) (fun t=>zfS _ _ _) (fun x _=>zc2.dec Iff.rfl) _ 0 (by omega) (by omega) rfl
  rw [zl5];unfold zbw zeb zeW;rw [zad (zaE (by omega) (by omega)),zad ⟨by omega,by omega⟩,zad (by omega),hve,zad ⟨v0,by have:=hw.l;omega⟩]
  rw [show zbD (ix w.2.1 v) X 0=some i from ei];show ∃ S k,G _ _=_/\_;rw [zad ⟨v0,by have:=hw.l;omega⟩,hqe,zad ⟨i0,by omega⟩]
  rw [show zcH cur q 0=some j from ej];show ∃ S k,(if decide ((0:Int)<=j)=true then _ else _)=_/\_
  rcases hj with ⟨rfl,hno⟩ | ⟨j0,j1,hjq,_⟩
  ·rw [if_neg (by decide),zad (zkU (by simp only [List.length_singleton];omega))]
   have hqn:q∉cur:=fun h=>by
    obtain ⟨t,t0,t1,et⟩:=(zoH (l:=cur) (P:=fun z=>q=z)).1 ⟨q,h,rfl⟩
    exact hno t t0 t1 et
   have e2:row++(ext++[q])=cur++[q]:=by rw [<- hcur];simp
   have hlq:ix (cur++[q]) (((cur++[q]).length:Int) - 1)=q:=by
    have:(((cur++[q]).length:Int) - 1)=cur.length:=by simp
    rw [this];exact zdf
   have hnd2:(ext++[q]).Nodup:=List.nodup_append.2 ⟨hnd,by simp,fun x hx y hy=>by rw [List.mem_singleton] at hy;rintro rfl;exact hqn (by rw [<- hcur,<- hy];exact List.mem_append_right _ hx)⟩
   have hex2:∀ z∈ext++[q],z∉row/\(0<=z/\z < g.2.1)/\ix X z=true:=fun z hz=>by
    rcases List.mem_append.1 hz with hz | hz
    ·exact hext z hz
    ·rw [List.mem_singleton.1 hz];exact ⟨fun h=>hqn (by rw [<- hcur];exact List.mem_append_left _ h),⟨q0,q1⟩,hqx⟩
   have hlt:=zkh (n:=g.2.1.toNat) hnd2 (fun z hz=>by have:=(hex2 z hz).2.1;omega)
   have hle:(ext++[q]).length=ext.length+1:=by simp
   have:=ih (g.2.1 - (ext++[q]).length).toNat (by omega) (ext++[q]) rfl hnd2 hex2
    (by rw [e2];exact hway.snoc hc0 (by rw [hve];exact hgo)) (by rw [e2,hlq];exact hqx)
   rw [e2] at this;exact this
  ·rw [if_pos (decide_eq_true j0),zad ⟨j0,by omega⟩,zad ⟨j0,by omega⟩,zqT (by simp;omega),zqT (by simp;omega)]
   refine ⟨cur,j.toNat,?_,by omega,hway,?_,⟨ext,hcur.symm,fun z hz=>(hext z hz).2⟩,by omega⟩
   ·show some _=some _;rw [List.drop_zero,List.take_of_length_le (l:=cur.drop j.toNat) (by simp)]
   ·rw [hve,show ((j.toNat:Nat):Int)=j by omega,<- hjq];exact hgo
theorem zewq {g:Gr} {w:Wlk} (ok:GrOk g) (hw:WOk g w) {X:List Bool} (hX:(X.length:Int)=g.2.1) (hcl:∀ v,0<=v->v < g.2.1->ix X v=true->∃ q,Go g v q/\ix X q=true)
  {row:List Int} (h0:0 < row.length) (h1:row.length<=100) (hr:∀ q∈row,0<=q/\q < g.2.1):
  ∀ (m:Nat) (ext:List Int),(g.2.1 - ext.length).toNat=m->ext.Nodup->(∀ z∈ext,z∉row/\(0<=z/\z < g.2.1)/\ix X z=true)->Way g (row++ext)->ix X (ix (row++ext) ((row++ext).length - 1))=true->
  ∃ (S:List Int) (k:Nat),zcW w X (row++ext)=some (S.take k,S.drop k,())/\k < S.length/\Way g S/\Go g (ix S (S.length - 1)) (ix S k)/\(∃ e2,S=row++e2/\∀ z∈e2,(0<=z/\z < g.2.1)/\ix X z=true)/\S.length<=200:=by
 have hn:=ok.n;intro m
 induction m using Nat.strongRecOn with
 | ind m ih=>
  intro ext hm hnd hext hway hlast;have hel:(ext.length:Int)<=g.2.1:=by
   have:=zkh (n:=g.2.1.toNat) hnd (fun z hz=>by have:=(hext z hz).2.1;omega)
   omega
  have hcl2:(row++ext).length<=112:=by simp;omega
  have hc0:0 < (row++ext).length:=by simp;omega
  have hcr:∀ z∈row++ext,0<=z/\z < g.2.1:=fun z hz=>by
   rcases List.mem_append.1 hz with hz | hz
   ·exact hr z hz
   ·exact (hext z hz).2.1
  generalize hcur:row++ext=cur at *
  have hv:=zeS (l:=cur) (i:=cur.length - 1) (by omega) (by omega)
  obtain ⟨v0,v1⟩:=hcr _ hv;generalize hve:ix cur (cur.length - 1)=v at *
  obtain ⟨w1,w2⟩:=hw.r v v0 v1;obtain ⟨i,ei,hi⟩:=zkg (s:=ix w.2.1 v) (f:=fun q=>zbj q X) (L:=fun t=>zbD (ix w.2.1 v) X t) (P:=fun q=>ix X q=true) (by omega) (fun t=>zhy _ _ _) (fun q hq=>by
   obtain ⟨a,b⟩:=((w2 q).1 hq).rng ok v0 v1;show zc2 (zbj q X) _;unfold zbj;rw [zad ⟨a,by omega⟩]
   exact ⟨_,rfl,Iff.rfl⟩) _ 0 (by omega) (by omega) rfl
  have hif:0<=i/\i < (ix w.2.1 v).length/\ix X (ix (ix w.2.1 v) i)=true:=by
   rcases hi with ⟨_,hno⟩ | ⟨a,b,c,_⟩
   ·exfalso;obtain ⟨q,hq,hx⟩:=hcl v v0 v1 hlast;obtain ⟨j,j0,j1,ej⟩:=(zoH (l:=ix w.2.1 v) (P:=fun z=>z=q)).1 ⟨q,(w2 q).2 hq,rfl⟩
    exact hno j j0 j1 (by rw [ej];exact hx)
   ·exact ⟨a,b,c⟩
  obtain ⟨i0,i1,hqx⟩:=hif;have hgo:=(w2 _).1 (zeS i0 i1);generalize hqe:ix (ix w.2.1 v) i=q at *
  obtain ⟨q0,q1⟩:=hgo.rng ok v0 v1;obtain ⟨j,ej,hj⟩:=zkg (s:=cur) (f:=fun x=>some (decide (q=x))) (L:=fun t=>zcH cur q t) (P:=fun x=>q=x) (by omega) (fun t=>zfS _ _ _) (fun x _=>zc2.dec Iff.rfl) _ 0 (by omega) (by omega) rfl
  rw [zko];unfold zbl zeb zeW;rw [zad (zaE (by omega) (by omega)),zad ⟨by omega,by omega⟩,zad (by omega),hve,zad ⟨v0,by have:=hw.l;omega⟩]
  rw [show zbD (ix w.2.1 v) X 0=some i from ei];show ∃ S k,G _ _=_/\_;rw [zad ⟨v0,by have:=hw.l;omega⟩,hqe,zad ⟨i0,by omega⟩]
  rw [show zcH cur q 0=some j from ej];show ∃ S k,(if decide ((0:Int)<=j)=true then _ else _)=_/\_
  rcases hj with ⟨rfl,hno⟩ | ⟨j0,j1,hjq,_⟩
  ·rw [if_neg (by decide),zad (zkU (by simp only [List.length_singleton];omega))]
   have hqn:q∉cur:=fun h=>by
    obtain ⟨t,t0,t1,et⟩:=(zoH (l:=cur) (P:=fun z=>q=z)).1 ⟨q,h,rfl⟩
    exact hno t t0 t1 et
   have e2:row++(ext++[q])=cur++[q]:=by rw [<- hcur];simp
   have hlq:ix (cur++[q]) (((cur++[q]).length:Int) - 1)=q:=by
    have:(((cur++[q]).length:Int) - 1)=cur.length:=by simp
    rw [this];exact zdf
   have hnd2:(ext++[q]).Nodup:=List.nodup_append.2 ⟨hnd,by simp,fun x hx y hy=>by rw [List.mem_singleton] at hy;rintro rfl;exact hqn (by rw [<- hcur,<- hy];exact List.mem_append_right _ hx)⟩
   have hex2:∀ z∈ext++[q],z∉row/\(0<=z/\z < g.2.1)/\ix X z=true:=fun z hz=>by
    rcases List.mem_append.1 hz with hz | hz
    ·exact hext z hz
    ·rw [List.mem_singleton.1 hz];exact ⟨fun h=>hqn (by rw [<- hcur];exact List.mem_append_left _ h),⟨q0,q1⟩,hqx⟩
   have hlt:=zkh (n:=g.2.1.toNat) hnd2 (fun z hz=>by have:=(hex2 z hz).2.1;omega)
   have hle:(ext++[q]).length=ext.length+1:=by simp
   have:=ih (g.2.1 - (ext++[q]).length).toNat (by omega) (ext++[q]) rfl hnd2 hex2
    (by rw [e2];exact hway.snoc hc0 (by rw [hve];exact hgo)) (by rw [e2,hlq];exact hqx)
   rw [e2] at this;exact this
  ·rw [if_pos (decide_eq_true j0),zad ⟨j0,by omega⟩,zad ⟨j0,by omega⟩,zqT (by simp;omega),zqT (by simp;omega)]
   refine ⟨cur,j.toNat,?_,by omega,hway,?_,⟨ext,hcur.symm,fun z hz=>(hext z hz).2⟩,by omega⟩
   ·show some _=some _;rw [List.drop_zero,List.take_of_length_le (l:=cur.drop j.toNat) (by simp)]
   ·rw [hve,show ((j.toNat:Nat):Int)=j by omega,<- hjq];exact hgo
section
variable {g:Gr} {l:L5} {k s v A B p:Int} {al:Bool} {u:Unit} {w':List Int×List Int×Unit} {R:List Int} {kk:Nat}
structure Las (g:Gr) (p:Int) (w':List Int×List Int×Unit) (R:List Int) (kk:Nat):Prop where
 e:(([]:List Int)++w'.1)++w'.2.1=R
 k:(w'.1.length:Int)=kk
 k1:kk < R.length
 l:R.length<=200
 s:ix R 0=p
 r:∀ q∈R,0<=q/\q < g.2.1
 w:Way g R
 b:Go g (ix R (R.length - 1)) (ix R kk)
theorem Las.mk' {S:List Int} (h1:kk < S.length) (h2:S.length<=200) (h3:ix S 0=p) (h4:∀ q∈S,0<=q/\q < g.2.1) (h5:Way g S) (h6:Go g (ix S (S.length - 1)) (ix S kk)):Las g p (S.take kk,(S.drop kk,())) S kk:=
 ⟨by show ([]++S.take kk)++S.drop kk=S;simp,by show ((S.take kk).length:Int)=kk;simp;omega,h1,h2,h3,h4,h5,h6⟩
theorem ztS (ok:GrOk g) (h:Las g p w' R kk):zfp g l k w' p=zd2 g l k w' R.length:=by
 have hR:0 < R.length:=by have:=h.k1;omega
 have hl:=h.l;have he:=h.e;have hlen:w'.1.length+w'.2.1.length=R.length:=by rw [<- he];simp
 have hk:=h.k;have hk1:=h.k1;unfold zfp;rw [zad (zkU (by simp;omega)),zad (zkU (by simp only [List.nil_append];omega)),if_neg (by simp only [decide_eq_true_eq];omega),he,zad ⟨by omega,by omega⟩,zad (by omega),if_neg (by simp [h.s])]
 have h6:zht g l k w' 0=zd2 g l k w' 0:=by
  refine zfu (len:=(R.length:Int)) (L:=fun i=>zht g l k w' i) (bad:=fun _=>False) (lo:=0) (by omega) (fun i i0 i1=>⟨fun h=>h.elim,fun _ => ?_⟩) (fun _ => ?_)
  ·have hr:=h.r _ (zeS i0 i1)
   conv=>lhs;rw [zo7];unfold zeh
   rw [he,if_pos (decide_eq_true i1),zad ⟨i0,i1⟩,zad (by omega),if_neg (by simp only [decide_eq_true_eq];omega),zad ⟨i0,i1⟩,zad (by omega),if_neg (by simp only [decide_eq_true_eq];omega),zad (zaE (by omega) (by omega))]
  ·show zht g l k w' R.length=_;rw [zo7];unfold zeh;rw [he,if_neg (by simp)]
 rw [h6];refine zfu (len:=(R.length:Int)) (L:=fun i=>zd2 g l k w' i) (bad:=fun _=>False) (lo:=0) (by omega) (fun i i0 i1=>⟨fun h=>h.elim,fun _ => ?_⟩) (fun _=>rfl)
 have fi:fits (i+1):=zaE (by omega) (by omega)
 have j15:∀ to,Go g (ix R i) to->zeK g w' i (zd2 g l k w') to=zd2 g l k w' (i+1):=by
  intro to hto;unfold zeK;rw [he,zad ⟨i0,i1⟩,zad (by omega)]
  obtain ⟨b,e,hb⟩:=zuL ok (ix R i) to;have:znB (g.1,g.2.1,g.2.2.1,()) (ix R i) to=some true:=by
   show znB g (ix R i) to=some true;rw [e,hb.2 hto]
  rw [this];simp only [Option.bind_some,Bool.not_true,Bool.false_eq_true,if_false];exact zad fi
 conv=>lhs;rw [zeU];unfold zb0
 rw [he,if_pos (decide_eq_true i1),zad ⟨by omega,by omega⟩,zad (by omega),zad fi]
 by_cases hi:i+1 < R.length
 ·rw [if_pos (decide_eq_true hi),zad fi,zad ⟨by omega,hi⟩,zad (by omega)]
  exact j15 _ (h.w i i0 hi)
 ·rw [if_neg (by simpa using hi)]
  refine j15 _ ?_
  have:i=R.length - 1:=by omega
  rw [this,hk];exact h.b
theorem zDC (ok:GrOk g) (h:Las g p w' R kk) (hx:ix l k=(88,al,v,A,B,u)) (k0:0<=k) (k1:k < l.length) {a:List Bool} (hA:zaJ g l A=some a) (ha:(a.length:Int)=g.2.1)
  (hs:ix a (if 1 < R.length then ix R 1 else ix R kk)=true):zfp g l k w' p=some true:=by
 have hR:0 < R.length:=by have:=h.k1;omega
 have hk:=h.k;have hk1:=h.k1;have hA':zaJ (g.1,g.2.1,g.2.2.1,()) l (ix l k).2.2.2.1=some a:=by rw [hx];exact hA
 rw [ztS ok h,zeU];unfold zb0 znE;rw [h.e,if_neg (by simp),zad ⟨k0,k1⟩,hA']
 show (if decide ((ix l k).1=88)=true then _ else _)=_
 rw [if_pos (by rw [hx];rfl),zad ⟨by omega,by omega⟩,zad (by omega)]
 by_cases h1:1 < R.length
 ·rw [if_pos h1] at hs;have:=h.r _ (zeS (l:=R) (i:=1) (by omega) (by omega))
  rw [if_pos (decide_eq_true (by omega)),zad ⟨by omega,by omega⟩,zad (by omega),zad ⟨by omega,by omega⟩,zad (by omega),hs]
 ·rw [if_neg h1] at hs;have:=h.r _ (zeS (l:=R) (i:=kk) (by omega) (by omega))
  rw [if_neg (by simp only [decide_eq_true_eq];omega),hk,zad ⟨by omega,by omega⟩,zad (by omega),hs]
theorem zDA (ok:GrOk g) (h:Las g p w' R kk) (hx:ix l k=(71,al,v,A,B,u)) (k0:0<=k) (k1:k < l.length) {a:List Bool} (hA:zaJ g l A=some a) (ha:(a.length:Int)=g.2.1)
  (hs:∀ q∈R,ix a q=true):zfp g l k w' p=some true:=by
 have hR:0 < R.length:=by have:=h.k1;omega
 have hl:=h.l;have hA':zaJ (g.1,g.2.1,g.2.2.1,()) l (ix l k).2.2.2.1=some a:=by rw [hx];exact hA
 rw [ztS ok h,zeU];unfold zb0;rw [h.e,if_neg (by simp),zad ⟨k0,k1⟩,hA']
 show (if decide ((ix l k).1=88)=true then _ else _)=_
 rw [if_neg (by rw [hx];exact Bool.false_ne_true),if_pos (by rw [hx];rfl)]
 refine zfu (len:=(R.length:Int)) (L:=fun i=>zh9 w' a i) (bad:=fun _=>False) (lo:=0) (by omega) (fun i i0 i1=>⟨fun h=>h.elim,fun _ => ?_⟩) (fun _ => ?_)
 ·have hm:=zeS i0 i1;have hr:=h.r _ hm
  conv=>lhs;rw [znR];unfold zdp
  rw [h.e,if_pos (decide_eq_true i1),zad ⟨i0,i1⟩,zad (by omega),zad ⟨by omega,by omega⟩,zad (by omega),if_neg (by simp [hs _ hm]),zad (zaE (by omega) (by omega))]
 ·show zh9 w' a R.length=_;rw [znR];unfold zdp;rw [h.e,if_neg (by simp)]
theorem zDz (ok:GrOk g) (h:Las g p w' R kk) (hx:ix l k=(70,al,v,A,B,u)) (k0:0<=k) (k1:k < l.length) {a:List Bool} (hA:zaJ g l A=some a) (ha:(a.length:Int)=g.2.1)
  (hs:∃ i:Int,0<=i/\i < R.length/\ix a (ix R i)=true):zfp g l k w' p=some true:=by
 have hR:0 < R.length:=by have:=h.k1;omega
 have hl:=h.l;have hA':zaJ (g.1,g.2.1,g.2.2.1,()) l (ix l k).2.2.2.1=some a:=by rw [hx];exact hA
 rw [ztS ok h,zeU];unfold zb0;rw [h.e,if_neg (by simp),zad ⟨k0,k1⟩,hA']
 show (if decide ((ix l k).1=88)=true then _ else _)=_
 rw [if_neg (by rw [hx];exact Bool.false_ne_true),if_neg (by rw [hx];exact Bool.false_ne_true),if_pos (by rw [hx];rfl)]
 refine zfu (len:=(R.length:Int)) (L:=fun i=>zia w' a i) (bad:=fun i=>ix a (ix R i)=true) (lo:=0) (by omega) (fun i i0 i1 => ?_) (fun hno => ?_)
 ·have hm:=zeS i0 i1;have hr:=h.r _ hm;constructor
  ·intro hb;show zia w' a i=_;rw [znS];unfold zdq;rw [h.e,if_pos (decide_eq_true i1),zad ⟨i0,i1⟩,zad (by omega),zad ⟨by omega,by omega⟩,zad (by omega),if_pos hb]
  ·intro hb
   conv=>lhs;rw [znS];unfold zdq
   rw [h.e,if_pos (decide_eq_true i1),zad ⟨i0,i1⟩,zad (by omega),zad ⟨by omega,by omega⟩,zad (by omega),if_neg hb,zad (zaE (by omega) (by omega))]
 ·obtain ⟨i,i0,i1,hi⟩:=hs;exact absurd hi (hno i i0 i1)
theorem zDB (ok:GrOk g) (h:Las g p w' R kk) (hx:ix l k=(85,al,v,A,B,u)) (k0:0<=k) (k1:k < l.length) {a b:List Bool} (hA:zaJ g l A=some a) (ha:(a.length:Int)=g.2.1) (hB:zaJ g l B=some b) (hb:(b.length:Int)=g.2.1)
  (hs:∃ i:Int,0<=i/\i < R.length/\ix b (ix R i)=true/\∀ j:Int,0<=j->j < i->ix a (ix R j)=true):zfp g l k w' p=some true:=by
 have hR:0 < R.length:=by have:=h.k1;omega
 have hl:=h.l;obtain ⟨n,n0,n1,hn,hpre⟩:=hs;have hA':zaJ (g.1,g.2.1,g.2.2.1,()) l (ix l k).2.2.2.1=some a:=by rw [hx];exact hA
 have hB':zaJ (g.1,g.2.1,g.2.2.1,()) l (ix l k).2.2.2.2.1=some b:=by rw [hx];exact hB
 rw [ztS ok h,zeU];unfold zb0;rw [h.e,if_neg (by simp),zad ⟨k0,k1⟩,hA']
 show (if decide ((ix l k).1=88)=true then _ else _)=_
 rw [if_neg (by rw [hx];exact Bool.false_ne_true),if_neg (by rw [hx];exact Bool.false_ne_true),if_neg (by rw [hx];exact Bool.false_ne_true),hB']
 show zd3 w' a b 0=_;have step:∀ i:Int,0<=i->i<=n->(ix b (ix R i)=true->zd3 w' a b i=some true)/\(¬ ix b (ix R i)=true->zd3 w' a b i=zd3 w' a b (i+1)):=by
  intro i i0 i1;have hm:=zeS (l:=R) i0 (by omega)
  have hr:=h.r _ hm;constructor
  ·intro hb';rw [znT];unfold zdr;rw [h.e,if_pos (decide_eq_true (by omega)),zad ⟨i0,by omega⟩,zad (by omega),zad ⟨by omega,by omega⟩,zad (by omega),if_pos hb']
  ·intro hb';have hlt:i < n:=by
    refine Classical.byContradiction fun hc=>hb' ?_
    have:i=n:=by omega
    rw [this];exact hn
   conv=>lhs;rw [znT];unfold zdr
   rw [h.e,if_pos (decide_eq_true (by omega)),zad ⟨i0,by omega⟩,zad (by omega),zad ⟨by omega,by omega⟩,zad (by omega),if_neg hb',zad ⟨i0,by omega⟩,zad (by omega),zad ⟨by omega,by omega⟩,zad (by omega),if_neg (by simp [hpre i i0 hlt]),zad (zaE (by omega) (by omega))]
 refine zfu (len:=n+1) (L:=fun i=>zd3 w' a b i) (bad:=fun i=>ix b (ix R i)=true) (lo:=0) (by omega) (fun i i0 i1=>step i i0 (by omega)) (fun hno=>absurd hn (hno n n0 (by omega)))
end
section
variable {g:Gr} {w:Wlk}
theorem zCZ {a E:List Bool} (ok:GrOk g) (hE:Gf g true a E) {p:Int} (p0:0<=p) (p1:p < g.2.1) (hp:ix E p=true) {G':List Bool} (hG:Gf g false a G'):ix G' p=true:=by
 refine hG.m E hE.l (fun q q0 q1 hq => ?_) p p0 p1 hp
 obtain ⟨h1,h2⟩:=hE.s q q0 q1 hq;obtain ⟨r,hr⟩:=Go.ex (g:=g) q;exact ⟨h1,zgL.2 ⟨r,hr,zhA.1 h2 r hr⟩⟩
theorem zBx {a b E:List Bool} (ok:GrOk g) (hE:Lf g true a b E) {p:Int} (p0:0<=p) (p1:p < g.2.1) (hp:ix E p=true) {R:List Bool} (hR:Lf g false a b R):ix R p=true:=by
 refine hE.m R hR.l hR.t (fun q q0 q1 hq hs => ?_) p p0 p1 hp
 obtain ⟨r,hr⟩:=Go.ex (g:=g) q;exact hR.s q q0 q1 hq (zgL.2 ⟨r,hr,zhA.1 hs r hr⟩)
theorem zEB (ok:GrOk g):∀ v,0<=v->v < g.2.1->ix (tb g.2.1 fun _=>true) v=true->∃ q,Go g v q/\ix (tb g.2.1 fun _=>true) q=true:=by
 intro v v0 v1 _;obtain ⟨q,hq⟩:=Go.ex (g:=g) v;obtain ⟨a,b⟩:=hq.rng ok v0 v1;exact ⟨q,hq,zdG a b⟩
theorem zuN (ok:GrOk g) (hw:WOk g w) {row:List Int} (h0:0 < row.length) (h1:row.length<=100) (hr:∀ q∈row,0<=q/\q < g.2.1) (hway:Way g row) {p:Int} (hp:ix row 0=p):
  ∃ (S:List Int) (k:Nat),zcC w row (tb g.2.1 fun _=>true)=some ((S.take k,S.drop k,()),tb g.2.1 fun _=>true)/\Las g p (S.take k,(S.drop k,())) S k/\(∃ e2,S=row++e2):=by
 have hn:=ok.n;have hl:=zeS (l:=row) (i:=row.length - 1) (by omega) (by omega)
 obtain ⟨l0,l1⟩:=hr _ hl;obtain ⟨S,k,e,h2,h3,h4,⟨e2,h5,h6⟩,h7⟩:=ze0q ok hw (X:=tb g.2.1 fun _=>true) (zdk (by omega)) (zEB ok) h0 h1 hr _ [] rfl (by simp) (by simp) (by simpa using hway) (by rw [List.append_nil,zdG l0 l1])
 rw [List.append_nil] at e;unfold zcC;refine ⟨S,k,e,Las.mk' h2 h7 ?_ ?_ h3 h4,e2,h5⟩
 ·rw [h5,zbe (by omega) (by omega)];exact hp
 ·intro q hq;rw [h5] at hq;rcases List.mem_append.1 hq with hq | hq
  ·exact hr q hq
  ·exact (h6 q hq).1
theorem zCb (ok:GrOk g) (hw:WOk g w) {a E:List Bool} (hE:Gf g false a E) {p:Int} (p0:0<=p) (p1:p < g.2.1) (hp:ix E p=true):
  ∃ (S:List Int) (k:Nat),zdR w E [p]=some (S.take k,S.drop k,())/\Las g p (S.take k,(S.drop k,())) S k/\∀ q∈S,ix a q=true:=by
 have hn:=ok.n;have hr:∀ q∈[p],0<=q/\q < g.2.1:=fun q hq=>by rw [List.mem_singleton.1 hq];exact ⟨p0,p1⟩
 obtain ⟨S,k,e,h2,h3,h4,⟨e2,h5,h6⟩,h7⟩:=zewq ok hw (X:=E) hE.l (fun v v0 v1 hv=>zgL.1 (hE.s v v0 v1 hv).2) (row:=[p]) (by simp) (by simp) hr _ [] rfl (by simp) (by simp) (fun i i0 i1=>by simp at i1;omega) hp
 rw [List.append_nil] at e;unfold zdR;have hS:∀ q∈S,(0<=q/\q < g.2.1)/\ix E q=true:=fun q hq=>by
  rw [h5] at hq;rcases List.mem_append.1 hq with hq | hq
  ·rw [List.mem_singleton.1 hq];exact ⟨⟨p0,p1⟩,hp⟩
  ·exact h6 q hq
 exact ⟨S,k,e,Las.mk' h2 h7 (by rw [h5];rfl) (fun q hq=>(hS q hq).1) h3 h4,fun q hq=>(hE.s q (hS q hq).1.1 (hS q hq).1.2 (hS q hq).2).1⟩
theorem zBZ:zaA [] 0 0 0=some (.inr (4,0)):=by
 rw [zjj];unfold zbK;rw [zzK (by omega)]
 have e:nowT [] 0=0:=rfl;rw [e];simp only [Option.bind_some,Int.reduceEq,decide_false,Bool.false_eq_true,if_false];unfold zbh;simp only [Bool.false_eq_true,if_false];have h97 : ¬ (97:Int)<=0:=by omega
 simp only [h97,decide_false,Bool.false_eq_true,if_false];unfold zbi;simp only [Int.reduceEq,decide_false,Bool.false_eq_true,if_false];unfold za8;simp only [Int.reduceEq,decide_false,Bool.false_eq_true,if_false,not_false_eq_true,decide_true,if_true,zuA,za3]
theorem zBd:∃ a pl,zbN []=some (a,(4,(pl,()))):=by
 unfold zbN zfb zaS zbq;rw [zBZ];exact ⟨_,_,rfl⟩
end
section
variable {g:Gr} {w:Wlk} {c:List UInt8} {p v:Int} {al:Bool} {E a:List Bool} {k1:Tr ND} {K:List (Tr ND)}
theorem znv {s:Int} (h:s=88\/s=70\/s=71\/s=85):zfv [(88:Int),(70:Int),(71:Int),(85:Int)] s=some true:=by
 obtain ⟨b,e,hb⟩:=zjF (s:=[(88:Int),(70:Int),(71:Int),(85:Int)]) (v:=s) (by simp)
 rw [e,hb.2 (by simp;omega)]
theorem zEq {s:Int} (h:s≠88/\s≠70/\s≠71/\s≠85):zfv [(88:Int),(70:Int),(71:Int),(85:Int)] s=some false:=by
 obtain ⟨b,e,hb⟩:=zjF (s:=[(88:Int),(70:Int),(71:Int),(85:Int)]) (v:=s) (by simp)
 cases b with
 | false=>exact e
 | true=>have:=hb.1 rfl;simp at this;omega
theorem zDk (ok:GrOk g) (hw:WOk g w) (hck:zdH (g.1,(g.2.1,(g.2.2.1,())))=some 0) (ew:zcd (g.1,(g.2.1,(g.2.2.1,())))=some w) (hc:(0:Int) < c.length) (h69:bAt c 0=69) (p0:0<=p) (p1:p < g.2.1) (hE:(E.length:Int)=g.2.1) (hp:ix E p=true) (ha:(a.length:Int)=g.2.1)
  (e1:zbN c=some (Tr.mk (88,(al,(v,()))) (k1::K),(0,(0,())))) (eE:zai w (Tr.mk (88,(al,(v,()))) (k1::K))=some E) (ea:zai w k1=some a) (hs:∃ q,Go g p q/\ix a q=true):
  ∃ y R kk,zaM g c p=some (y,true,0)/\Las g p (y.1,(y.2.1,())) R kk/\ix a (if 1 < R.length then ix R 1 else ix R kk)=true:=by
 have hn:=ok.n;obtain ⟨w1,w2⟩:=hw.r p p0 p1;obtain ⟨i,ei,hi⟩:=zkg (s:=ix w.2.1 p) (f:=fun q=>zhB q a) (L:=fun t=>zea (ix w.2.1 p) a t) (P:=fun q=>ix a q=true) (by omega) (fun t=>zna _ _ _) (fun q hq=>by
  obtain ⟨x,y⟩:=((w2 q).1 hq).rng ok p0 p1;show zc2 (zhB q a) _;unfold zhB;rw [zad ⟨x,by omega⟩]
  exact ⟨_,rfl,Iff.rfl⟩) _ 0 (by omega) (by omega) rfl
 have hif:0<=i/\i < (ix w.2.1 p).length/\ix a (ix (ix w.2.1 p) i)=true:=by
  rcases hi with ⟨_,hno⟩ | ⟨x,y,z,_⟩
  ·exfalso;obtain ⟨q,hq,hx⟩:=hs;obtain ⟨j,j0,j1,ej⟩:=(zoH (l:=ix w.2.1 p) (P:=fun z=>z=q)).1 ⟨q,(w2 q).2 hq,rfl⟩
   exact hno j j0 j1 (by rw [ej];exact hx)
  ·exact ⟨x,y,z⟩
 obtain ⟨i0,i1,hqx⟩:=hif;have hgo:=(w2 _).1 (zeS i0 i1);obtain ⟨q0,q1⟩:=hgo.rng ok p0 p1;by_cases hq:ix (ix w.2.1 p) i=p
 ·refine ⟨([],([p],())),[p],0,?_,⟨rfl,rfl,by simp,by simp,rfl,fun q hq=>by rw [List.mem_singleton.1 hq];exact ⟨p0,p1⟩,fun i i0 i1=>by simp at i1;omega,?_⟩,?_⟩
  unfold zaM;refine zav (y:=(0:Int)) hck ?_
  refine (if_neg (by exact Bool.false_ne_true)).trans ?_
  refine zav e1 ?_
  refine (if_neg (by exact Bool.false_ne_true)).trans ?_
  refine (zad ⟨by omega,hc⟩).trans ?_
  refine (if_neg (by rw [h69];exact Bool.false_ne_true)).trans ?_
  refine (zad zax).trans ?_
  refine zav (y:=true) (znv (s:=88) (by omega)) ?_
  refine (if_neg (by exact Bool.false_ne_true)).trans ?_
  refine (if_neg (by simp only [decide_eq_true_eq];omega)).trans ?_
  refine (if_neg (by simp only [decide_eq_true_eq];omega)).trans ?_
  refine zav ew ?_
  refine zav eE ?_
  refine (zad ⟨p0,by omega⟩).trans ?_
  refine (if_neg (by rw [hp];exact Bool.false_ne_true)).trans ?_
  refine (zad zax).trans ?_
  refine (zad ⟨by omega,by simp only [Tr.kids,List.length_cons];omega⟩).trans ?_
  refine zav ea ?_
  refine (zad zax).trans ?_
  refine (if_pos rfl).trans ?_
  refine (zad ⟨p0,by have:=hw.l;omega⟩).trans ?_
  refine zav (y:=i) ei ?_
  refine (zad ⟨p0,by have:=hw.l;omega⟩).trans ?_
  refine (zad ⟨i0,by omega⟩).trans ?_
  exact if_neg (by rw [hq];simp)
  ·have:=hgo;rw [hq] at this;exact this
  ·rw [hq] at hqx;exact hqx
 ·obtain ⟨S,k,eR,hl,e2,hS⟩:=zuN ok hw (row:=[p,ix (ix w.2.1 p) i]) (by simp) (by simp) (fun q hq=>by
    rcases List.mem_cons.1 hq with rfl | hq
    ·exact ⟨p0,p1⟩
    ·rw [List.mem_singleton.1 hq];exact ⟨q0,q1⟩) (fun j j0 j1=>by
    have:j=0:=by simp at j1;omega
    subst this;exact hgo) (p:=p) rfl
  refine ⟨(S.take k,(S.drop k,())),S,k,?_,hl,?_⟩
  unfold zaM;refine zav (y:=(0:Int)) hck ?_
  refine (if_neg (by exact Bool.false_ne_true)).trans ?_
  refine zav e1 ?_
  refine (if_neg (by exact Bool.false_ne_true)).trans ?_
  refine (zad ⟨by omega,hc⟩).trans ?_
  refine (if_neg (by rw [h69];exact Bool.false_ne_true)).trans ?_
  refine (zad zax).trans ?_
  refine zav (y:=true) (znv (s:=88) (by omega)) ?_
  refine (if_neg (by exact Bool.false_ne_true)).trans ?_
  refine (if_neg (by simp only [decide_eq_true_eq];omega)).trans ?_
  refine (if_neg (by simp only [decide_eq_true_eq];omega)).trans ?_
  refine zav ew ?_
  refine zav eE ?_
  refine (zad ⟨p0,by omega⟩).trans ?_
  refine (if_neg (by rw [hp];exact Bool.false_ne_true)).trans ?_
  refine (zad zax).trans ?_
  refine (zad ⟨by omega,by simp only [Tr.kids,List.length_cons];omega⟩).trans ?_
  refine zav ea ?_
  refine (zad zax).trans ?_
  refine (if_pos rfl).trans ?_
  refine (zad ⟨p0,by have:=hw.l;omega⟩).trans ?_
  refine zav (y:=i) ei ?_
  refine (zad ⟨p0,by have:=hw.l;omega⟩).trans ?_
  refine (zad ⟨i0,by omega⟩).trans ?_
  refine (if_pos (by simp [hq])).trans ?_
  refine zav (zvx ok hw) ?_
  exact zav eR rfl
  ·have h2:1 < S.length:=by rw [hS];simp
   rw [if_pos h2,hS,zbe (by omega) (by simp)]
   exact hqx
theorem zDi (ok:GrOk g) (hw:WOk g w) (hck:zdH (g.1,(g.2.1,(g.2.2.1,())))=some 0) (ew:zcd (g.1,(g.2.1,(g.2.2.1,())))=some w) (hc:(0:Int) < c.length) (h69:bAt c 0=69) (p0:0<=p) (p1:p < g.2.1) (hE:(E.length:Int)=g.2.1) (hp:ix E p=true) (ha:(a.length:Int)=g.2.1)
  (e1:zbN c=some (Tr.mk (71,(al,(v,()))) (k1::K),(0,(0,())))) (eE:zai w (Tr.mk (71,(al,(v,()))) (k1::K))=some E) (ea:zai w k1=some a) (hs:∃ G',Gf g al a G'/\ix G' p=true):
  ∃ y R kk,zaM g c p=some (y,true,0)/\Las g p (y.1,(y.2.1,())) R kk/\∀ q∈R,ix a q=true:=by
 have hn:=ok.n;obtain ⟨Z,eZ,hZ⟩:=zwi ok hw ha;have hZp:ix Z p=true:=by
  obtain ⟨G',h1,h2⟩:=hs
  cases al with
  | true=>exact zCZ ok h1 p0 p1 h2 hZ
  | false=>exact hZ.m G' h1.l h1.s p p0 p1 h2
 obtain ⟨S,k,eR,hl,hS⟩:=zCb ok hw hZ p0 p1 hZp;refine ⟨(S.take k,(S.drop k,())),S,k,?_,hl,hS⟩
 unfold zaM;refine zav (y:=(0:Int)) hck ?_
 refine (if_neg (by exact Bool.false_ne_true)).trans ?_
 refine zav e1 ?_
 refine (if_neg (by exact Bool.false_ne_true)).trans ?_
 refine (zad ⟨by omega,hc⟩).trans ?_
 refine (if_neg (by rw [h69];exact Bool.false_ne_true)).trans ?_
 refine (zad zax).trans ?_
 refine zav (y:=true) (znv (s:=71) (by omega)) ?_
 refine (if_neg (by exact Bool.false_ne_true)).trans ?_
 refine (if_neg (by simp only [decide_eq_true_eq];omega)).trans ?_
 refine (if_neg (by simp only [decide_eq_true_eq];omega)).trans ?_
 refine zav ew ?_
 refine zav eE ?_
 refine (zad ⟨p0,by omega⟩).trans ?_
 refine (if_neg (by rw [hp];exact Bool.false_ne_true)).trans ?_
 refine (zad zax).trans ?_
 refine (zad ⟨by omega,by simp only [Tr.kids,List.length_cons];omega⟩).trans ?_
 refine zav ea ?_
 refine (zad zax).trans ?_
 refine (if_neg (by exact Bool.false_ne_true)).trans ?_
 refine (if_pos rfl).trans ?_
 refine zav eZ ?_
 exact zav eR rfl
theorem zDh (ok:GrOk g) (hw:WOk g w) (hck:zdH (g.1,(g.2.1,(g.2.2.1,())))=some 0) (ew:zcd (g.1,(g.2.1,(g.2.2.1,())))=some w) (hc:(0:Int) < c.length) (h69:bAt c 0=69) (p0:0<=p) (p1:p < g.2.1) (hE:(E.length:Int)=g.2.1) (hp:ix E p=true) (ha:(a.length:Int)=g.2.1)
  (e1:zbN c=some (Tr.mk (70,(al,(v,()))) (k1::K),(0,(0,())))) (eE:zai w (Tr.mk (70,(al,(v,()))) (k1::K))=some E) (ea:zai w k1=some a) (hs:∃ R',Lf g al (tb g.2.1 fun _=>true) a R'/\ix R' p=true):
  ∃ y R kk,zaM g c p=some (y,true,0)/\Las g p (y.1,(y.2.1,())) R kk/\∃ i:Int,0<=i/\i < R.length/\ix a (ix R i)=true:=by
 have hn:=ok.n;have hone:=zdk (N:=g.2.1) (f:=fun _=>true) (by omega)
 obtain ⟨Z,eZ,hZ⟩:=zpO ok hw hone ha;have hZp:ix Z p=true:=by
  obtain ⟨R',h1,h2⟩:=hs
  cases al with
  | true=>exact zBx ok h1 p0 p1 h2 hZ
  | false=>exact h1.m Z hZ.l hZ.t hZ.s p p0 p1 h2
 obtain ⟨row,er,r0,r1,r2,r3,r4,r5,r6⟩:=zBe ok hw hone ha hZ p0 p1 hZp;obtain ⟨S,k,eR,hl,e2,hS⟩:=zuN ok hw r0 (by omega) r3 r4 r2
 refine ⟨(S.take k,(S.drop k,())),S,k,?_,hl,row.length - 1,by omega,by rw [hS];simp;omega,by rw [hS,zbe (by omega) (by omega)];exact r6⟩
 unfold zaM;refine zav (y:=(0:Int)) hck ?_
 refine (if_neg (by exact Bool.false_ne_true)).trans ?_
 refine zav e1 ?_
 refine (if_neg (by exact Bool.false_ne_true)).trans ?_
 refine (zad ⟨by omega,hc⟩).trans ?_
 refine (if_neg (by rw [h69];exact Bool.false_ne_true)).trans ?_
 refine (zad zax).trans ?_
 refine zav (y:=true) (znv (s:=70) (by omega)) ?_
 refine (if_neg (by exact Bool.false_ne_true)).trans ?_
 refine (if_neg (by simp only [decide_eq_true_eq];omega)).trans ?_
 refine (if_neg (by simp only [decide_eq_true_eq];omega)).trans ?_
 refine zav ew ?_
 refine zav eE ?_
 refine (zad ⟨p0,by omega⟩).trans ?_
 refine (if_neg (by rw [hp];exact Bool.false_ne_true)).trans ?_
 refine (zad zax).trans ?_
 refine (zad ⟨by omega,by simp only [Tr.kids,List.length_cons];omega⟩).trans ?_
 refine zav ea ?_
 refine (zad zax).trans ?_
 refine (if_neg (by exact Bool.false_ne_true)).trans ?_
 refine (if_neg (by exact Bool.false_ne_true)).trans ?_
 refine (if_pos rfl).trans ?_
 refine zav (zvx ok hw) ?_
 refine zav er ?_
 refine zav (zvx ok hw) ?_
 exact zav eR rfl
theorem zDj {k2:Tr ND} {b:List Bool} (ok:GrOk g) (hw:WOk g w) (hck:zdH (g.1,(g.2.1,(g.2.2.1,())))=some 0) (ew:zcd (g.1,(g.2.1,(g.2.2.1,())))=some w) (hc:(0:Int) < c.length) (h69:bAt c 0=69) (p0:0<=p) (p1:p < g.2.1) (hE:(E.length:Int)=g.2.1) (hp:ix E p=true) (ha:(a.length:Int)=g.2.1)
  (e1:zbN c=some (Tr.mk (85,(al,(v,()))) (k1::k2::K),(0,(0,())))) (eE:zai w (Tr.mk (85,(al,(v,()))) (k1::k2::K))=some E) (ea:zai w k1=some a) (eb:zai w k2=some b) (hb:(b.length:Int)=g.2.1) (hs:∃ R',Lf g al a b R'/\ix R' p=true):
  ∃ y R kk,zaM g c p=some (y,true,0)/\Las g p (y.1,(y.2.1,())) R kk/\∃ i:Int,0<=i/\i < R.length/\ix b (ix R i)=true/\∀ j:Int,0<=j->j < i->ix a (ix R j)=true:=by
 have hn:=ok.n;obtain ⟨Z,eZ,hZ⟩:=zpO ok hw ha hb;have hZp:ix Z p=true:=by
  obtain ⟨R',h1,h2⟩:=hs
  cases al with
  | true=>exact zBx ok h1 p0 p1 h2 hZ
  | false=>exact h1.m Z hZ.l hZ.t hZ.s p p0 p1 h2
 obtain ⟨row,er,r0,r1,r2,r3,r4,r5,r6⟩:=zBe ok hw ha hb hZ p0 p1 hZp;obtain ⟨S,k,eR,hl,e2,hS⟩:=zuN ok hw r0 (by omega) r3 r4 r2
 refine ⟨(S.take k,(S.drop k,())),S,k,?_,hl,row.length - 1,by omega,by rw [hS];simp;omega,by rw [hS,zbe (by omega) (by omega)];exact r6,fun j j0 j1=>by rw [hS,zbe j0 (by omega)];exact r5 j j0 (by omega)⟩
 unfold zaM;refine zav (y:=(0:Int)) hck ?_
 refine (if_neg (by exact Bool.false_ne_true)).trans ?_
 refine zav e1 ?_
 refine (if_neg (by exact Bool.false_ne_true)).trans ?_
 refine (zad ⟨by omega,hc⟩).trans ?_
 refine (if_neg (by rw [h69];exact Bool.false_ne_true)).trans ?_
 refine (zad zax).trans ?_
 refine zav (y:=true) (znv (s:=85) (by omega)) ?_
 refine (if_neg (by exact Bool.false_ne_true)).trans ?_
 refine (if_neg (by simp only [decide_eq_true_eq];omega)).trans ?_
 refine (if_neg (by simp only [decide_eq_true_eq];omega)).trans ?_
 refine zav ew ?_
 refine zav eE ?_
 refine (zad ⟨p0,by omega⟩).trans ?_
 refine (if_neg (by rw [hp];exact Bool.false_ne_true)).trans ?_
 refine (zad zax).trans ?_
 refine (zad ⟨by omega,by simp only [Tr.kids,List.length_cons];omega⟩).trans ?_
 refine zav ea ?_
 refine (zad zax).trans ?_
 refine (if_neg (by exact Bool.false_ne_true)).trans ?_
 refine (if_neg (by exact Bool.false_ne_true)).trans ?_
 refine (if_neg (by exact Bool.false_ne_true)).trans ?_
 refine (zad zax).trans ?_
 refine (zad ⟨by omega,by simp only [Tr.kids,List.length_cons];omega⟩).trans ?_
 refine zav eb ?_
 refine zav er ?_
 refine zav (zvx ok hw) ?_
 exact zav eR rfl
end
section
variable {g:Gr} {c:List UInt8} {p b:Int} {l:L5} {E:List Bool} {y:List Int×List Int×Unit}
theorem zy4 {t:Int} (h:t≠0):zam g p y false t true b l t=some true:=by
 unfold zam;simp [h]
theorem zC8 (eE:zaJ g l b=some E) (hE:(E.length:Int)=g.2.1) (p0:0<=p) (p1:p < g.2.1) (hp:ix E p=false):zam g p y false 0 true b l 0=some true:=by
 unfold zam;rw [if_neg (by simp),show zaJ (g.1,(g.2.1,(g.2.2.1,()))) l b=some E from eE]
 simp only [Option.bind_some];rw [if_neg (by simp),zad ⟨p0,by omega⟩,zad (by omega),if_neg (by simp [hp]),if_pos (by simp)]
theorem zEs {fl:Bool} (eE:zaJ g l b=some E) (hE:(E.length:Int)=g.2.1) (p0:0<=p) (p1:p < g.2.1) (hp:ix E p=true) (hs:zfp g l b (y.1,(y.2.1,())) p=some true):zam g p y true 0 fl b l 0=some true:=by
 unfold zam;rw [if_neg (by simp),show zaJ (g.1,(g.2.1,(g.2.2.1,()))) l b=some E from eE]
 simp only [Option.bind_some];rw [if_neg (by simp),zad ⟨p0,by omega⟩,zad (by omega),if_neg (by simp [hp]),if_neg (by simp),show zfp (g.1,(g.2.1,(g.2.2.1,()))) l b (y.1,(y.2.1,())) p=some true from hs]
 rfl
theorem zBS {is fl:Bool} {e:Int} (b0:0<=b) (b1:b < l.length) (hc:(0:Int) < c.length) (h:bAt c 0≠69\/((ix l b).1≠88/\(ix l b).1≠70/\(ix l b).1≠71/\(ix l b).1≠85)):zbf g c p y is e fl b l 0=zam g p y is e fl b l 3:=by
 unfold zbf;rw [if_pos (by simp),zad ⟨b0,b1⟩,zad (by omega),zad ⟨by omega,hc⟩]
 have j9:zbr g p y is e fl b l 0 true=zam g p y is e fl b l 3:=by
  unfold zbr;rw [if_pos rfl]
 by_cases h1:bAt c 0=69
 ·obtain ⟨k1,k2,k3,k4⟩:=h.resolve_left (fun k=>k h1)
  rw [if_neg (by simp [h1]),if_pos (by simp [k1]),if_pos (by simp [k2]),if_pos (by simp [k3]),show decide (¬ (ix l b).1=85)=true from by simp [k4]]
  exact j9
 ·rw [if_pos (by simp [h1])];exact j9
theorem zy5 {is fl:Bool} {e:Int} (b0:0<=b) (b1:b < l.length) (hc:(0:Int) < c.length) (h69:bAt c 0=69) (h:(ix l b).1=88\/(ix l b).1=70\/(ix l b).1=71\/(ix l b).1=85):zbf g c p y is e fl b l 0=if p < 0\/g.2.1<=p then zam g p y is e fl b l 2 else zam g p y is e fl b l 0:=by
 unfold zbf;rw [if_pos (by simp),zad ⟨b0,b1⟩,zad (by omega),zad ⟨by omega,hc⟩,if_neg (by simp [h69])]
 have j9:zbr g p y is e fl b l 0 false=if p < 0\/g.2.1<=p then zam g p y is e fl b l 2 else zam g p y is e fl b l 0:=by
  unfold zbr;rw [if_neg (by simp)]
  by_cases q1:p < 0
  ·rw [if_pos (decide_eq_true q1),if_pos (.inl q1)]
  ·rw [if_neg (by simpa using q1)]
   by_cases q2:g.2.1<=p
   ·rw [if_pos (decide_eq_true q2),if_pos (.inr q2)]
   ·rw [if_neg (by simpa using q2),if_neg (by omega)]
 rcases h with h | h | h | h
 ·rw [if_neg (by simp [h])];exact j9
 ·rw [if_pos (by simp [h]),if_neg (by simp [h])];exact j9
 ·rw [if_pos (by simp [h]),if_pos (by simp [h]),if_neg (by simp [h])];exact j9
 ·rw [if_pos (by simp [h]),if_pos (by simp [h]),if_pos (by simp [h]),show decide (¬ (ix l b).1=85)=false from by simp [h]];exact j9
theorem zDx {a:Tr ND} {b:Int} (h:Stn l a b):0<=b/\b < l.length/\∃ s al v A B u K,ix l b=(s,al,v,A,B,u)/\a=Tr.mk (s,(al,(v,()))) K/\((s≠88/\s≠70/\s≠71/\s≠85)\/((s=88\/s=70\/s=71)/\∃ k1,K=[k1]/\Stn l k1 A)\/(s=85/\∃ k1 k2,K=[k1,k2]/\Stn l k1 A/\Stn l k2 B)):=by
 cases h with
 | leaf k h0 h1 hs=>
  refine ⟨h0,h1,?_⟩
  generalize ix l b=x at hs;obtain ⟨s,al,v,A,B,u⟩:=x;have hs:s=48\/s=49\/s=97:=hs;exact ⟨s,al,v,A,B,u,[],rfl,rfl,.inl (by omega)⟩
 | one k a h0 h1 hs ha=>
  refine ⟨h0,h1,?_⟩
  generalize ix l b=x at hs ha;obtain ⟨s,al,v,A,B,u⟩:=x;have hs:s=33\/s=88\/s=70\/s=71:=hs;refine ⟨s,al,v,A,B,u,[a],rfl,rfl,?_⟩
  by_cases e:s=33
  ·exact .inl (by omega)
  ·exact .inr (.inl ⟨by omega,a,rfl,ha⟩)
 | two k a b' h0 h1 hs ha hb=>
  refine ⟨h0,h1,?_⟩
  generalize ix l b=x at hs ha hb;obtain ⟨s,al,v,A,B,u⟩:=x;have hs:s=38\/s=124\/s=85:=hs;refine ⟨s,al,v,A,B,u,[a,b'],rfl,rfl,?_⟩
  by_cases e:s=85
  ·exact .inr (.inr ⟨e,a,b',rfl,ha,hb⟩)
  ·exact .inl (by omega)
theorem noL {y:List Int×List Int×Unit} (h:y=([],([],()))):zfl (y.1,(y.2.1,()))=some true:=by
 subst h;unfold zfl;rw [zad (zaE (by simp) (by simp))];simp
theorem zEt {R:List Int} {kk:Nat} (h:Las g p (y.1,(y.2.1,())) R kk):∃ fl,zfl (y.1,(y.2.1,()))=some fl:=by
 have hl:=h.l;have he:=h.e;have:y.1.length+y.2.1.length=R.length:=by rw [<- he];simp
 unfold zfl;rw [zad (zaE (by simp only;omega) (by simp only;omega))]
 exact ⟨_,rfl⟩
theorem zB1 (hck:zdH (g.1,(g.2.1,(g.2.2.1,())))=some 0) {a:Tr ND} (e1:zbN c=some (a,(0,(0,())))) (hc:(0:Int) < c.length) {s v:Int} {al:Bool} {K:List (Tr ND)} (ha:a=Tr.mk (s,(al,(v,()))) K)
  (h:bAt c 0≠69\/(s≠88/\s≠70/\s≠71/\s≠85)):zaM g c p=some (([],([],())),false,3):=by
 subst ha;unfold zaM;refine zav (y:=(0:Int)) hck ?_
 refine (if_neg (by exact Bool.false_ne_true)).trans ?_
 refine zav e1 ?_
 refine (if_neg (by exact Bool.false_ne_true)).trans ?_
 refine (zad ⟨by omega,hc⟩).trans ?_
 by_cases h69:bAt c 0=69
 ·refine (if_neg (by rw [h69];exact Bool.false_ne_true)).trans ?_
  refine (zad zax).trans ?_
  refine zav (y:=false) (zEq (s:=s) (h.resolve_left fun k=>k h69)) ?_
  exact if_pos rfl
 ·exact if_pos (by simp [h69])
theorem zzL (hck:zdH (g.1,(g.2.1,(g.2.2.1,())))=some 0) {a:Tr ND} (e1:zbN c=some (a,(0,(0,())))) (hc:(0:Int) < c.length) {s v:Int} {al:Bool} {K:List (Tr ND)} (ha:a=Tr.mk (s,(al,(v,()))) K)
  (h69:bAt c 0=69) (hs:s=88\/s=70\/s=71\/s=85) (hp:p < 0\/g.2.1<=p):zaM g c p=some (([],([],())),false,2):=by
 subst ha;unfold zaM;refine zav (y:=(0:Int)) hck ?_
 refine (if_neg (by exact Bool.false_ne_true)).trans ?_
 refine zav e1 ?_
 refine (if_neg (by exact Bool.false_ne_true)).trans ?_
 refine (zad ⟨by omega,hc⟩).trans ?_
 refine (if_neg (by rw [h69];exact Bool.false_ne_true)).trans ?_
 refine (zad zax).trans ?_
 refine zav (y:=true) (znv (s:=s) hs) ?_
 refine (if_neg (by exact Bool.false_ne_true)).trans ?_
 by_cases q1:p < 0
 ·exact if_pos (decide_eq_true q1)
 ·refine (if_neg (by simpa using q1)).trans ?_
  exact if_pos (decide_eq_true (by omega))
theorem zB0 (ok:GrOk g) {w:Wlk} (hck:zdH (g.1,(g.2.1,(g.2.2.1,())))=some 0) (ew:zcd (g.1,(g.2.1,(g.2.2.1,())))=some w) {a:Tr ND} (e1:zbN c=some (a,(0,(0,())))) (hc:(0:Int) < c.length) {s v:Int} {al:Bool} {K:List (Tr ND)} (ha:a=Tr.mk (s,(al,(v,()))) K)
  (h69:bAt c 0=69) (hs:s=88\/s=70\/s=71\/s=85) (p0:0<=p) (p1:p < g.2.1) (eE:zai w a=some E) (hE:(E.length:Int)=g.2.1) (hp:ix E p=false):zaM g c p=some (([],([],())),false,0):=by
 subst ha;unfold zaM;refine zav (y:=(0:Int)) hck ?_
 refine (if_neg (by exact Bool.false_ne_true)).trans ?_
 refine zav e1 ?_
 refine (if_neg (by exact Bool.false_ne_true)).trans ?_
 refine (zad ⟨by omega,hc⟩).trans ?_
 refine (if_neg (by rw [h69];exact Bool.false_ne_true)).trans ?_
 refine (zad zax).trans ?_
 refine zav (y:=true) (znv (s:=s) hs) ?_
 refine (if_neg (by exact Bool.false_ne_true)).trans ?_
 refine (if_neg (by simp only [decide_eq_true_eq];omega)).trans ?_
 refine (if_neg (by simp only [decide_eq_true_eq];omega)).trans ?_
 refine zav ew ?_
 refine zav eE ?_
 refine (zad ⟨p0,by omega⟩).trans ?_
 exact if_pos (by rw [hp];rfl)
end
theorem law_true (g:Gr) (c:List UInt8) (p:Int):zey g c p=some true:=by
 have eg:(g.1,g.2.1,g.2.2.1,())=g:=rfl;have fin:∀ (y:List Int×List Int×Unit) (is:Bool) (e:Int) (fl:Bool) (b cd:Int) (l:L5),zaM g c p=some (y,is,e)->zfl (y.1,(y.2.1,()))=some fl->(∃ pl,zkE c=some (b,(cd,(pl,())),l))->
   (zcX g c p y is e fl (grE g) b l (decide (grE g=0) && decide (¬ cd=0)))=some true->zey g c p=some true:=by
  intro y is e fl b cd l h1 h2 ⟨pl,h3⟩ h4;unfold zey;rw [eg,h1];simp only [Option.bind_some];rw [h2];simp only [Option.bind_some];rw [zva,h3];simp only [Option.bind_some];by_cases h0:grE g=0
  ·rw [if_pos (decide_eq_true h0)];simpa [h0] using h4
  ·rw [if_neg (by simpa using h0)]
   simpa [h0] using h4
 by_cases h0:grE g=0
 ·have ok:=zBO h0;have hn:=ok.n;have hck:zdH (g.1,(g.2.1,(g.2.2.1,())))=some 0:=by rw [eg,zpl,h0]
  obtain ⟨w,ew,hw⟩:=zzU ok;have ew':zcd (g.1,(g.2.1,(g.2.2.1,())))=some w:=ew;rcases zvD c with ⟨a,b,l,e1,e2,hl,hs⟩ | ⟨a,cd,pl,e1,e2,hcd⟩
  ·have hc:(0:Int) < c.length:=by
    cases c with
    | nil=>
     obtain ⟨a',pl,e⟩:=zBd;rw [e1] at e;have:=Option.some.inj e;injection this with _ h2
     injection h2 with h3 _
     cases h3
    | cons x xs=>simp only [List.length_cons];omega
   have fin2:∀ (y:List Int×List Int×Unit) (is:Bool) (e:Int) (fl:Bool),zaM g c p=some (y,is,e)->zfl (y.1,(y.2.1,()))=some fl->zbf g c p y is e fl b l 0=some true->zey g c p=some true:=by
    intro y is e fl h1 h2 h3;refine fin y is e fl b 0 l h1 h2 ⟨_,e2⟩ ?_
    unfold zcX;rw [if_neg (by simp),h0];exact h3
   obtain ⟨b0,b1,s,al,v,A,B,u,K,hx,ha,hcase⟩:=zDx hs;have hx1:(ix l b).1=s:=by rw [hx]
   by_cases hsh:bAt c 0≠69\/(s≠88/\s≠70/\s≠71/\s≠85)
   ·refine fin2 _ _ _ _ (zB1 hck e1 hc ha hsh) (noL rfl) ?_
    rw [zBS b0 b1 hc (by rw [hx1];exact hsh)]
    exact zy4 (by decide)
   ·have h69:bAt c 0=69:=Decidable.not_not.1 fun k=>hsh (.inl k)
    have hs4:s=88\/s=70\/s=71\/s=85:=by
     refine Classical.byContradiction fun k=>hsh (.inr ?_);omega
    by_cases hpr:p < 0\/g.2.1<=p
    ·refine fin2 _ _ _ _ (zzL hck e1 hc ha h69 hs4 hpr) (noL rfl) ?_
     rw [zy5 b0 b1 hc h69 (by rw [hx1];exact hs4),if_pos hpr]
     exact zy4 (by decide)
    ·have p0:0<=p:=by omega
     have p1:p < g.2.1:=by omega
     obtain ⟨E,e3,e4,hE⟩:=zpP ok hw hs;have j6:∀ y is e fl,zbf g c p y is e fl b l 0=zam g p y is e fl b l 0:=fun y is e fl=>by
      rw [zy5 b0 b1 hc h69 (by rw [hx1];exact hs4),if_neg hpr]
     cases hp:ix E p with
     | false=>
      refine fin2 _ _ _ _ (zB0 ok hck ew' e1 hc ha h69 hs4 p0 p1 e3 hE hp) (noL rfl) ?_
      rw [j6];exact zC8 e4 hE p0 p1 hp
     | true=>
      have done:∀ y R kk,zaM g c p=some (y,true,0)->Las g p (y.1,(y.2.1,())) R kk->zfp g l b (y.1,(y.2.1,())) p=some true->zey g c p=some true:=by
       intro y R kk k1 k2 k3;obtain ⟨fl,hfl⟩:=zEt k2;refine fin2 y true 0 fl k1 hfl ?_
       rw [j6];exact zEs e4 hE p0 p1 hp k3
      rcases hcase with hno | ⟨hs3,k1,rfl,hk1⟩ | ⟨rfl,k1,k2,rfl,hk1,hk2⟩
      ·omega
      ·obtain ⟨Ra,f1,f2,hRa⟩:=zpP ok hw hk1;subst ha;have r1:=zBn ok b0 b1 hx (by omega) f2
       rcases hs3 with rfl | rfl | rfl
       ·have hEe:=r1.trans (zxD ok hx (by omega) hRa (zkR (by omega)) (f:=fun p=>St g al Ra p) fun p _ _=>by simp)
        rw [e4] at hEe;have hEe:=Option.some.inj hEe;have hst:St g al Ra p=true:=by rw [hEe,zdG p0 p1] at hp;exact hp
        have hq:∃ q,Go g p q/\ix Ra q=true:=by
         cases al with
         | false=>exact zgL.1 hst
         | true=>
          obtain ⟨q,hq⟩:=Go.ex (g:=g) p;exact ⟨q,hq,zhA.1 hst q hq⟩
        obtain ⟨y,R,kk,g1,g2,g3⟩:=zDk ok hw hck ew' hc h69 p0 p1 hE hp hRa e1 e3 f1 hq;exact done y R kk g1 g2 (zDC ok g2 hx b0 b1 f2 hRa g3)
       ·obtain ⟨T,q3,q4⟩:=zCz ok hx hRa;have hTE:=r1.trans q3;rw [e4] at hTE;rw [<- Option.some.inj hTE] at q4;obtain ⟨y,R,kk,g1,g2,g3⟩:=zDh ok hw hck ew' hc h69 p0 p1 hE hp hRa e1 e3 f1 ⟨E,q4,hp⟩;exact done y R kk g1 g2 (zDz ok g2 hx b0 b1 f2 hRa g3)
       ·obtain ⟨T,q3,q4⟩:=zCA ok hx (S:=List.replicate (g.2.1).toNat false) hRa;have hTE:=r1.trans q3;rw [e4] at hTE;rw [<- Option.some.inj hTE] at q4;obtain ⟨y,R,kk,g1,g2,g3⟩:=zDi ok hw hck ew' hc h69 p0 p1 hE hp hRa e1 e3 f1 ⟨E,q4,hp⟩;exact done y R kk g1 g2 (zDA ok g2 hx b0 b1 f2 hRa g3)
      ·obtain ⟨Ra,f1,f2,hRa⟩:=zpP ok hw hk1;obtain ⟨Rb,f3,f4,hRb⟩:=zpP ok hw hk2;subst ha;have r1:=zBo ok b0 b1 hx (by omega) f2 f4
       obtain ⟨T,q3,q4⟩:=zCB ok hx hRa hRb;have hTE:=r1.trans q3;rw [e4] at hTE;rw [<- Option.some.inj hTE] at q4;obtain ⟨y,R,kk,g1,g2,g3⟩:=zDj ok hw hck ew' hc h69 p0 p1 hE hp hRa e1 e3 f1 f3 hRb ⟨E,q4,hp⟩;exact done y R kk g1 g2 (zDB ok g2 hx b0 b1 f2 hRa f4 hRb g3)
  ·have hP:zaM g c p=some (([],([],())),false,4):=by
    unfold zaM;refine zav (y:=(0:Int)) hck ?_
    refine (if_neg (by exact Bool.false_ne_true)).trans ?_
    refine zav e1 ?_
    exact if_pos (by simp [hcd])
   refine fin _ _ _ _ 0 cd [] hP (noL rfl) ⟨pl,e2⟩ ?_
   unfold zcX zbf;rw [if_pos (by simp [h0,hcd]),if_neg (by decide)]
   exact zy4 (by decide)
 ·have hP:zaM g c p=some (([],([],())),false,grE g):=by
   unfold zaM;refine zav (y:=grE g) (by rw [eg,zpl]) ?_
   exact if_pos (by simp [h0])
  have hps:∃ b cd pl l,zkE c=some (b,(cd,(pl,())),l):=by
   rcases zvD c with ⟨a,b,l,e1,e2,hl,hs⟩ | ⟨a,cd,pl,e1,e2,hcd⟩
   ·exact ⟨_,_,_,_,e2⟩
   ·exact ⟨_,_,_,_,e2⟩
  obtain ⟨b,cd,pl,l,e2⟩:=hps;refine fin _ _ _ _ b cd l hP (noL rfl) ⟨pl,e2⟩ ?_
  unfold zcX zbf;rw [if_neg (by simp [h0]),if_neg (by simpa using h0)]
  exact zy4 h0
end Go.Proofs.Ytegenlccllgjoaa.branchPathsW
