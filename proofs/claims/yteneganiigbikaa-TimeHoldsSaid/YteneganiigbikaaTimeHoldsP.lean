/- The law 'TimeHolds' of the plain functions. -/
import Derived.Test.YteneganiigbikaaTimeHoldsD
set_option maxHeartbeats 1000000
set_option maxRecDepth 20000
set_option linter.unusedSimpArgs false
set_option linter.unusedVariables false
set_option linter.unusedSectionVars false
namespace Go.Proofs.Yteneganiigbikaa.timeHoldsW
open Go Go.Ab
abbrev L3:=List (Int×Int×Int×Unit)
def tm (b:Int):Bool:=decide (b=88\/b=70\/b=71\/b=85\/b=82)
def tt (t b:Int):Int:=if tm b=true then t+1 else t
def bad (n t b:Int):Bool:=decide (30 < n+1) || (tm b && decide (5 < t+1))
def nowT (c:List UInt8) (i:Int):Int:=if i < c.length then bAt c i else 0
theorem zqW (b:Int):zga b=some (tm b):=by
 unfold zga tm;by_cases h1:b=88
 ·simp [h1]
 ·by_cases h2:b=70
  ·simp [h2]
  ·by_cases h3:b=71
   ·simp [h3]
   ·by_cases h4:b=85
    ·simp [h4]
    ·simp [h1,h2,h3,h4]
section
variable {c:List UInt8} {i n t s:Int} {l:L3}
theorem zhK (h0:0<=i) (h1:i<=c.length):zbg (c,(i,(n,(t,(s,(l,()))))))=some (nowT c i):=by
 unfold zbg nowT;by_cases h:i=(c.length:Int)
 ·simp [h]
 ·have h2:i < c.length:=by omega
  simp only [h,decide_false,Bool.false_eq_true,if_false,if_pos h2];exact zah ⟨h0,h2⟩
theorem zf6 {f a:Int} (h0:0<=i):zbT (c,(i,(n,(t,(s,(l,((f,(a,())),())))))))=some (nowT c i):=by
 unfold zbT nowT;by_cases h:(c.length:Int)<=i
 ·have : ¬ i < (c.length:Int):=by omega
  simp [h,this]
 ·have h2:i < c.length:=by omega
  simp only [h,decide_false,Bool.false_eq_true,if_false,if_pos h2];exact zah ⟨h0,h2⟩
theorem r_ok {f a:Int}:zde (c,(i,(n,(t,(s,(l,((f,(a,())),())))))))=some (decide (f=0)):=rfl
theorem zjA {f a k:Int}:zbK k c i n t s f a l=if f=0 then some (c,i,n,t,s,l,k,i) else some (c,i,n,t,s,l,f,a):=by
 unfold zbK;by_cases h:f=0<;>simp [h]
theorem zlF {k:Int}:zbE (c,(i,(n,(t,(s,(l,())))))) k=some (.inr (k,i)):=rfl
theorem zcn (h0:0<=i) (h1:i < c.length) (hc:c.length<=4000) (hn:0<=n/\n<=30) (ht:0<=t/\t<=5):
  zar c i n t s l=if bad n t (nowT c i)=true then some (.inr (7,i)) else some (.inl (c,i+1,n+1,tt t (nowT c i),s,l)):=by
 have f1:fits (n+1):=zaX (by omega) (by omega)
 have f2:fits (t+1):=zaX (by omega) (by omega)
 have f3:fits (i+1):=zaX (by omega) (by omega)
 unfold zar;rw [zah f1,zhK h0 (by omega)]
 simp only [Option.bind_some,zqW];unfold tt bad zcs zbO
 cases htm:tm (nowT c i) with
 | true=>
  simp only [if_true,zah f2,zlF,zaC,zah f3,Bool.true_and];by_cases h2:(30:Int) < n+1
  ·simp [h2]
  ·by_cases h3:(5:Int) < t+1
   ·simp [h2,h3]
   ·simp [h2,h3]
 | false=>
  simp only [Bool.false_eq_true,if_false,zlF,zaC,zah f3,Bool.false_and,Bool.or_false];by_cases h2:(30:Int) < n+1
  ·simp [h2]
  ·simp [h2]
theorem zcq (h0:0<=i) (h1:i < c.length) (hc:c.length<=4000) (hn:0<=n/\n<=30) (ht:0<=t/\t<=5) {b:Int}:
  zas b c i n t s 0 0 l=if bad n t b=true then some (c,i+1,n+1,tt t b,s,l,7,i) else some (c,i+1,n+1,tt t b,s,l,0,0):=by
 have f1:fits (n+1):=zaX (by omega) (by omega)
 have f2:fits (t+1):=zaX (by omega) (by omega)
 have f3:fits (i+1):=zaX (by omega) (by omega)
 have e:zas b c i n t s 0 0 l=zaZ c i n t s 0 0 l (tm b):=by
  unfold zas tm;by_cases h1:b=88
  ·simp [h1]
  ·by_cases h2:b=70
   ·simp [h2]
   ·by_cases h3:b=71
    ·simp [h3]
    ·by_cases h4:b=85
     ·simp [h4]
     ·simp [h1,h2,h3,h4]
 rw [e];unfold zaZ;rw [zah f1];unfold tt bad zcL zb2
 cases htm:tm b with
 | true=>
  simp only [if_true,zah f2,zjA,Option.bind_some,zah f3,Bool.true_and];by_cases h2:(30:Int) < n+1
  ·simp [h2,zah f3]
  ·by_cases h3:(5:Int) < t+1
   ·simp [h2,h3,zah f3]
   ·simp [h2,h3,zah f3]
 | false=>
  simp only [Bool.false_eq_true,if_false,zjA,if_true,Option.bind_some,zah f3,Bool.false_and,Bool.or_false]
theorem zjQ (h:l.length<=1000) {k a b:Int}:zaE (k,(a,(b,()))) c i n t s l=some ((l.length:Int),c,i,n,t,s,l++[(k,a,b,())]):=by
 unfold zaE;have e:(((l++[(k,(a,(b,())))]).length:Int) - 1)=(l.length:Int):=by simp
 rw [zah (zk1 (by simp;omega))]
 simp only [e];rw [zah (zaX (by omega) (by omega))]
theorem zcU (h:l.length<=1000) {k a b f at':Int}:zaI k a b c i n t s f at' l=some ((l.length:Int),c,i,n,t,s,l++[(k,a,b,())],f,at'):=by
 unfold zaI;have e:(((l++[(k,(a,(b,())))]).length:Int) - 1)=(l.length:Int):=by simp
 rw [zah (zk1 (by simp;omega))]
 simp only [e];rw [zah (zaX (by omega) (by omega))]
theorem p_no (h:l.length<=1000) {a:Int}:zbd a c i n t s l=some ((l.length:Int),c,i,n,t,s,l++[(3,a,0,())]):=by
 unfold zbd;rw [zjQ h];rfl
theorem zmF (h:l.length<=900):∃ l',zbv c i n t s l=some ((l.length:Int)+1,c,i,n,t,s,l')/\l'.length=l.length+2/\l'=(l++[(0,0,0,())])++[(3,(l.length:Int),0,())]:=by
 unfold zbv;rw [zjQ (by omega)]
 simp only [Option.bind_some];rw [p_no (by simp;omega)]
 refine ⟨_,by simp;rfl,by simp,by simp⟩
end
section
variable {c:List UInt8} {i n t s cd pl:Int} {l:L3}
theorem zqt (F:List UInt8->Int->Int->Int->Int->Int->Int->L3->Option (Int×List UInt8×Int×Int×Int×Int×L3×Int×Int)) (h:cd≠0):zay F c i n t s cd pl l=some (0,c,i,n,t,s,l,cd,pl):=by
 rw [zaN];unfold zaz;rw [r_ok];simp [h]
theorem zoQ (F:List UInt8->Int->Int->Int->Int->Int->Int->L3->Option (Int×List UInt8×Int×Int×Int×Int×L3×Int×Int)) (h:cd≠0) (h0:0<=i):zbr F c i n t s cd pl l=some (0,c,i,n,t,s,l,cd,pl):=by
 rw [zfF];unfold zbz;rw [zqt F h];simp only [Option.bind_some];rw [zf6 h0,r_ok];simp [h]
theorem zmm (F:List UInt8->Int->Int->Int->Int->Int->Int->L3->Option (Int×List UInt8×Int×Int×Int×Int×L3×Int×Int)) (h:cd≠0) (h0:0<=i) (a:Int):za8 F a c i n t s cd pl l=some (a,c,i,n,t,s,l,cd,pl):=by
 rw [zd4];unfold za6;rw [zf6 h0];simp only [Option.bind_some];rw [r_ok];simp [h]
theorem ztg (F:List UInt8->Int->Int->Int->Int->Int->Int->L3->Option (Int×List UInt8×Int×Int×Int×Int×L3×Int×Int)) (h:cd≠0) (h0:0<=i):zbc F c i n t s cd pl l=some (0,c,i,n,t,s,l,cd,pl):=by
 unfold zbc;rw [zoQ F h h0];simp only [Option.bind_some];exact zmm F h h0 0
theorem zoh (F:List UInt8->Int->Int->Int->Int->Int->Int->L3->Option (Int×List UInt8×Int×Int×Int×Int×L3×Int×Int)) (h:cd≠0) (h0:0<=i) (a:Int):zaQ F a c i n t s cd pl l=some (a,c,i,n,t,s,l,cd,pl):=by
 rw [zdm];unfold zaS;rw [zf6 h0];simp only [Option.bind_some];rw [r_ok];simp [h]
end
abbrev N3:=Int×Int×Int×Unit
inductive Fm where
 | zero | one | p | q
 | neg (a:Fm) | conj (a b:Fm) | disj (a b:Fm) | nx (a:Fm) | fin (a:Fm) | glob (a:Fm) | til (a b:Fm) | rel (a b:Fm)
def dz:Fm->Fm
 | .zero => .zero
 | .one => .neg .zero
 | .p => .p
 | .q => .q
 | .neg a => .neg (dz a)
 | .conj a b => .conj (dz a) (dz b)
 | .disj a b => .disj (dz a) (dz b)
 | .nx a => .nx (dz a)
 | .fin a => .til (.neg .zero) (dz a)
 | .glob a => .neg (.til (.neg .zero) (.neg (dz a)))
 | .til a b => .til (dz a) (dz b)
 | .rel a b => .neg (.til (.neg (dz a)) (.neg (dz b)))
inductive PS (l:L3):Int->Fm->Prop
 | zero (k:Int) (h0:0<=k) (h1:k < l.length) (hk:(ix l k).1=0):PS l k .zero
 | p (k:Int) (h0:0<=k) (h1:k < l.length) (hk:(ix l k).1=1):PS l k .p
 | q (k:Int) (h0:0<=k) (h1:k < l.length) (hk:(ix l k).1=2):PS l k .q
 | neg (k:Int) (a:Fm) (h0:0<=k) (h1:k < l.length) (hk:(ix l k).1=3) (ha:PS l (ix l k).2.1 a):PS l k (.neg a)
 | conj (k:Int) (a b:Fm) (h0:0<=k) (h1:k < l.length) (hk:(ix l k).1=4) (ha:PS l (ix l k).2.1 a) (hb:PS l (ix l k).2.2.1 b):PS l k (.conj a b)
 | disj (k:Int) (a b:Fm) (h0:0<=k) (h1:k < l.length) (hk:(ix l k).1=5) (ha:PS l (ix l k).2.1 a) (hb:PS l (ix l k).2.2.1 b):PS l k (.disj a b)
 | nx (k:Int) (a:Fm) (h0:0<=k) (h1:k < l.length) (hk:(ix l k).1=6) (ha:PS l (ix l k).2.1 a):PS l k (.nx a)
 | til (k:Int) (a b:Fm) (h0:0<=k) (h1:k < l.length) (hk:(ix l k).1=7) (ha:PS l (ix l k).2.1 a) (hb:PS l (ix l k).2.2.1 b):PS l k (.til a b)
inductive RS (l:L3):Int->Fm->Prop
 | zero (k:Int) (h0:0<=k) (h1:k < l.length) (hk:(ix l k).1=48):RS l k .zero
 | one (k:Int) (h0:0<=k) (h1:k < l.length) (hk:(ix l k).1=49):RS l k .one
 | p (k:Int) (h0:0<=k) (h1:k < l.length) (hk:(ix l k).1=112):RS l k .p
 | q (k:Int) (h0:0<=k) (h1:k < l.length) (hk:(ix l k).1=113):RS l k .q
 | neg (k:Int) (a:Fm) (h0:0<=k) (h1:k < l.length) (hk:(ix l k).1=33) (ha:RS l (ix l k).2.1 a):RS l k (.neg a)
 | nx (k:Int) (a:Fm) (h0:0<=k) (h1:k < l.length) (hk:(ix l k).1=88) (ha:RS l (ix l k).2.1 a):RS l k (.nx a)
 | fin (k:Int) (a:Fm) (h0:0<=k) (h1:k < l.length) (hk:(ix l k).1=70) (ha:RS l (ix l k).2.1 a):RS l k (.fin a)
 | glob (k:Int) (a:Fm) (h0:0<=k) (h1:k < l.length) (hk:(ix l k).1=71) (ha:RS l (ix l k).2.1 a):RS l k (.glob a)
 | conj (k:Int) (a b:Fm) (h0:0<=k) (h1:k < l.length) (hk:(ix l k).1=38) (ha:RS l (ix l k).2.1 a) (hb:RS l (ix l k).2.2.1 b):RS l k (.conj a b)
 | disj (k:Int) (a b:Fm) (h0:0<=k) (h1:k < l.length) (hk:(ix l k).1=124) (ha:RS l (ix l k).2.1 a) (hb:RS l (ix l k).2.2.1 b):RS l k (.disj a b)
 | til (k:Int) (a b:Fm) (h0:0<=k) (h1:k < l.length) (hk:(ix l k).1=85) (ha:RS l (ix l k).2.1 a) (hb:RS l (ix l k).2.2.1 b):RS l k (.til a b)
 | rel (k:Int) (a b:Fm) (h0:0<=k) (h1:k < l.length) (hk:(ix l k).1=82) (ha:RS l (ix l k).2.1 a) (hb:RS l (ix l k).2.2.1 b):RS l k (.rel a b)
theorem PS.mono {l:L3} (m:L3) {k:Int} {f:Fm} (h:PS l k f):PS (l++m) k f:=by
 induction h with
 | zero k h0 h1 hk=>
  have e:ix (l++m) k=ix l k:=zal h0 h1;rw [<- e] at hk;exact .zero k h0 (by simp;omega) hk
 | p k h0 h1 hk=>
  have e:ix (l++m) k=ix l k:=zal h0 h1;rw [<- e] at hk;exact .p k h0 (by simp;omega) hk
 | q k h0 h1 hk=>
  have e:ix (l++m) k=ix l k:=zal h0 h1;rw [<- e] at hk;exact .q k h0 (by simp;omega) hk
 | neg k a h0 h1 hk ha iha=>
  have e:ix (l++m) k=ix l k:=zal h0 h1;rw [<- e] at hk iha;exact .neg k a h0 (by simp;omega) hk iha
 | conj k a b h0 h1 hk ha hb iha ihb=>
  have e:ix (l++m) k=ix l k:=zal h0 h1;rw [<- e] at hk iha ihb;exact .conj k a b h0 (by simp;omega) hk iha ihb
 | disj k a b h0 h1 hk ha hb iha ihb=>
  have e:ix (l++m) k=ix l k:=zal h0 h1;rw [<- e] at hk iha ihb;exact .disj k a b h0 (by simp;omega) hk iha ihb
 | nx k a h0 h1 hk ha iha=>
  have e:ix (l++m) k=ix l k:=zal h0 h1;rw [<- e] at hk iha;exact .nx k a h0 (by simp;omega) hk iha
 | til k a b h0 h1 hk ha hb iha ihb=>
  have e:ix (l++m) k=ix l k:=zal h0 h1;rw [<- e] at hk iha ihb;exact .til k a b h0 (by simp;omega) hk iha ihb
theorem RS.mono {l:L3} (m:L3) {k:Int} {f:Fm} (h:RS l k f):RS (l++m) k f:=by
 induction h with
 | zero k h0 h1 hk=>
  have e:ix (l++m) k=ix l k:=zal h0 h1;rw [<- e] at hk;exact .zero k h0 (by simp;omega) hk
 | one k h0 h1 hk=>
  have e:ix (l++m) k=ix l k:=zal h0 h1;rw [<- e] at hk;exact .one k h0 (by simp;omega) hk
 | p k h0 h1 hk=>
  have e:ix (l++m) k=ix l k:=zal h0 h1;rw [<- e] at hk;exact .p k h0 (by simp;omega) hk
 | q k h0 h1 hk=>
  have e:ix (l++m) k=ix l k:=zal h0 h1;rw [<- e] at hk;exact .q k h0 (by simp;omega) hk
 | neg k a h0 h1 hk ha iha=>
  have e:ix (l++m) k=ix l k:=zal h0 h1;rw [<- e] at hk iha;exact .neg k a h0 (by simp;omega) hk iha
 | nx k a h0 h1 hk ha iha=>
  have e:ix (l++m) k=ix l k:=zal h0 h1;rw [<- e] at hk iha;exact .nx k a h0 (by simp;omega) hk iha
 | fin k a h0 h1 hk ha iha=>
  have e:ix (l++m) k=ix l k:=zal h0 h1;rw [<- e] at hk iha;exact .fin k a h0 (by simp;omega) hk iha
 | glob k a h0 h1 hk ha iha=>
  have e:ix (l++m) k=ix l k:=zal h0 h1;rw [<- e] at hk iha;exact .glob k a h0 (by simp;omega) hk iha
 | conj k a b h0 h1 hk ha hb iha ihb=>
  have e:ix (l++m) k=ix l k:=zal h0 h1;rw [<- e] at hk iha ihb;exact .conj k a b h0 (by simp;omega) hk iha ihb
 | disj k a b h0 h1 hk ha hb iha ihb=>
  have e:ix (l++m) k=ix l k:=zal h0 h1;rw [<- e] at hk iha ihb;exact .disj k a b h0 (by simp;omega) hk iha ihb
 | til k a b h0 h1 hk ha hb iha ihb=>
  have e:ix (l++m) k=ix l k:=zal h0 h1;rw [<- e] at hk iha ihb;exact .til k a b h0 (by simp;omega) hk iha ihb
 | rel k a b h0 h1 hk ha hb iha ihb=>
  have e:ix (l++m) k=ix l k:=zal h0 h1;rw [<- e] at hk iha ihb;exact .rel k a b h0 (by simp;omega) hk iha ihb
theorem PS.put_zero {l:L3} {A B:Int}:PS (l++[(0,A,B,())]) l.length .zero:=by
 have e:ix (l++[((0:Int),A,B,())]) (l.length:Int)=(0,A,B,()):=zao;exact .zero _ (by omega) (by simp;omega) (by rw [e])
theorem PS.put_p {l:L3} {A B:Int}:PS (l++[(1,A,B,())]) l.length .p:=by
 have e:ix (l++[((1:Int),A,B,())]) (l.length:Int)=(1,A,B,()):=zao;exact .p _ (by omega) (by simp;omega) (by rw [e])
theorem PS.put_q {l:L3} {A B:Int}:PS (l++[(2,A,B,())]) l.length .q:=by
 have e:ix (l++[((2:Int),A,B,())]) (l.length:Int)=(2,A,B,()):=zao;exact .q _ (by omega) (by simp;omega) (by rw [e])
theorem PS.put_neg {l:L3} {A B:Int} {a:Fm} (ha:PS l A a):PS (l++[(3,A,B,())]) l.length (.neg a):=by
 have e:ix (l++[((3:Int),A,B,())]) (l.length:Int)=(3,A,B,()):=zao;exact .neg _ a (by omega) (by simp;omega) (by rw [e]) (by rw [e];exact ha.mono _)
theorem PS.put_conj {l:L3} {A B:Int} {a b:Fm} (ha:PS l A a) (hb:PS l B b):PS (l++[(4,A,B,())]) l.length (.conj a b):=by
 have e:ix (l++[((4:Int),A,B,())]) (l.length:Int)=(4,A,B,()):=zao;exact .conj _ a b (by omega) (by simp;omega) (by rw [e]) (by rw [e];exact ha.mono _) (by rw [e];exact hb.mono _)
theorem PS.put_disj {l:L3} {A B:Int} {a b:Fm} (ha:PS l A a) (hb:PS l B b):PS (l++[(5,A,B,())]) l.length (.disj a b):=by
 have e:ix (l++[((5:Int),A,B,())]) (l.length:Int)=(5,A,B,()):=zao;exact .disj _ a b (by omega) (by simp;omega) (by rw [e]) (by rw [e];exact ha.mono _) (by rw [e];exact hb.mono _)
theorem PS.put_nx {l:L3} {A B:Int} {a:Fm} (ha:PS l A a):PS (l++[(6,A,B,())]) l.length (.nx a):=by
 have e:ix (l++[((6:Int),A,B,())]) (l.length:Int)=(6,A,B,()):=zao;exact .nx _ a (by omega) (by simp;omega) (by rw [e]) (by rw [e];exact ha.mono _)
theorem PS.put_til {l:L3} {A B:Int} {a b:Fm} (ha:PS l A a) (hb:PS l B b):PS (l++[(7,A,B,())]) l.length (.til a b):=by
 have e:ix (l++[((7:Int),A,B,())]) (l.length:Int)=(7,A,B,()):=zao;exact .til _ a b (by omega) (by simp;omega) (by rw [e]) (by rw [e];exact ha.mono _) (by rw [e];exact hb.mono _)
theorem RS.put_zero {l:L3} {A B:Int}:RS (l++[(48,A,B,())]) l.length .zero:=by
 have e:ix (l++[((48:Int),A,B,())]) (l.length:Int)=(48,A,B,()):=zao;exact .zero _ (by omega) (by simp;omega) (by rw [e])
theorem RS.put_one {l:L3} {A B:Int}:RS (l++[(49,A,B,())]) l.length .one:=by
 have e:ix (l++[((49:Int),A,B,())]) (l.length:Int)=(49,A,B,()):=zao;exact .one _ (by omega) (by simp;omega) (by rw [e])
theorem RS.put_p {l:L3} {A B:Int}:RS (l++[(112,A,B,())]) l.length .p:=by
 have e:ix (l++[((112:Int),A,B,())]) (l.length:Int)=(112,A,B,()):=zao;exact .p _ (by omega) (by simp;omega) (by rw [e])
theorem RS.put_q {l:L3} {A B:Int}:RS (l++[(113,A,B,())]) l.length .q:=by
 have e:ix (l++[((113:Int),A,B,())]) (l.length:Int)=(113,A,B,()):=zao;exact .q _ (by omega) (by simp;omega) (by rw [e])
theorem RS.put_neg {l:L3} {A B:Int} {a:Fm} (ha:RS l A a):RS (l++[(33,A,B,())]) l.length (.neg a):=by
 have e:ix (l++[((33:Int),A,B,())]) (l.length:Int)=(33,A,B,()):=zao;exact .neg _ a (by omega) (by simp;omega) (by rw [e]) (by rw [e];exact ha.mono _)
theorem RS.put_nx {l:L3} {A B:Int} {a:Fm} (ha:RS l A a):RS (l++[(88,A,B,())]) l.length (.nx a):=by
 have e:ix (l++[((88:Int),A,B,())]) (l.length:Int)=(88,A,B,()):=zao;exact .nx _ a (by omega) (by simp;omega) (by rw [e]) (by rw [e];exact ha.mono _)
theorem RS.put_fin {l:L3} {A B:Int} {a:Fm} (ha:RS l A a):RS (l++[(70,A,B,())]) l.length (.fin a):=by
 have e:ix (l++[((70:Int),A,B,())]) (l.length:Int)=(70,A,B,()):=zao;exact .fin _ a (by omega) (by simp;omega) (by rw [e]) (by rw [e];exact ha.mono _)
theorem RS.put_glob {l:L3} {A B:Int} {a:Fm} (ha:RS l A a):RS (l++[(71,A,B,())]) l.length (.glob a):=by
 have e:ix (l++[((71:Int),A,B,())]) (l.length:Int)=(71,A,B,()):=zao;exact .glob _ a (by omega) (by simp;omega) (by rw [e]) (by rw [e];exact ha.mono _)
theorem RS.put_conj {l:L3} {A B:Int} {a b:Fm} (ha:RS l A a) (hb:RS l B b):RS (l++[(38,A,B,())]) l.length (.conj a b):=by
 have e:ix (l++[((38:Int),A,B,())]) (l.length:Int)=(38,A,B,()):=zao;exact .conj _ a b (by omega) (by simp;omega) (by rw [e]) (by rw [e];exact ha.mono _) (by rw [e];exact hb.mono _)
theorem RS.put_disj {l:L3} {A B:Int} {a b:Fm} (ha:RS l A a) (hb:RS l B b):RS (l++[(124,A,B,())]) l.length (.disj a b):=by
 have e:ix (l++[((124:Int),A,B,())]) (l.length:Int)=(124,A,B,()):=zao;exact .disj _ a b (by omega) (by simp;omega) (by rw [e]) (by rw [e];exact ha.mono _) (by rw [e];exact hb.mono _)
theorem RS.put_til {l:L3} {A B:Int} {a b:Fm} (ha:RS l A a) (hb:RS l B b):RS (l++[(85,A,B,())]) l.length (.til a b):=by
 have e:ix (l++[((85:Int),A,B,())]) (l.length:Int)=(85,A,B,()):=zao;exact .til _ a b (by omega) (by simp;omega) (by rw [e]) (by rw [e];exact ha.mono _) (by rw [e];exact hb.mono _)
theorem RS.put_rel {l:L3} {A B:Int} {a b:Fm} (ha:RS l A a) (hb:RS l B b):RS (l++[(82,A,B,())]) l.length (.rel a b):=by
 have e:ix (l++[((82:Int),A,B,())]) (l.length:Int)=(82,A,B,()):=zao;exact .rel _ a b (by omega) (by simp;omega) (by rw [e]) (by rw [e];exact ha.mono _) (by rw [e];exact hb.mono _)
theorem PS.rng {l:L3} {k:Int} {f:Fm} (h:PS l k f):0<=k/\k < l.length:=by cases h<;>exact ⟨by assumption,by assumption⟩
theorem RS.rng {l:L3} {k:Int} {f:Fm} (h:RS l k f):0<=k/\k < l.length:=by cases h<;>exact ⟨by assumption,by assumption⟩
def WPn (k:Int) (x:N3):Prop:=x.1=0\/x.1=1\/x.1=2\/((x.1=3\/x.1=6)/\0<=x.2.1/\x.2.1 < k)\/((x.1=4\/x.1=5\/x.1=7)/\(0<=x.2.1/\x.2.1 < k)/\0<=x.2.2.1/\x.2.2.1 < k)
def WRn (k:Int) (x:N3):Prop:=x.1=48\/x.1=49\/x.1=112\/x.1=113\/((x.1=33\/x.1=88\/x.1=70\/x.1=71)/\0<=x.2.1/\x.2.1 < k)\/((x.1=38\/x.1=124\/x.1=85\/x.1=82)/\(0<=x.2.1/\x.2.1 < k)/\0<=x.2.2.1/\x.2.2.1 < k)
def WP (l:L3):Prop:=∀ k:Int,0<=k->k < l.length->WPn k (ix l k)
def WR (l:L3):Prop:=∀ k:Int,0<=k->k < l.length->WRn k (ix l k)
theorem WP.put {l:L3} {x:N3} (h:WP l) (hx:WPn l.length x):WP (l++[x]):=by
 intro k k0 k1;simp only [List.length_append,List.length_singleton] at k1;by_cases e:k < l.length
 ·rw [zal k0 e];exact h k k0 e
 ·have:k=l.length:=by omega
  rw [this,zao];exact hx
theorem WR.put {l:L3} {x:N3} (h:WR l) (hx:WRn l.length x):WR (l++[x]):=by
 intro k k0 k1;simp only [List.length_append,List.length_singleton] at k1;by_cases e:k < l.length
 ·rw [zal k0 e];exact h k k0 e
 ·have:k=l.length:=by omega
  rw [this,zao];exact hx
structure Ex (l l2 l' l2':L3):Prop where
 p:∃ m,l'=l++m
 r:∃ m,l2'=l2++m
 wp:WP l->WP l'
 wr:WR l2->WR l2'
def Sn (l l2:L3) (a b:Int):Prop:=∃ f,PS l a (dz f)/\RS l2 b f
theorem Ex.refl (l l2:L3):Ex l l2 l l2:=⟨⟨[],by simp⟩,⟨[],by simp⟩,id,id⟩
theorem Ex.trans {l l2 m m2 n n2:L3} (h:Ex l l2 m m2) (k:Ex m m2 n n2):Ex l l2 n n2:=by
 obtain ⟨⟨x,rfl⟩,⟨y,rfl⟩,h3,h4⟩:=h;obtain ⟨⟨x',rfl⟩,⟨y',rfl⟩,k3,k4⟩:=k;exact ⟨⟨x++x',by simp⟩,⟨y++y',by simp⟩,fun h=>k3 (h3 h),fun h=>k4 (h4 h)⟩
theorem Ex.pP {l l2 m m2:L3} {x:N3} (h:Ex l l2 m m2) (hx:WPn m.length x):Ex l l2 (m++[x]) m2:=
 h.trans ⟨⟨[x],rfl⟩,⟨[],by simp⟩,fun h=>h.put hx,id⟩
theorem Ex.pR {l l2 m m2:L3} {x:N3} (h:Ex l l2 m m2) (hx:WRn m2.length x):Ex l l2 m (m2++[x]):=
 h.trans ⟨⟨[],by simp⟩,⟨[x],rfl⟩,id,fun h=>h.put hx⟩
theorem Ex.P {l l2 m m2:L3} (h:Ex l l2 m m2) {a:Int} {f:Fm} (k:PS l a f):PS m a f:=by obtain ⟨⟨x,rfl⟩,_⟩:=h;exact k.mono _
theorem Ex.R {l l2 m m2:L3} (h:Ex l l2 m m2) {a:Int} {f:Fm} (k:RS l2 a f):RS m2 a f:=by obtain ⟨_,⟨x,rfl⟩,_⟩:=h;exact k.mono _
theorem Ex.S {l l2 m m2:L3} (h:Ex l l2 m m2) {a b:Int} (k:Sn l l2 a b):Sn m m2 a b:=by obtain ⟨f,k1,k2⟩:=k;exact ⟨f,h.P k1,h.R k2⟩
theorem Sn.rng {l l2:L3} {a b:Int} (h:Sn l l2 a b):(0<=a/\a < l.length)/\0<=b/\b < l2.length:=by obtain ⟨f,k1,k2⟩:=h;exact ⟨k1.rng,k2.rng⟩
theorem zrg {l l2 m m2:L3} {a b a1 b1 pk rk:Int} (hp:pk=4\/pk=5\/pk=7) (hr:rk=38\/rk=124\/rk=85) (h:Ex l l2 m m2) (ha:Sn m m2 a b) (hb:Sn m m2 a1 b1):Ex l l2 (m++[(pk,a,a1,())]) (m2++[(rk,b,b1,())]):=
 (h.pP (.inr (.inr (.inr (.inr ⟨hp,ha.rng.1,hb.rng.1⟩))))).pR (.inr (.inr (.inr (.inr (.inr ⟨by show rk=38\/rk=124\/rk=85\/rk=82;omega,ha.rng.2,hb.rng.2⟩)))))
theorem zr5 {l l2 m m2:L3} {a b pk rk B C:Int} (hp:pk=3\/pk=6) (hr:rk=33\/rk=88\/rk=70\/rk=71) (h:Ex l l2 m m2) (ha:Sn m m2 a b):Ex l l2 (m++[(pk,a,B,())]) (m2++[(rk,b,C,())]):=
 (h.pP (.inr (.inr (.inr (.inl ⟨hp,ha.rng.1⟩))))).pR (.inr (.inr (.inr (.inr (.inl ⟨hr,ha.rng.2⟩)))))
theorem zs9 {l l2:L3} {a b a1 b1:Int} (ha:Sn l l2 a b) (hb:Sn l l2 a1 b1):Sn (l++[(4,a,a1,())]) (l2++[(38,b,b1,())]) l.length l2.length:=by
 obtain ⟨f,f1,f2⟩:=ha;obtain ⟨g,g1,g2⟩:=hb;exact ⟨.conj f g,.put_conj f1 g1,.put_conj f2 g2⟩
theorem or_sn {l l2:L3} {a b a1 b1:Int} (ha:Sn l l2 a b) (hb:Sn l l2 a1 b1):Sn (l++[(5,a,a1,())]) (l2++[(124,b,b1,())]) l.length l2.length:=by
 obtain ⟨f,f1,f2⟩:=ha;obtain ⟨g,g1,g2⟩:=hb;exact ⟨.disj f g,.put_disj f1 g1,.put_disj f2 g2⟩
theorem ztE {l l2:L3} {a b a1 b1:Int} (ha:Sn l l2 a b) (hb:Sn l l2 a1 b1):Sn (l++[(7,a,a1,())]) (l2++[(85,b,b1,())]) l.length l2.length:=by
 obtain ⟨f,f1,f2⟩:=ha;obtain ⟨g,g1,g2⟩:=hb;exact ⟨.til f g,.put_til f1 g1,.put_til f2 g2⟩
theorem ztr {l l2:L3} {a b:Int} (ha:Sn l l2 a b):Sn (l++[(3,a,0,())]) (l2++[(33,b,0,())]) l.length l2.length:=by
 obtain ⟨f,f1,f2⟩:=ha;exact ⟨.neg f,.put_neg f1,.put_neg f2⟩
theorem nx_sn {l l2:L3} {a b:Int} (ha:Sn l l2 a b):Sn (l++[(6,a,0,())]) (l2++[(88,b,0,())]) l.length l2.length:=by
 obtain ⟨f,f1,f2⟩:=ha;exact ⟨.nx f,.put_nx f1,.put_nx f2⟩
structure Pre (c:List UInt8) (i n t s:Int) (l l2:L3):Prop where
 i0:0<=i
 i1:i<=c.length
 c1:c.length<=4000
 n0:0<=n
 n1:n<=30
 t0:0<=t
 t1:t<=5
 s0:0<=s
 s1:s<=40
 l1:(l.length:Int)<=5 * n
 l2:(l2.length:Int)<=n
def Sm (c:List UInt8) (i n t s:Int) (l l2:L3) (o:Option ((Int×List UInt8×Int×Int×Int×Int×L3)⊕(Int×Int))) (r:Option (Int×List UInt8×Int×Int×Int×Int×L3×Int×Int)):Prop:=
 (∃ a b i' n' t' l' l2',o=some (.inl (a,c,i',n',t',s,l'))/\r=some (b,c,i',n',t',s,l2',0,0)/\i<=i'/\i'<=c.length/\n<=n'/\n'<=30/\0<=t'/\t'<=5/\0<=a/\a+1=(l'.length:Int)/\(l'.length:Int)+5 * n<=l.length+5 * n'/\(l2'.length:Int)+n<=l2.length+n'/\Ex l l2 l' l2'/\Sn l' l2' a b)
 \/(∃ cd pl b i' n' t' l2',o=some (.inr (cd,pl))/\r=some (b,c,i',n',t',s,l2',cd,pl)/\cd≠0/\0<=i'/\i'<=c.length+40 - s/\n'<=31/\(l2'.length:Int)+n<=l2.length+n')
def One (c:List UInt8) (m:Nat):Prop:=∀ i n t s l l2,Pre c i n t s l l2->((c.length:Int) - i).toNat<=m->Sm c i n t s l l2 (zbM zaL c i n t s l) (zay zak c i n t s 0 0 l2)
def Part (c:List UInt8) (m:Nat):Prop:=∀ i n t s l l2,Pre c i n t s l l2->((c.length:Int) - i).toNat<=m->Sm c i n t s l l2 (zbk zaL c i n t s l) (zbr zak c i n t s 0 0 l2)
def Term (c:List UInt8) (m:Nat):Prop:=∀ i n t s l l2,Pre c i n t s l l2->((c.length:Int) - i).toNat<=m->Sm c i n t s l l2 (zbl zaL c i n t s l) (zbc zak c i n t s 0 0 l2)
def Form (c:List UInt8) (m:Nat):Prop:=∀ i n t s l l2,Pre c i n t s l l2->((c.length:Int) - i).toNat<=m->Sm c i n t s l l2 (zaL c i n t s l) (zak c i n t s 0 0 l2)
theorem zeW {c:List UInt8} {i:Int} (h:nowT c i≠0):i < c.length:=by
 unfold nowT at h;by_cases h1:i < c.length
 ·exact h1
 ·rw [if_neg h1] at h;exact absurd rfl h
theorem zjV {n t b:Int} (h : ¬ bad n t b=true) (h0:0<=t) (h1:t<=5):n+1<=30/\0<=tt t b/\tt t b<=5:=by
 unfold bad at h;unfold tt;simp only [Bool.or_eq_true,Bool.and_eq_true,decide_eq_true_eq,not_or,not_and] at h;refine ⟨by omega,?_,?_⟩
 ·split<;>omega
 ·split
  ·rename_i hb;have:=h.2 hb;omega
  ·omega
theorem zrf {c:List UInt8}:∀ m:Nat,(∀ m' < m,Part c m')->∀ a b i n t s l l2,Pre c i n t s l l2->((c.length:Int) - i).toNat<=m->0<=a->a+1=(l.length:Int)->Sn l l2 a b->
  Sm c i n t s l l2 (za7 zaL a c i n t s l) (za8 zak b c i n t s 0 0 l2):=by
 intro m
 induction m using Nat.strongRecOn with
 | ind m ih=>
  intro hP a b i n t s l l2 hp hm ha0 ha1 hab;obtain ⟨i0,i1,c1,n0,n1,t0,t1,s0,s1,q1,q2⟩:=hp;rw [zgu,zd4];unfold zba za6;rw [zhK i0 i1,zf6 i0];simp only [Option.bind_some];rw [r_ok];by_cases hb:nowT c i=38
  ·have hlt:i < c.length:=zeW (by rw [hb];decide)
   simp only [hb,Option.bind_some,decide_true,not_true_eq_false,decide_false,Bool.not_true,Bool.false_eq_true,if_true,if_false];rw [zcn i0 hlt c1 ⟨n0,n1⟩ ⟨t0,t1⟩,zcq i0 hlt c1 ⟨n0,n1⟩ ⟨t0,t1⟩,hb];by_cases hbad:bad n t 38=true
   ·simp only [hbad,if_true,zaC,Option.bind_some];rw [zoQ _ (by decide) (by omega)]
    simp only [Option.bind_some];rw [zcU (by omega)]
    simp only [Option.bind_some];rw [zmm _ (by decide) (by omega)]
    exact .inr ⟨7,i,_,_,_,_,_,rfl,rfl,by decide,by omega,by omega,by omega,by (first | omega | (simp only [List.length_append,List.length_cons,List.length_nil] at *; omega) | (simp;done) | (simp;omega))⟩
   ·obtain ⟨k1,k2,k3⟩:=zjV hbad t0 t1;simp only [hbad,Bool.false_eq_true,if_false,zaM,Option.bind_some];rcases hP (((c.length:Int) - (i+1)).toNat) (by omega) (i+1) (n+1) (tt t 38) s l l2 ⟨by omega,by omega,c1,by omega,k1,k2,k3,s0,s1,by omega,by omega⟩ (Nat.le_refl _) with
     ⟨a1,b1,i',n',t',l',l2',e1,e2,g1,g2,g3,g4,g5,g6,g7,g8,g9,g10,x1,y1⟩ | ⟨cd,pl,b1,i',n',t',l2',e1,e2,g1,g2,g3,g4,g5⟩
    ·simp only [e1,e2,zaM,Option.bind_some];rw [zjQ (by omega),zcU (by omega)]
     simp only [Option.bind_some];rcases ih (((c.length:Int) - i').toNat) (by omega) (fun m' hm'=>hP m' (by omega)) (l'.length:Int) (l2'.length:Int) i' n' t' s (l'++[(4,a,a1,())]) (l2'++[(38,b,b1,())])
      ⟨by omega,g2,c1,by omega,g4,g5,g6,s0,s1,by (first | omega | (simp only [List.length_append,List.length_cons,List.length_nil] at *; omega) | (simp;done) | (simp;omega)),by (first | omega | (simp only [List.length_append,List.length_cons,List.length_nil] at *; omega) | (simp;done) | (simp;omega))⟩ (Nat.le_refl _) (by omega) (by (first | omega | (simp only [List.length_append,List.length_cons,List.length_nil] at *; omega) | (simp;done) | (simp;omega))) (zs9 (x1.S hab) y1) with
      ⟨a2,b2,i2,n2,t2,l3,l4,w1,w2,w3,w4,w5,w6,w7,w8,w9,w10,w11,w12,x2,y2⟩ | ⟨cd,pl,b2,i2,n2,t2,l4,w1,w2,w3,w4,w5,w6,w7⟩
     ·simp only [List.length_append,List.length_cons,List.length_nil] at w11 w12;exact .inl ⟨a2,b2,i2,n2,t2,l3,l4,w1,w2,by omega,w4,by omega,w6,w7,w8,w9,w10,by omega,by omega,(zrg (by omega) (by omega) x1 (x1.S hab) y1).trans x2,y2⟩
     ·simp only [List.length_append,List.length_cons,List.length_nil] at w7;exact .inr ⟨cd,pl,b2,i2,n2,t2,l4,w1,w2,w3,w4,w5,w6,by omega⟩
    ·simp only [e1,e2,zaC,Option.bind_some];rw [zcU (by omega)]
     simp only [Option.bind_some];rw [zmm _ g1 g2];exact .inr ⟨cd,pl,_,_,_,_,_,rfl,rfl,g1,g2,g3,g4,by (first | omega | (simp only [List.length_append,List.length_cons,List.length_nil] at *; omega) | (simp;done) | (simp;omega))⟩
  ·simp only [hb,Option.bind_some,decide_true,not_false_eq_true,decide_false,Bool.not_true,Bool.false_eq_true,if_true,if_false];exact .inl ⟨a,b,i,n,t,l,l2,rfl,rfl,by omega,i1,by omega,n1,t0,t1,ha0,ha1,by omega,by omega,Ex.refl _ _,hab⟩
theorem zs3 {c:List UInt8} {m:Nat} (hP:∀ m' ≤ m,Part c m'):Term c m:=by
 intro i n t s l l2 hp hm;have hp':=hp;obtain ⟨i0,i1,c1,n0,n1,t0,t1,s0,s1,q1,q2⟩:=hp;unfold zbl zbc;rcases hP m (Nat.le_refl _) i n t s l l2 hp' hm with
  ⟨a1,b1,i',n',t',l',l2',e1,e2,g1,g2,g3,g4,g5,g6,g7,g8,g9,g10,x1,y1⟩ | ⟨cd,pl,b1,i',n',t',l2',e1,e2,g1,g2,g3,g4,g5⟩
 ·simp only [e1,e2,zaM,Option.bind_some];rcases zrf m (fun m' hm'=>hP m' (by omega)) a1 b1 i' n' t' s l' l2' ⟨by omega,g2,c1,by omega,g4,g5,g6,s0,s1,by omega,by omega⟩ (by omega) g7 g8 y1 with
   ⟨a2,b2,i2,n2,t2,l3,l4,w1,w2,w3,w4,w5,w6,w7,w8,w9,w10,w11,w12,x2,y2⟩ | ⟨cd,pl,b2,i2,n2,t2,l4,w1,w2,w3,w4,w5,w6,w7⟩
  ·exact .inl ⟨a2,b2,i2,n2,t2,l3,l4,w1,w2,by omega,w4,by omega,w6,w7,w8,w9,w10,by omega,by omega,x1.trans x2,y2⟩
  ·exact .inr ⟨cd,pl,b2,i2,n2,t2,l4,w1,w2,w3,w4,w5,w6,by omega⟩
 ·simp only [e1,e2,zaC,Option.bind_some];rw [zmm _ g1 g2];exact .inr ⟨cd,pl,_,_,_,_,_,rfl,rfl,g1,g2,g3,g4,g5⟩
theorem zqA {c:List UInt8}:∀ m:Nat,(∀ m' < m,Term c m')->∀ a b i n t s l l2,Pre c i n t s l l2->((c.length:Int) - i).toNat<=m->0<=a->a+1=(l.length:Int)->Sn l l2 a b->
  Sm c i n t s l l2 (zaT zaL a c i n t s l) (zaQ zak b c i n t s 0 0 l2):=by
 intro m
 induction m using Nat.strongRecOn with
 | ind m ih=>
  intro hP a b i n t s l l2 hp hm ha0 ha1 hab;obtain ⟨i0,i1,c1,n0,n1,t0,t1,s0,s1,q1,q2⟩:=hp;rw [zfj,zdm];unfold zaV zaS;rw [zhK i0 i1,zf6 i0];simp only [Option.bind_some];rw [r_ok];by_cases hb:nowT c i=124
  ·have hlt:i < c.length:=zeW (by rw [hb];decide)
   simp only [hb,Option.bind_some,decide_true,not_true_eq_false,decide_false,Bool.not_true,Bool.false_eq_true,if_true,if_false];rw [zcn i0 hlt c1 ⟨n0,n1⟩ ⟨t0,t1⟩,zcq i0 hlt c1 ⟨n0,n1⟩ ⟨t0,t1⟩,hb];by_cases hbad:bad n t 124=true
   ·simp only [hbad,if_true,zaC,Option.bind_some];rw [ztg _ (by decide) (by omega)]
    simp only [Option.bind_some];rw [zcU (by omega)]
    simp only [Option.bind_some];rw [zoh _ (by decide) (by omega)]
    exact .inr ⟨7,i,_,_,_,_,_,rfl,rfl,by decide,by omega,by omega,by omega,by (first | omega | (simp only [List.length_append,List.length_cons,List.length_nil] at *; omega) | (simp;done) | (simp;omega))⟩
   ·obtain ⟨k1,k2,k3⟩:=zjV hbad t0 t1;simp only [hbad,Bool.false_eq_true,if_false,zaM,Option.bind_some];rcases hP (((c.length:Int) - (i+1)).toNat) (by omega) (i+1) (n+1) (tt t 124) s l l2 ⟨by omega,by omega,c1,by omega,k1,k2,k3,s0,s1,by omega,by omega⟩ (Nat.le_refl _) with
     ⟨a1,b1,i',n',t',l',l2',e1,e2,g1,g2,g3,g4,g5,g6,g7,g8,g9,g10,x1,y1⟩ | ⟨cd,pl,b1,i',n',t',l2',e1,e2,g1,g2,g3,g4,g5⟩
    ·simp only [e1,e2,zaM,Option.bind_some];rw [zjQ (by omega),zcU (by omega)]
     simp only [Option.bind_some];rcases ih (((c.length:Int) - i').toNat) (by omega) (fun m' hm'=>hP m' (by omega)) (l'.length:Int) (l2'.length:Int) i' n' t' s (l'++[(5,a,a1,())]) (l2'++[(124,b,b1,())])
      ⟨by omega,g2,c1,by omega,g4,g5,g6,s0,s1,by (first | omega | (simp only [List.length_append,List.length_cons,List.length_nil] at *; omega) | (simp;done) | (simp;omega)),by (first | omega | (simp only [List.length_append,List.length_cons,List.length_nil] at *; omega) | (simp;done) | (simp;omega))⟩ (Nat.le_refl _) (by omega) (by (first | omega | (simp only [List.length_append,List.length_cons,List.length_nil] at *; omega) | (simp;done) | (simp;omega))) (or_sn (x1.S hab) y1) with
      ⟨a2,b2,i2,n2,t2,l3,l4,w1,w2,w3,w4,w5,w6,w7,w8,w9,w10,w11,w12,x2,y2⟩ | ⟨cd,pl,b2,i2,n2,t2,l4,w1,w2,w3,w4,w5,w6,w7⟩
     ·simp only [List.length_append,List.length_cons,List.length_nil] at w11 w12;exact .inl ⟨a2,b2,i2,n2,t2,l3,l4,w1,w2,by omega,w4,by omega,w6,w7,w8,w9,w10,by omega,by omega,(zrg (by omega) (by omega) x1 (x1.S hab) y1).trans x2,y2⟩
     ·simp only [List.length_append,List.length_cons,List.length_nil] at w7;exact .inr ⟨cd,pl,b2,i2,n2,t2,l4,w1,w2,w3,w4,w5,w6,by omega⟩
    ·simp only [e1,e2,zaC,Option.bind_some];rw [zcU (by omega)]
     simp only [Option.bind_some];rw [zoh _ g1 g2];exact .inr ⟨cd,pl,_,_,_,_,_,rfl,rfl,g1,g2,g3,g4,by (first | omega | (simp only [List.length_append,List.length_cons,List.length_nil] at *; omega) | (simp;done) | (simp;omega))⟩
  ·simp only [hb,Option.bind_some,decide_true,not_false_eq_true,decide_false,Bool.not_true,Bool.false_eq_true,if_true,if_false];exact .inl ⟨a,b,i,n,t,l,l2,rfl,rfl,by omega,i1,by omega,n1,t0,t1,ha0,ha1,by omega,by omega,Ex.refl _ _,hab⟩
theorem zsr {c:List UInt8} {m:Nat} (hP:∀ m' ≤ m,Term c m'):Form c m:=by
 intro i n t s l l2 hp hm;have hp':=hp;obtain ⟨i0,i1,c1,n0,n1,t0,t1,s0,s1,q1,q2⟩:=hp;rw [zgs,zhk];unfold za9 zbo;rcases hP m (Nat.le_refl _) i n t s l l2 hp' hm with
  ⟨a1,b1,i',n',t',l',l2',e1,e2,g1,g2,g3,g4,g5,g6,g7,g8,g9,g10,x1,y1⟩ | ⟨cd,pl,b1,i',n',t',l2',e1,e2,g1,g2,g3,g4,g5⟩
 ·simp only [e1,e2,zaM,Option.bind_some];rcases zqA m (fun m' hm'=>hP m' (by omega)) a1 b1 i' n' t' s l' l2' ⟨by omega,g2,c1,by omega,g4,g5,g6,s0,s1,by omega,by omega⟩ (by omega) g7 g8 y1 with
   ⟨a2,b2,i2,n2,t2,l3,l4,w1,w2,w3,w4,w5,w6,w7,w8,w9,w10,w11,w12,x2,y2⟩ | ⟨cd,pl,b2,i2,n2,t2,l4,w1,w2,w3,w4,w5,w6,w7⟩
  ·exact .inl ⟨a2,b2,i2,n2,t2,l3,l4,w1,w2,by omega,w4,by omega,w6,w7,w8,w9,w10,by omega,by omega,x1.trans x2,y2⟩
  ·exact .inr ⟨cd,pl,b2,i2,n2,t2,l4,w1,w2,w3,w4,w5,w6,by omega⟩
 ·simp only [e1,e2,zaC,Option.bind_some];rw [zoh _ g1 g2];exact .inr ⟨cd,pl,_,_,_,_,_,rfl,rfl,g1,g2,g3,g4,g5⟩
theorem zsD {c:List UInt8} {m:Nat} (hO:One c m) (hP:∀ m' < m,Part c m'):Part c m:=by
 intro i n t s l l2 hp hm;have hp':=hp;obtain ⟨i0,i1,c1,n0,n1,t0,t1,s0,s1,q1,q2⟩:=hp;rw [zhN,zfF];unfold zbx zbz;rcases hO i n t s l l2 hp' hm with
  ⟨a1,b1,i',n',t',l',l2',e1,e2,g1,g2,g3,g4,g5,g6,g7,g8,g9,g10,x1,y1⟩ | ⟨cd,pl,b1,i',n',t',l2',e1,e2,g1,g2,g3,g4,g5⟩
 ·simp only [e1,e2,zaM,Option.bind_some];rw [zhK (by omega) g2,zf6 (by omega)]
  simp only [Option.bind_some];rw [r_ok];by_cases h85:nowT c i'=85
  ·have hlt:i' < c.length:=zeW (by rw [h85];decide)
   simp only [h85,Option.bind_some,decide_true,not_true_eq_false,decide_false,Bool.not_true,Bool.false_eq_true,if_true,if_false];unfold zbp;rw [zcn (by omega) hlt c1 ⟨by omega,g4⟩ ⟨g5,g6⟩,zcq (by omega) hlt c1 ⟨by omega,g4⟩ ⟨g5,g6⟩,h85]
   by_cases hbad:bad n' t' 85=true
   ·simp only [hbad,if_true,zaC,Option.bind_some];rw [zoQ _ (by decide) (by omega)]
    simp only [Option.bind_some];rw [zcU (by omega)]
    simp only [Option.bind_some];exact .inr ⟨7,i',_,_,_,_,_,rfl,rfl,by decide,by omega,by omega,by omega,by (first | omega | (simp only [List.length_append,List.length_cons,List.length_nil] at *; omega) | (simp;done) | (simp;omega))⟩
   ·obtain ⟨k1,k2,k3⟩:=zjV hbad g5 g6;simp only [hbad,Bool.false_eq_true,if_false,zaM,Option.bind_some];rcases hP (((c.length:Int) - (i'+1)).toNat) (by omega) (i'+1) (n'+1) (tt t' 85) s l' l2' ⟨by omega,by omega,c1,by omega,k1,k2,k3,s0,s1,by omega,by omega⟩ (Nat.le_refl _) with
     ⟨a2,b2,i2,n2,t2,l3,l4,w1,w2,w3,w4,w5,w6,w7,w8,w9,w10,w11,w12,x2,y2⟩ | ⟨cd,pl,b2,i2,n2,t2,l4,w1,w2,w3,w4,w5,w6,w7⟩
    ·simp only [w1,w2,zaM,Option.bind_some];rw [zjQ (by omega),zcU (by omega)]
     simp only [Option.bind_some];exact .inl ⟨_,_,_,_,_,_,_,rfl,rfl,by omega,w4,by omega,w6,w7,w8,by omega,by (first | omega | (simp only [List.length_append,List.length_cons,List.length_nil] at *; omega) | (simp;done) | (simp;omega)),by (first | omega | (simp only [List.length_append,List.length_cons,List.length_nil] at *; omega) | (simp;done) | (simp;omega)),by (first | omega | (simp only [List.length_append,List.length_cons,List.length_nil] at *; omega) | (simp;done) | (simp;omega)),zrg (by omega) (by omega) (x1.trans x2) (x2.S y1) y2,ztE (x2.S y1) y2⟩
    ·simp only [w1,w2,zaC,Option.bind_some];rw [zcU (by omega)]
     simp only [Option.bind_some];exact .inr ⟨cd,pl,_,_,_,_,_,rfl,rfl,w3,w4,w5,w6,by (first | omega | (simp only [List.length_append,List.length_cons,List.length_nil] at *; omega) | (simp;done) | (simp;omega))⟩
  ·by_cases h82:nowT c i'=82
   ·have hlt:i' < c.length:=zeW (by rw [h82];decide)
    have e85 : ¬ (82:Int)=85:=by decide
    simp only [h82,e85,Option.bind_some,decide_true,not_true_eq_false,not_false_eq_true,decide_false,Bool.not_true,Bool.false_eq_true,if_true,if_false];unfold zbp;rw [zcn (by omega) hlt c1 ⟨by omega,g4⟩ ⟨g5,g6⟩,zcq (by omega) hlt c1 ⟨by omega,g4⟩ ⟨g5,g6⟩,h82]
    by_cases hbad:bad n' t' 82=true
    ·simp only [hbad,if_true,zaC,Option.bind_some];rw [zoQ _ (by decide) (by omega)]
     simp only [Option.bind_some];rw [zcU (by omega)]
     simp only [Option.bind_some];exact .inr ⟨7,i',_,_,_,_,_,rfl,rfl,by decide,by omega,by omega,by omega,by (first | omega | (simp only [List.length_append,List.length_cons,List.length_nil] at *; omega) | (simp;done) | (simp;omega))⟩
    ·obtain ⟨k1,k2,k3⟩:=zjV hbad g5 g6;simp only [hbad,Bool.false_eq_true,if_false,zaM,Option.bind_some];rw [p_no (by omega)]
     simp only [Option.bind_some];rcases hP (((c.length:Int) - (i'+1)).toNat) (by omega) (i'+1) (n'+1) (tt t' 82) s (l'++[(3,a1,0,())]) l2' ⟨by omega,by omega,c1,by omega,k1,k2,k3,s0,s1,by (first | omega | (simp only [List.length_append,List.length_cons,List.length_nil] at *; omega) | (simp;done) | (simp;omega)),by omega⟩ (Nat.le_refl _) with
      ⟨a2,b2,i2,n2,t2,l3,l4,w1,w2,w3,w4,w5,w6,w7,w8,w9,w10,w11,w12,x2,y2⟩ | ⟨cd,pl,b2,i2,n2,t2,l4,w1,w2,w3,w4,w5,w6,w7⟩
     ·simp only [List.length_append,List.length_cons,List.length_nil] at w11;simp only [w1,w2,zaM,Option.bind_some];rw [p_no (by omega),zcU (by omega)]
      simp only [Option.bind_some];rw [zjQ (by (first | omega | (simp only [List.length_append,List.length_cons,List.length_nil] at *; omega) | (simp;done) | (simp;omega)))]
      simp only [Option.bind_some];rw [p_no (by (first | omega | (simp only [List.length_append,List.length_cons,List.length_nil] at *; omega) | (simp;done) | (simp;omega)))]
      simp only [Option.bind_some];obtain ⟨f,f1,f2⟩:=y1;obtain ⟨g,g1',g2'⟩:=y2;have u1:PS (l'++[(3,a1,0,())]) l'.length (.neg (dz f)) := .put_neg f1;have u2:PS (l3++[(3,a2,0,())]) l3.length (.neg (dz g)) := .put_neg g1';have u3:PS (l3++[(3,a2,0,())]) l'.length (.neg (dz f)):=(x2.P u1).mono _;have u4:=PS.put_til u3 u2;have u5:=PS.put_neg (B:=0) u4;refine .inl ⟨_,_,_,_,_,_,_,rfl,rfl,by omega,w4,by omega,w6,w7,w8,by omega,by (first | omega | (simp only [List.length_append,List.length_cons,List.length_nil] at *; omega) | (simp;done) | (simp;omega)),by (first | omega | (simp only [List.length_append,List.length_cons,List.length_nil] at *; omega) | (simp;done) | (simp;omega)),by (first | omega | (simp only [List.length_append,List.length_cons,List.length_nil] at *; omega) | (simp;done) | (simp;omega)),?_,⟨.rel f g,u5,.put_rel (x2.R f2) g2'⟩⟩
      exact (((((x1.pP (.inr (.inr (.inr (.inl ⟨.inl rfl,f1.rng⟩))))).trans x2).pP (.inr (.inr (.inr (.inl ⟨.inl rfl,g1'.rng⟩))))).pP (.inr (.inr (.inr (.inr ⟨.inr (.inr rfl),u3.rng,u2.rng⟩))))).pP (.inr (.inr (.inr (.inl ⟨.inl rfl,u4.rng⟩))))).pR (.inr (.inr (.inr (.inr (.inr ⟨by show (82:Int)=38\/(82:Int)=124\/(82:Int)=85\/(82:Int)=82;omega,(x2.R f2).rng,g2'.rng⟩)))))
     ·simp only [w1,w2,zaC,Option.bind_some];rw [zcU (by omega)]
      simp only [Option.bind_some];exact .inr ⟨cd,pl,_,_,_,_,_,rfl,rfl,w3,w4,w5,w6,by (first | omega | (simp only [List.length_append,List.length_cons,List.length_nil] at *; omega) | (simp;done) | (simp;omega))⟩
   ·simp only [h85,h82,Option.bind_some,decide_true,not_false_eq_true,decide_false,Bool.not_true,Bool.false_eq_true,if_true,if_false];exact .inl ⟨a1,b1,i',n',t',l',l2',rfl,rfl,g1,g2,g3,g4,g5,g6,g7,g8,g9,g10,x1,y1⟩
 ·simp only [e1,e2,zaC,Option.bind_some];rw [zf6 g2];simp only [Option.bind_some];rw [r_ok];simp only [Option.bind_some,g1,decide_false,Bool.not_false,if_true];exact .inr ⟨cd,pl,_,_,_,_,_,rfl,rfl,g1,g2,g3,g4,g5⟩
theorem zts {c:List UInt8} {m:Nat} (hO:∀ m' < m,One c m') (hF:∀ m' < m,Form c m'):One c m:=by
 intro i n t s l l2 hp hm;obtain ⟨i0,i1,c1,n0,n1,t0,t1,s0,s1,q1,q2⟩:=hp;by_cases h33:nowT c i=33
 ·have hlt:i < c.length:=zeW (by rw [h33];decide)
  have e1:zay zak c i n t s 0 0 l2=(zas 33 c i n t s 0 0 l2).bind (fun y=>(zay zak y.1 y.2.1 y.2.2.1 y.2.2.2.1 y.2.2.2.2.1 y.2.2.2.2.2.2.1 y.2.2.2.2.2.2.2 y.2.2.2.2.2.1).bind (fun z=>(zaI 33 z.1 0 z.2.1 z.2.2.1 z.2.2.2.1 z.2.2.2.2.1 z.2.2.2.2.2.1 z.2.2.2.2.2.2.2.1 z.2.2.2.2.2.2.2.2 z.2.2.2.2.2.2.1).bind (fun y=>some (y.1,y.2.1,y.2.2.1,y.2.2.2.1,y.2.2.2.2.1,y.2.2.2.2.2.1,y.2.2.2.2.2.2.1,y.2.2.2.2.2.2.2.1,y.2.2.2.2.2.2.2.2)))):=by
   rw [zaN];unfold zaz;rw [r_ok,zf6 i0,h33];rfl
  rw [e1,zaK];unfold zaw;rw [zhK i0 i1,h33];simp only [Option.bind_some,Int.reduceEq,decide_true,decide_false,Bool.false_eq_true,if_true,if_false];rw [zcn i0 hlt c1 ⟨n0,n1⟩ ⟨t0,t1⟩,zcq i0 hlt c1 ⟨n0,n1⟩ ⟨t0,t1⟩,h33];by_cases hbad:bad n t 33=true
  ·simp only [hbad,if_true,zaC,Option.bind_some];rw [zqt _ (by decide)]
   simp only [Option.bind_some];rw [zcU (by omega)]
   simp only [Option.bind_some];exact .inr ⟨7,i,_,_,_,_,_,rfl,rfl,by decide,by omega,by omega,by omega,by (first | omega | (simp only [List.length_append,List.length_cons,List.length_nil] at *; omega) | (simp;done) | (simp;omega))⟩
  ·obtain ⟨k1,k2,k3⟩:=zjV hbad t0 t1;simp only [hbad,Bool.false_eq_true,if_false,zaM,Option.bind_some];rcases hO (((c.length:Int) - (i+1)).toNat) (by omega) (i+1) (n+1) (tt t 33) s l l2 ⟨by omega,by omega,c1,by omega,k1,k2,k3,s0,s1,by omega,by omega⟩ (Nat.le_refl _) with
    ⟨a2,b2,i2,n2,t2,l3,l4,w1,w2,w3,w4,w5,w6,w7,w8,w9,w10,w11,w12,x2,y2⟩ | ⟨cd,pl,b2,i2,n2,t2,l4,w1,w2,w3,w4,w5,w6,w7⟩
   ·simp only [w1,w2,zaM,Option.bind_some];rw [zcU (by omega)]
    simp only [Option.bind_some];rw [p_no (by (first | omega | (simp only [List.length_append,List.length_cons,List.length_nil] at *; omega) | (simp;done) | (simp;omega)))]
    simp only [Option.bind_some];exact .inl ⟨_,_,_,_,_,_,_,rfl,rfl,by omega,w4,by omega,w6,w7,w8,by omega,by (first | omega | (simp only [List.length_append,List.length_cons,List.length_nil] at *; omega) | (simp;done) | (simp;omega)),by (first | omega | (simp only [List.length_append,List.length_cons,List.length_nil] at *; omega) | (simp;done) | (simp;omega)),by (first | omega | (simp only [List.length_append,List.length_cons,List.length_nil] at *; omega) | (simp;done) | (simp;omega)),zr5 (.inl rfl) (by omega) x2 y2,ztr y2⟩
   ·simp only [w1,w2,zaC,Option.bind_some];rw [zcU (by omega)]
    simp only [Option.bind_some];exact .inr ⟨cd,pl,_,_,_,_,_,rfl,rfl,w3,w4,w5,w6,by (first | omega | (simp only [List.length_append,List.length_cons,List.length_nil] at *; omega) | (simp;done) | (simp;omega))⟩
 by_cases h88:nowT c i=88
 ·have hlt:i < c.length:=zeW (by rw [h88];decide)
  have e1:zay zak c i n t s 0 0 l2=(zas 88 c i n t s 0 0 l2).bind (fun y=>(zay zak y.1 y.2.1 y.2.2.1 y.2.2.2.1 y.2.2.2.2.1 y.2.2.2.2.2.2.1 y.2.2.2.2.2.2.2 y.2.2.2.2.2.1).bind (fun z=>(zaI 88 z.1 0 z.2.1 z.2.2.1 z.2.2.2.1 z.2.2.2.2.1 z.2.2.2.2.2.1 z.2.2.2.2.2.2.2.1 z.2.2.2.2.2.2.2.2 z.2.2.2.2.2.2.1).bind (fun y=>some (y.1,y.2.1,y.2.2.1,y.2.2.2.1,y.2.2.2.2.1,y.2.2.2.2.2.1,y.2.2.2.2.2.2.1,y.2.2.2.2.2.2.2.1,y.2.2.2.2.2.2.2.2)))):=by
   rw [zaN];unfold zaz;rw [r_ok,zf6 i0,h88];rfl
  rw [e1,zaK];unfold zaw;rw [zhK i0 i1,h88];simp only [Option.bind_some,Int.reduceEq,decide_true,decide_false,Bool.false_eq_true,if_true,if_false];rw [zcn i0 hlt c1 ⟨n0,n1⟩ ⟨t0,t1⟩,zcq i0 hlt c1 ⟨n0,n1⟩ ⟨t0,t1⟩,h88];by_cases hbad:bad n t 88=true
  ·simp only [hbad,if_true,zaC,Option.bind_some];rw [zqt _ (by decide)]
   simp only [Option.bind_some];rw [zcU (by omega)]
   simp only [Option.bind_some];exact .inr ⟨7,i,_,_,_,_,_,rfl,rfl,by decide,by omega,by omega,by omega,by (first | omega | (simp only [List.length_append,List.length_cons,List.length_nil] at *; omega) | (simp;done) | (simp;omega))⟩
  ·obtain ⟨k1,k2,k3⟩:=zjV hbad t0 t1;simp only [hbad,Bool.false_eq_true,if_false,zaM,Option.bind_some];rcases hO (((c.length:Int) - (i+1)).toNat) (by omega) (i+1) (n+1) (tt t 88) s l l2 ⟨by omega,by omega,c1,by omega,k1,k2,k3,s0,s1,by omega,by omega⟩ (Nat.le_refl _) with
    ⟨a2,b2,i2,n2,t2,l3,l4,w1,w2,w3,w4,w5,w6,w7,w8,w9,w10,w11,w12,x2,y2⟩ | ⟨cd,pl,b2,i2,n2,t2,l4,w1,w2,w3,w4,w5,w6,w7⟩
   ·simp only [w1,w2,zaM,Option.bind_some];rw [zcU (by omega)]
    simp only [Option.bind_some];rw [zjQ (by (first | omega | (simp only [List.length_append,List.length_cons,List.length_nil] at *; omega) | (simp;done) | (simp;omega)))]
    simp only [Option.bind_some];exact .inl ⟨_,_,_,_,_,_,_,rfl,rfl,by omega,w4,by omega,w6,w7,w8,by omega,by (first | omega | (simp only [List.length_append,List.length_cons,List.length_nil] at *; omega) | (simp;done) | (simp;omega)),by (first | omega | (simp only [List.length_append,List.length_cons,List.length_nil] at *; omega) | (simp;done) | (simp;omega)),by (first | omega | (simp only [List.length_append,List.length_cons,List.length_nil] at *; omega) | (simp;done) | (simp;omega)),zr5 (.inr rfl) (by omega) x2 y2,nx_sn y2⟩
   ·simp only [w1,w2,zaC,Option.bind_some];rw [zcU (by omega)]
    simp only [Option.bind_some];exact .inr ⟨cd,pl,_,_,_,_,_,rfl,rfl,w3,w4,w5,w6,by (first | omega | (simp only [List.length_append,List.length_cons,List.length_nil] at *; omega) | (simp;done) | (simp;omega))⟩
 by_cases h70:nowT c i=70
 ·have hlt:i < c.length:=zeW (by rw [h70];decide)
  have e1:zay zak c i n t s 0 0 l2=(zas 70 c i n t s 0 0 l2).bind (fun y=>(zay zak y.1 y.2.1 y.2.2.1 y.2.2.2.1 y.2.2.2.2.1 y.2.2.2.2.2.2.1 y.2.2.2.2.2.2.2 y.2.2.2.2.2.1).bind (fun z=>(zaI 70 z.1 0 z.2.1 z.2.2.1 z.2.2.2.1 z.2.2.2.2.1 z.2.2.2.2.2.1 z.2.2.2.2.2.2.2.1 z.2.2.2.2.2.2.2.2 z.2.2.2.2.2.2.1).bind (fun y=>some (y.1,y.2.1,y.2.2.1,y.2.2.2.1,y.2.2.2.2.1,y.2.2.2.2.2.1,y.2.2.2.2.2.2.1,y.2.2.2.2.2.2.2.1,y.2.2.2.2.2.2.2.2)))):=by
   rw [zaN];unfold zaz;rw [r_ok,zf6 i0,h70];rfl
  rw [e1,zaK];unfold zaw;rw [zhK i0 i1,h70];simp only [Option.bind_some,Int.reduceEq,decide_true,decide_false,Bool.false_eq_true,if_true,if_false];rw [zcn i0 hlt c1 ⟨n0,n1⟩ ⟨t0,t1⟩,zcq i0 hlt c1 ⟨n0,n1⟩ ⟨t0,t1⟩,h70];by_cases hbad:bad n t 70=true
  ·simp only [hbad,if_true,zaC,Option.bind_some];rw [zqt _ (by decide)]
   simp only [Option.bind_some];rw [zcU (by omega)]
   simp only [Option.bind_some];exact .inr ⟨7,i,_,_,_,_,_,rfl,rfl,by decide,by omega,by omega,by omega,by (first | omega | (simp only [List.length_append,List.length_cons,List.length_nil] at *; omega) | (simp;done) | (simp;omega))⟩
  ·obtain ⟨k1,k2,k3⟩:=zjV hbad t0 t1;simp only [hbad,Bool.false_eq_true,if_false,zaM,Option.bind_some];obtain ⟨l1,z1,z2,z3⟩:=zmF (c:=c) (i:=i+1) (n:=n+1) (t:=tt t 70) (s:=s) (l:=l) (by omega)
   rw [z1];simp only [Option.bind_some];rcases hO (((c.length:Int) - (i+1)).toNat) (by omega) (i+1) (n+1) (tt t 70) s l1 l2 ⟨by omega,by omega,c1,by omega,k1,k2,k3,s0,s1,by omega,by omega⟩ (Nat.le_refl _) with
    ⟨a2,b2,i2,n2,t2,l3,l4,w1,w2,w3,w4,w5,w6,w7,w8,w9,w10,w11,w12,x2,y2⟩ | ⟨cd,pl,b2,i2,n2,t2,l4,w1,w2,w3,w4,w5,w6,w7⟩
   ·simp only [w1,w2,zaM,Option.bind_some];rw [zcU (by omega)]
    simp only [Option.bind_some];rw [zjQ (by (first | omega | (simp only [List.length_append,List.length_cons,List.length_nil] at *; omega) | (simp;done) | (simp;omega)))]
    simp only [Option.bind_some];obtain ⟨g,g1',g2'⟩:=y2;subst z3;have al:PS ((l++[(0,0,0,())])++[(3,(l.length:Int),0,())]) ((l++[(0,0,0,())]).length) (.neg .zero) := .put_neg .put_zero;have e0:(((l++[((0:Int),(0:Int),(0:Int),())]).length:Nat):Int)=(l.length:Int)+1:=by simp
    rw [e0] at al;have x0:Ex l l2 ((l++[(0,0,0,())])++[(3,(l.length:Int),0,())]) l2:=((Ex.refl l l2).pP (.inl rfl)).pP (.inr (.inr (.inr (.inl ⟨.inl rfl,by show (0:Int)<=(l.length:Int);omega,by show (l.length:Int) < _;simp;omega⟩))))
    have al2:=x2.P al;refine .inl ⟨_,_,_,_,_,_,_,rfl,rfl,by omega,w4,by omega,w6,w7,w8,by omega,by (first | omega | (simp only [List.length_append,List.length_cons,List.length_nil] at *; omega) | (simp;done) | (simp;omega)),by (first | omega | (simp only [List.length_append,List.length_cons,List.length_nil] at *; omega) | (simp;done) | (simp;omega)),by (first | omega | (simp only [List.length_append,List.length_cons,List.length_nil] at *; omega) | (simp;done) | (simp;omega)),?_,⟨.fin g,.put_til al2 g1',.put_fin g2'⟩⟩
    exact ((x0.trans x2).pP (.inr (.inr (.inr (.inr ⟨.inr (.inr rfl),al2.rng,g1'.rng⟩))))).pR (.inr (.inr (.inr (.inr (.inl ⟨by show (70:Int)=33\/(70:Int)=88\/(70:Int)=70\/(70:Int)=71;omega,g2'.rng⟩)))))
   ·simp only [w1,w2,zaC,Option.bind_some];rw [zcU (by omega)]
    simp only [Option.bind_some];exact .inr ⟨cd,pl,_,_,_,_,_,rfl,rfl,w3,w4,w5,w6,by (first | omega | (simp only [List.length_append,List.length_cons,List.length_nil] at *; omega) | (simp;done) | (simp;omega))⟩
 by_cases h71:nowT c i=71
 ·have hlt:i < c.length:=zeW (by rw [h71];decide)
  have e1:zay zak c i n t s 0 0 l2=(zas 71 c i n t s 0 0 l2).bind (fun y=>(zay zak y.1 y.2.1 y.2.2.1 y.2.2.2.1 y.2.2.2.2.1 y.2.2.2.2.2.2.1 y.2.2.2.2.2.2.2 y.2.2.2.2.2.1).bind (fun z=>(zaI 71 z.1 0 z.2.1 z.2.2.1 z.2.2.2.1 z.2.2.2.2.1 z.2.2.2.2.2.1 z.2.2.2.2.2.2.2.1 z.2.2.2.2.2.2.2.2 z.2.2.2.2.2.2.1).bind (fun y=>some (y.1,y.2.1,y.2.2.1,y.2.2.2.1,y.2.2.2.2.1,y.2.2.2.2.2.1,y.2.2.2.2.2.2.1,y.2.2.2.2.2.2.2.1,y.2.2.2.2.2.2.2.2)))):=by
   rw [zaN];unfold zaz;rw [r_ok,zf6 i0,h71];rfl
  rw [e1,zaK];unfold zaw;rw [zhK i0 i1,h71];simp only [Option.bind_some,Int.reduceEq,decide_true,decide_false,Bool.false_eq_true,if_true,if_false];rw [zcn i0 hlt c1 ⟨n0,n1⟩ ⟨t0,t1⟩,zcq i0 hlt c1 ⟨n0,n1⟩ ⟨t0,t1⟩,h71];by_cases hbad:bad n t 71=true
  ·simp only [hbad,if_true,zaC,Option.bind_some];rw [zqt _ (by decide)]
   simp only [Option.bind_some];rw [zcU (by omega)]
   simp only [Option.bind_some];exact .inr ⟨7,i,_,_,_,_,_,rfl,rfl,by decide,by omega,by omega,by omega,by (first | omega | (simp only [List.length_append,List.length_cons,List.length_nil] at *; omega) | (simp;done) | (simp;omega))⟩
  ·obtain ⟨k1,k2,k3⟩:=zjV hbad t0 t1;simp only [hbad,Bool.false_eq_true,if_false,zaM,Option.bind_some];obtain ⟨l1,z1,z2,z3⟩:=zmF (c:=c) (i:=i+1) (n:=n+1) (t:=tt t 71) (s:=s) (l:=l) (by omega)
   rw [z1];simp only [Option.bind_some];rcases hO (((c.length:Int) - (i+1)).toNat) (by omega) (i+1) (n+1) (tt t 71) s l1 l2 ⟨by omega,by omega,c1,by omega,k1,k2,k3,s0,s1,by omega,by omega⟩ (Nat.le_refl _) with
    ⟨a2,b2,i2,n2,t2,l3,l4,w1,w2,w3,w4,w5,w6,w7,w8,w9,w10,w11,w12,x2,y2⟩ | ⟨cd,pl,b2,i2,n2,t2,l4,w1,w2,w3,w4,w5,w6,w7⟩
   ·simp only [w1,w2,zaM,Option.bind_some];rw [zcU (by omega)]
    simp only [Option.bind_some];rw [p_no (by (first | omega | (simp only [List.length_append,List.length_cons,List.length_nil] at *; omega) | (simp;done) | (simp;omega)))]
    simp only [Option.bind_some];rw [zjQ (by (first | omega | (simp only [List.length_append,List.length_cons,List.length_nil] at *; omega) | (simp;done) | (simp;omega)))]
    simp only [Option.bind_some];rw [p_no (by (first | omega | (simp only [List.length_append,List.length_cons,List.length_nil] at *; omega) | (simp;done) | (simp;omega)))]
    simp only [Option.bind_some];obtain ⟨g,g1',g2'⟩:=y2;subst z3;have al:PS ((l++[(0,0,0,())])++[(3,(l.length:Int),0,())]) ((l++[(0,0,0,())]).length) (.neg .zero) := .put_neg .put_zero;have e0:(((l++[((0:Int),(0:Int),(0:Int),())]).length:Nat):Int)=(l.length:Int)+1:=by simp
    rw [e0] at al;have x0:Ex l l2 ((l++[(0,0,0,())])++[(3,(l.length:Int),0,())]) l2:=((Ex.refl l l2).pP (.inl rfl)).pP (.inr (.inr (.inr (.inl ⟨.inl rfl,by show (0:Int)<=(l.length:Int);omega,by show (l.length:Int) < _;simp;omega⟩))))
    have al2:=x2.P al;have u2:PS (l3++[(3,a2,0,())]) l3.length (.neg (dz g)) := .put_neg g1';have u4:=PS.put_til (al2.mono [(3,a2,0,())]) u2;have u5:=PS.put_neg (B:=0) u4;refine .inl ⟨_,_,_,_,_,_,_,rfl,rfl,by omega,w4,by omega,w6,w7,w8,by omega,by (first | omega | (simp only [List.length_append,List.length_cons,List.length_nil] at *; omega) | (simp;done) | (simp;omega)),by (first | omega | (simp only [List.length_append,List.length_cons,List.length_nil] at *; omega) | (simp;done) | (simp;omega)),by (first | omega | (simp only [List.length_append,List.length_cons,List.length_nil] at *; omega) | (simp;done) | (simp;omega)),?_,⟨.glob g,u5,.put_glob g2'⟩⟩
    exact (((x0.trans x2).pP (.inr (.inr (.inr (.inl ⟨.inl rfl,g1'.rng⟩))))).pP (.inr (.inr (.inr (.inr ⟨.inr (.inr rfl),(al2.mono _).rng,u2.rng⟩))))).pP (.inr (.inr (.inr (.inl ⟨.inl rfl,u4.rng⟩)))) |>.pR (.inr (.inr (.inr (.inr (.inl ⟨by show (71:Int)=33\/(71:Int)=88\/(71:Int)=70\/(71:Int)=71;omega,g2'.rng⟩)))))
   ·simp only [w1,w2,zaC,Option.bind_some];rw [zcU (by omega)]
    simp only [Option.bind_some];exact .inr ⟨cd,pl,_,_,_,_,_,rfl,rfl,w3,w4,w5,w6,by (first | omega | (simp only [List.length_append,List.length_cons,List.length_nil] at *; omega) | (simp;done) | (simp;omega))⟩
 by_cases h40:nowT c i=40
 ·have hlt:i < c.length:=zeW (by rw [h40];decide)
  rw [zaN,zaK];unfold zaw zaz;rw [zhK i0 i1,r_ok,zf6 i0,h40];simp only [Option.bind_some,Int.reduceEq,decide_true,decide_false,Bool.not_true,Bool.false_eq_true,if_true,if_false];unfold za3;simp only [Int.reduceEq,decide_true,decide_false,Bool.false_eq_true,if_true,if_false];unfold zaY;simp only [Int.reduceEq,not_true_eq_false,decide_true,decide_false,Bool.false_eq_true,if_true,if_false];by_cases hs:s=40
  ·subst hs;simp only [decide_true,if_true,zlF,zaC,zjA,Option.bind_some];exact .inr ⟨7,i,_,_,_,_,_,rfl,rfl,by decide,by omega,by omega,by omega,by omega⟩
  ·simp only [hs,decide_false,Bool.false_eq_true,if_false];unfold zbq;rw [zah (zaX (by omega) (by omega)),zah (zaX (by omega) (by omega)),zah (zaX (by omega) (by omega)),zah (zaX (by omega) (by omega))]
   have es:s+1 - 1=s:=by omega
   have fs:fits (s+1 - 1):=zaX (by omega) (by omega)
   rcases hF (((c.length:Int) - (i+1)).toNat) (by omega) (i+1) n t (s+1) l l2 ⟨by omega,by omega,c1,by omega,n1,t0,t1,by omega,by omega,by omega,by omega⟩ (Nat.le_refl _) with
    ⟨a2,b2,i2,n2,t2,l3,l4,w1,w2,w3,w4,w5,w6,w7,w8,w9,w10,w11,w12,x2,y2⟩ | ⟨cd,pl,b2,i2,n2,t2,l4,w1,w2,w3,w4,w5,w6,w7⟩
   ·simp only [w1,w2,zaM,Option.bind_some];rw [zhK (by omega) w4,zf6 (by omega)]
    simp only [Option.bind_some];have fi:fits (i2+1):=zaX (by omega) (by omega)
    by_cases h41:nowT c i2=41
    ·have hlt2:i2 < c.length:=zeW (by rw [h41];decide)
     simp only [h41,not_true_eq_false,decide_false,Bool.false_eq_true,if_false];unfold zc9;rw [zah fi,zah fs,zah fi,zah fs,es];exact .inl ⟨_,_,_,_,_,_,_,rfl,rfl,by omega,by omega,by omega,w6,w7,w8,w9,w10,w11,w12,x2,y2⟩
    ·simp only [h41,not_false_eq_true,decide_true,if_true,zlF,zaC,zjA,Option.bind_some];rw [zah fi,zah fs,es];exact .inr ⟨4,i2,_,_,_,_,_,rfl,rfl,by decide,by omega,by omega,by omega,by omega⟩
   ·simp only [w1,w2,zaC,Option.bind_some];rw [zf6 w4];simp only [Option.bind_some];have fi:fits (i2+1):=zaX (by omega) (by omega)
    by_cases h41:nowT c i2=41
    ·simp only [h41,not_true_eq_false,decide_false,Bool.false_eq_true,if_false];rw [zah fi,zah fs,es];exact .inr ⟨cd,pl,_,_,_,_,_,rfl,rfl,w3,by omega,by omega,w6,w7⟩
    ·simp only [h41,not_false_eq_true,decide_true,if_true,zjA,w3,if_false,Option.bind_some];rw [zah fi,zah fs,es];exact .inr ⟨cd,pl,_,_,_,_,_,rfl,rfl,w3,by omega,by omega,w6,w7⟩
 by_cases h112:nowT c i=112
 ·have hlt:i < c.length:=zeW (by rw [h112];decide)
  have e1:zay zak c i n t s 0 0 l2=(zas 112 c i n t s 0 0 l2).bind (fun z=>(zaI 112 0 0 z.1 z.2.1 z.2.2.1 z.2.2.2.1 z.2.2.2.2.1 z.2.2.2.2.2.2.1 z.2.2.2.2.2.2.2 z.2.2.2.2.2.1).bind (fun y=>some (y.1,y.2.1,y.2.2.1,y.2.2.2.1,y.2.2.2.2.1,y.2.2.2.2.2.1,y.2.2.2.2.2.2.1,y.2.2.2.2.2.2.2.1,y.2.2.2.2.2.2.2.2))):=by
   rw [zaN];unfold zaz;rw [r_ok,zf6 i0,h112];rfl
  rw [e1,zaK];unfold zaw;rw [zhK i0 i1,h112];simp only [Option.bind_some,Int.reduceEq,decide_true,decide_false,Bool.false_eq_true,if_true,if_false];rw [zcn i0 hlt c1 ⟨n0,n1⟩ ⟨t0,t1⟩,zcq i0 hlt c1 ⟨n0,n1⟩ ⟨t0,t1⟩,h112];by_cases hbad:bad n t 112=true
  ·simp only [hbad,if_true,zaC,Option.bind_some];rw [zcU (by omega)]
   simp only [Option.bind_some];exact .inr ⟨7,i,_,_,_,_,_,rfl,rfl,by decide,by omega,by omega,by omega,by (first | omega | (simp only [List.length_append,List.length_cons,List.length_nil] at *; omega) | (simp;done) | (simp;omega))⟩
  ·obtain ⟨k1,k2,k3⟩:=zjV hbad t0 t1;simp only [hbad,Bool.false_eq_true,if_false,zaM,Option.bind_some];rw [zjQ (by omega),zcU (by omega)]
   simp only [Option.bind_some];exact .inl ⟨_,_,_,_,_,_,_,rfl,rfl,by omega,by omega,by omega,k1,k2,k3,by omega,by (first | omega | (simp only [List.length_append,List.length_cons,List.length_nil] at *; omega) | (simp;done) | (simp;omega)),by (first | omega | (simp only [List.length_append,List.length_cons,List.length_nil] at *; omega) | (simp;done) | (simp;omega)),by (first | omega | (simp only [List.length_append,List.length_cons,List.length_nil] at *; omega) | (simp;done) | (simp;omega)),((Ex.refl l l2).pP (.inr (.inl rfl))).pR (.inr (.inr (.inl rfl))),⟨.p,.put_p,.put_p⟩⟩
 by_cases h113:nowT c i=113
 ·have hlt:i < c.length:=zeW (by rw [h113];decide)
  have e1:zay zak c i n t s 0 0 l2=(zas 113 c i n t s 0 0 l2).bind (fun z=>(zaI 113 0 0 z.1 z.2.1 z.2.2.1 z.2.2.2.1 z.2.2.2.2.1 z.2.2.2.2.2.2.1 z.2.2.2.2.2.2.2 z.2.2.2.2.2.1).bind (fun y=>some (y.1,y.2.1,y.2.2.1,y.2.2.2.1,y.2.2.2.2.1,y.2.2.2.2.2.1,y.2.2.2.2.2.2.1,y.2.2.2.2.2.2.2.1,y.2.2.2.2.2.2.2.2))):=by
   rw [zaN];unfold zaz;rw [r_ok,zf6 i0,h113];rfl
  rw [e1,zaK];unfold zaw;rw [zhK i0 i1,h113];simp only [Option.bind_some,Int.reduceEq,decide_true,decide_false,Bool.false_eq_true,if_true,if_false];rw [zcn i0 hlt c1 ⟨n0,n1⟩ ⟨t0,t1⟩,zcq i0 hlt c1 ⟨n0,n1⟩ ⟨t0,t1⟩,h113];by_cases hbad:bad n t 113=true
  ·simp only [hbad,if_true,zaC,Option.bind_some];rw [zcU (by omega)]
   simp only [Option.bind_some];exact .inr ⟨7,i,_,_,_,_,_,rfl,rfl,by decide,by omega,by omega,by omega,by (first | omega | (simp only [List.length_append,List.length_cons,List.length_nil] at *; omega) | (simp;done) | (simp;omega))⟩
  ·obtain ⟨k1,k2,k3⟩:=zjV hbad t0 t1;simp only [hbad,Bool.false_eq_true,if_false,zaM,Option.bind_some];rw [zjQ (by omega),zcU (by omega)]
   simp only [Option.bind_some];exact .inl ⟨_,_,_,_,_,_,_,rfl,rfl,by omega,by omega,by omega,k1,k2,k3,by omega,by (first | omega | (simp only [List.length_append,List.length_cons,List.length_nil] at *; omega) | (simp;done) | (simp;omega)),by (first | omega | (simp only [List.length_append,List.length_cons,List.length_nil] at *; omega) | (simp;done) | (simp;omega)),by (first | omega | (simp only [List.length_append,List.length_cons,List.length_nil] at *; omega) | (simp;done) | (simp;omega)),((Ex.refl l l2).pP (.inr (.inr (.inl rfl)))).pR (.inr (.inr (.inr (.inl rfl)))),⟨.q,.put_q,.put_q⟩⟩
 by_cases h48:nowT c i=48
 ·have hlt:i < c.length:=zeW (by rw [h48];decide)
  have e1:zay zak c i n t s 0 0 l2=(zas 48 c i n t s 0 0 l2).bind (fun z=>(zaI 48 0 0 z.1 z.2.1 z.2.2.1 z.2.2.2.1 z.2.2.2.2.1 z.2.2.2.2.2.2.1 z.2.2.2.2.2.2.2 z.2.2.2.2.2.1).bind (fun y=>some (y.1,y.2.1,y.2.2.1,y.2.2.2.1,y.2.2.2.2.1,y.2.2.2.2.2.1,y.2.2.2.2.2.2.1,y.2.2.2.2.2.2.2.1,y.2.2.2.2.2.2.2.2))):=by
   rw [zaN];unfold zaz;rw [r_ok,zf6 i0,h48];rfl
  rw [e1,zaK];unfold zaw;rw [zhK i0 i1,h48];simp only [Option.bind_some,Int.reduceEq,decide_true,decide_false,Bool.false_eq_true,if_true,if_false];rw [zcn i0 hlt c1 ⟨n0,n1⟩ ⟨t0,t1⟩,zcq i0 hlt c1 ⟨n0,n1⟩ ⟨t0,t1⟩,h48];by_cases hbad:bad n t 48=true
  ·simp only [hbad,if_true,zaC,Option.bind_some];rw [zcU (by omega)]
   simp only [Option.bind_some];exact .inr ⟨7,i,_,_,_,_,_,rfl,rfl,by decide,by omega,by omega,by omega,by (first | omega | (simp only [List.length_append,List.length_cons,List.length_nil] at *; omega) | (simp;done) | (simp;omega))⟩
  ·obtain ⟨k1,k2,k3⟩:=zjV hbad t0 t1;simp only [hbad,Bool.false_eq_true,if_false,zaM,Option.bind_some];rw [zjQ (by omega),zcU (by omega)]
   simp only [Option.bind_some];exact .inl ⟨_,_,_,_,_,_,_,rfl,rfl,by omega,by omega,by omega,k1,k2,k3,by omega,by (first | omega | (simp only [List.length_append,List.length_cons,List.length_nil] at *; omega) | (simp;done) | (simp;omega)),by (first | omega | (simp only [List.length_append,List.length_cons,List.length_nil] at *; omega) | (simp;done) | (simp;omega)),by (first | omega | (simp only [List.length_append,List.length_cons,List.length_nil] at *; omega) | (simp;done) | (simp;omega)),((Ex.refl l l2).pP (.inl rfl)).pR (.inl rfl),⟨.zero,.put_zero,.put_zero⟩⟩
 by_cases h49:nowT c i=49
 ·have hlt:i < c.length:=zeW (by rw [h49];decide)
  have e1:zay zak c i n t s 0 0 l2=(zas 49 c i n t s 0 0 l2).bind (fun z=>(zaI 49 0 0 z.1 z.2.1 z.2.2.1 z.2.2.2.1 z.2.2.2.2.1 z.2.2.2.2.2.2.1 z.2.2.2.2.2.2.2 z.2.2.2.2.2.1).bind (fun y=>some (y.1,y.2.1,y.2.2.1,y.2.2.2.1,y.2.2.2.2.1,y.2.2.2.2.2.1,y.2.2.2.2.2.2.1,y.2.2.2.2.2.2.2.1,y.2.2.2.2.2.2.2.2))):=by
   rw [zaN];unfold zaz;rw [r_ok,zf6 i0,h49];rfl
  rw [e1,zaK];unfold zaw;rw [zhK i0 i1,h49];simp only [Option.bind_some,Int.reduceEq,decide_true,decide_false,Bool.false_eq_true,if_true,if_false];rw [zcn i0 hlt c1 ⟨n0,n1⟩ ⟨t0,t1⟩,zcq i0 hlt c1 ⟨n0,n1⟩ ⟨t0,t1⟩,h49];by_cases hbad:bad n t 49=true
  ·simp only [hbad,if_true,zaC,Option.bind_some];rw [zcU (by omega)]
   simp only [Option.bind_some];exact .inr ⟨7,i,_,_,_,_,_,rfl,rfl,by decide,by omega,by omega,by omega,by (first | omega | (simp only [List.length_append,List.length_cons,List.length_nil] at *; omega) | (simp;done) | (simp;omega))⟩
  ·obtain ⟨k1,k2,k3⟩:=zjV hbad t0 t1;simp only [hbad,Bool.false_eq_true,if_false,zaM,Option.bind_some];obtain ⟨l1,z1,z2,z3⟩:=zmF (c:=c) (i:=i+1) (n:=n+1) (t:=tt t 49) (s:=s) (l:=l) (by omega)
   rw [z1,zcU (by omega)]
   simp only [Option.bind_some];subst z3;have al:PS ((l++[(0,0,0,())])++[(3,(l.length:Int),0,())]) ((l++[(0,0,0,())]).length) (.neg .zero) := .put_neg .put_zero;have e0:(((l++[((0:Int),(0:Int),(0:Int),())]).length:Nat):Int)=(l.length:Int)+1:=by simp
   rw [e0] at al;have x0:Ex l l2 ((l++[(0,0,0,())])++[(3,(l.length:Int),0,())]) l2:=((Ex.refl l l2).pP (.inl rfl)).pP (.inr (.inr (.inr (.inl ⟨.inl rfl,by show (0:Int)<=(l.length:Int);omega,by show (l.length:Int) < _;simp;omega⟩))))
   exact .inl ⟨_,_,_,_,_,_,_,rfl,rfl,by omega,by omega,by omega,k1,k2,k3,by omega,by (first | omega | (simp only [List.length_append,List.length_cons,List.length_nil] at *; omega) | (simp;done) | (simp;omega)),by (first | omega | (simp only [List.length_append,List.length_cons,List.length_nil] at *; omega) | (simp;done) | (simp;omega)),by (first | omega | (simp only [List.length_append,List.length_cons,List.length_nil] at *; omega) | (simp;done) | (simp;omega)),x0.pR (.inr (.inl rfl)),⟨.one,al,.put_one⟩⟩
 rw [zaN,zaK];unfold zaw zaz;rw [zhK i0 i1,r_ok,zf6 i0];simp only [h33,h88,h70,h71,h40,h112,h113,h48,h49,Option.bind_some,Int.reduceEq,decide_true,decide_false,Bool.not_true,Bool.false_eq_true,if_true,if_false];unfold za3;simp only [h33,h88,h70,h71,h40,h112,h113,h48,h49,decide_true,decide_false,Bool.false_eq_true,if_true,if_false];unfold zaY;simp only [h40,not_false_eq_true,decide_true,Bool.false_eq_true,if_true,if_false,zlF,zaC,zjA,Option.bind_some];exact .inr ⟨4,i,_,_,_,_,_,rfl,rfl,by decide,by omega,by omega,by omega,by omega⟩
theorem zs8 {c:List UInt8}:∀ m:Nat,One c m/\Part c m/\Term c m/\Form c m:=by
 intro m
 induction m using Nat.strongRecOn with
 | ind m ih=>
  have hO:One c m:=zts (fun m' h=>(ih m' h).1) (fun m' h=>(ih m' h).2.2.2)
  have hP:Part c m:=zsD hO (fun m' h=>(ih m' h).2.1)
  have hT:Term c m:=zs3 fun m' h=>by
   rcases Nat.lt_or_eq_of_le h with h | rfl
   ·exact (ih m' h).2.1
   ·exact hP
  have hF:Form c m:=zsr fun m' h=>by
   rcases Nat.lt_or_eq_of_le h with h | rfl
   ·exact (ih m' h).2.2.1
   ·exact hT
  exact ⟨hO,hP,hT,hF⟩
theorem zpC (c:List UInt8):(∃ l b l2,zeD c=some (l,(0,(0,())))/\zis c=some (b,(0,(0,())),l2)/\0 < l.length/\(l.length:Int)<=150/\(l2.length:Int)<=30/\WP l/\WR l2/\Sn l l2 (l.length - 1) b)
  \/(∃ cd pl,zeD c=some ([],(cd,(pl,())))/\zis c=some (0,(cd,(pl,())),[])/\cd≠0):=by
 unfold zeD zis;by_cases hc:(4000:Int) < c.length
 ·simp only [hc,decide_true,if_true,Option.bind_some];exact .inr ⟨1,0,rfl,rfl,by decide⟩
 ·simp only [hc,decide_false,Bool.false_eq_true,if_false];rcases (zs8 (c:=c) (((c.length:Int) - 0).toNat)).2.2.2 0 0 0 0 [] [] ⟨by omega,by omega,by omega,by omega,by omega,by omega,by omega,by omega,by omega,by simp,by simp⟩ (Nat.le_refl _) with
   ⟨a2,b2,i2,n2,t2,l3,l4,w1,w2,w3,w4,w5,w6,w7,w8,w9,w10,w11,w12,x2,y2⟩ | ⟨cd,pl,b2,i2,n2,t2,l4,w1,w2,w3,w4,w5,w6,w7⟩
  ·simp only [w1,w2,zaM,Option.bind_some];by_cases hi:i2 < (c.length:Int)
   ·simp only [hi,decide_true,if_true,zlF,zaC,zjA,Option.bind_some,Int.reduceEq,not_false_eq_true];exact .inr ⟨4,i2,rfl,rfl,by decide⟩
   ·simp only [hi,decide_false,Bool.false_eq_true,if_false,not_true_eq_false,Option.bind_some];rw [zah (zaX (by simp at w11;omega) (by simp at w11;omega)),zah ⟨by omega,by omega⟩]
    have e:(l3.drop 0).take (a2+1).toNat=l3:=by rw [List.drop_zero,List.take_of_length_le (by omega)]
    rw [e];have e2:a2=(l3.length:Int) - 1:=by omega
    exact .inl ⟨l3,b2,l4,rfl,rfl,by omega,by simp at w11;omega,by simp at w12;omega,x2.wp (fun k k0 k1=>by simp at k1;omega),x2.wr (fun k k0 k1=>by simp at k1;omega),e2 ▸ y2⟩
  ·simp only [w1,w2,zaC,Option.bind_some];by_cases hi:i2 < (c.length:Int)
   ·simp only [hi,decide_true,if_true,zjA,w3,if_false,not_false_eq_true,Option.bind_some];exact .inr ⟨cd,pl,rfl,rfl,w3⟩
   ·simp only [hi,decide_false,Bool.false_eq_true,if_false,w3,not_false_eq_true,decide_true,if_true,Option.bind_some];exact .inr ⟨cd,pl,rfl,rfl,w3⟩
theorem zr6 {α:Type} [DecidableEq α]:∀ {l U:List α},l.Nodup->(∀ x∈l,x∈U)->l.length<=U.length
 | [],_,_,_=>Nat.zero_le _
 | a::l,U,hn,hs=>by
  have ha:=hs a (by simp)
  obtain ⟨h1,h2⟩:=List.nodup_cons.1 hn;have:=zr6 (U:=U.erase a) h2 (fun x hx=>(List.mem_erase_of_ne (by rintro rfl;exact h1 hx)).2 (hs x (by simp [hx])))
  rw [List.length_erase_of_mem ha] at this;have hp:0 < U.length:=List.length_pos_of_mem ha;rw [List.length_cons];omega
theorem zpD {l:List Int} {n:Nat} (h:l.Nodup) (hb:∀ x∈l,0<=x/\x < n):l.length<=n:=by
 have:=zr6 (U:=(List.range n).map Int.ofNat) h (fun x hx=>by
  have:=hb x hx;exact List.mem_map.2 ⟨x.toNat,List.mem_range.2 (by omega),by show ((x.toNat:Nat):Int)=x;omega⟩)
 simpa using this
def nxt (n h i:Int):Int:=if i+1=n then h else i+1
def it (n h:Int):Nat->Int->Int
 | 0,i=>i
 | k+1,i=>it n h k (nxt n h i)
theorem zlA (n h:Int):∀ (a b:Nat) (i:Int),it n h (a+b) i=it n h b (it n h a i)
 | 0,b,i=>by rw [Nat.zero_add];rfl
 | a+1,b,i=>by rw [Nat.succ_add];exact zlA n h a b (nxt n h i)
theorem zgG {n h i:Int} (hh:0<=h/\h < n) (hi:0<=i/\i < n):0<=nxt n h i/\nxt n h i < n:=by
 unfold nxt;split<;>omega
theorem zeT {n h:Int} (hh:0<=h/\h < n):∀ (k:Nat) {i:Int},0<=i/\i < n->0<=it n h k i/\it n h k i < n
 | 0,_,hi=>hi
 | k+1,_,hi=>zeT hh k (zgG hh hi)
def Un (n h:Int) (A B:Int->Prop) (i:Int):Prop:=∃ k:Nat,B (it n h k i)/\∀ j:Nat,j < k->A (it n h j i)
theorem Un.step {n h:Int} {A B:Int->Prop} {i:Int}:Un n h A B i↔B i\/(A i/\Un n h A B (nxt n h i)):=by
 constructor
 ·rintro ⟨k,h1,h2⟩
  cases k with
  | zero=>exact .inl h1
  | succ k=>exact .inr ⟨h2 0 (by omega),k,h1,fun j hj=>h2 (j+1) (by omega)⟩
 ·rintro (h1 | ⟨h1,k,h2,h3⟩)
  ·exact ⟨0,h1,fun j hj=>by omega⟩
  ·refine ⟨k+1,h2,fun j hj => ?_⟩
   cases j with
   | zero=>exact h1
   | succ j=>exact h3 j (by omega)
theorem twice {n h:Int} (hh:0<=h/\h < n) {i:Int} (hi:0<=i/\i < n):∃ a b:Nat,a < b/\b<=n.toNat/\it n h a i=it n h b i:=by
 refine Classical.byContradiction fun hno => ?_
 have hnd:((List.range (n.toNat+1)).map fun k=>it n h k i).Nodup:=by
  refine List.pairwise_map.2 (List.Pairwise.imp_of_mem ?_ (List.pairwise_lt_range (n:=n.toNat+1)))
  intro a b ha hb hab e;exact hno ⟨a,b,hab,by have:=List.mem_range.1 hb;omega,e⟩
 have:=zpD (n:=n.toNat) hnd (fun x hx=>by
  obtain ⟨k,_,rfl⟩:=List.mem_map.1 hx;have:=zeT hh k hi;omega)
 simp at this;omega
theorem Un.bound {n h:Int} (hh:0<=h/\h < n) {A B:Int->Prop} {i:Int} (hi:0<=i/\i < n) (hu:Un n h A B i):∃ k:Nat,k < n.toNat/\B (it n h k i)/\∀ j:Nat,j < k->A (it n h j i):=by
 obtain ⟨k,h1,h2⟩:=hu
 induction k using Nat.strongRecOn with
 | ind k ih=>
  by_cases hk:k < n.toNat
  ·exact ⟨k,hk,h1,h2⟩
  ·obtain ⟨a,b,hab,hb,e⟩:=twice hh hi;refine ih (a+(k - b)) (by omega) ?_ (fun j hj=>h2 j (by omega))
   have e1:it n h k i=it n h (a+(k - b)) i:=by
    rw [zlA,e,<- zlA];congr 1;omega
   rw [<- e1];exact h1
def Hd (n h:Int) (lt:Int->Int):Fm->Int->Prop
 | .zero,_=>False
 | .one,_=>True
 | .p,i=>lt i=1\/lt i=3
 | .q,i=>lt i=2\/lt i=3
 | .neg a,i => ¬ Hd n h lt a i
 | .conj a b,i=>Hd n h lt a i/\Hd n h lt b i
 | .disj a b,i=>Hd n h lt a i\/Hd n h lt b i
 | .nx a,i=>Hd n h lt a (nxt n h i)
 | .fin a,i=>∃ k:Nat,Hd n h lt a (it n h k i)
 | .glob a,i=>∀ k:Nat,Hd n h lt a (it n h k i)
 | .til a b,i=>Un n h (Hd n h lt a) (Hd n h lt b) i
 | .rel a b,i=>∀ k:Nat,Hd n h lt b (it n h k i)\/∃ j:Nat,j < k/\Hd n h lt a (it n h j i)
theorem ziN {n h:Int} {lt:Int->Int}:∀ (f:Fm) (i:Int),Hd n h lt (dz f) i↔Hd n h lt f i
 | .zero,i=>Iff.rfl
 | .one,i=>by simp [dz,Hd]
 | .p,i=>Iff.rfl
 | .q,i=>Iff.rfl
 | .neg a,i=>by simp only [dz,Hd,ziN a]
 | .conj a b,i=>by simp only [dz,Hd,ziN a,ziN b]
 | .disj a b,i=>by simp only [dz,Hd,ziN a,ziN b]
 | .nx a,i=>by simp only [dz,Hd,ziN a]
 | .fin a,i=>by
  simp only [dz,Hd,Un,ziN a];exact ⟨fun ⟨k,h1,_⟩=>⟨k,h1⟩,fun ⟨k,h1⟩=>⟨k,h1,fun _ _=>id⟩⟩
 | .glob a,i=>by
  simp only [dz,Hd,Un,ziN a];exact ⟨fun h1 k=>Classical.byContradiction fun h2=>h1 ⟨k,h2,fun _ _=>id⟩,fun h1 ⟨k,h2,_⟩=>h2 (h1 k)⟩
 | .til a b,i=>by simp only [dz,Hd,Un,ziN a,ziN b]
 | .rel a b,i=>by
  simp only [dz,Hd,Un,ziN a,ziN b];constructor
  ·intro h1 k;refine Classical.byContradiction fun h2=>h1 ⟨k,fun h3=>h2 (.inl h3),fun j hj h3=>h2 (.inr ⟨j,hj,h3⟩)⟩
  ·rintro h1 ⟨k,h2,h3⟩;rcases h1 k with h4 | ⟨j,hj,h4⟩
   ·exact h2 h4
   ·exact h3 j hj h4
abbrev W3:=List Int×List Int×Unit
structure Lk (w:W3) (all:List Int) (n h:Int):Prop where
 hw:(w.1.length:Int)=h
 hl:(all.length:Int)=n
 h0:0<=h
 h1:h < n
 n1:n<=120
 lt:∀ i,0<=i->i < n->0<=ix all i/\ix all i < 4
section
variable {w:W3} {all:List Int} {n h:Int} {l:L3}
theorem zqR (lk:Lk w all n h) {i:Int} (i0:0<=i) (i1:i < n):zdU i all w=some (nxt n h i):=by
 have:=lk.n1;have hn:=lk.hl;have hh:=lk.hw;have f:fits (i+1):=zaX (by omega) (by omega)
 unfold zdU nxt;rw [zah f];by_cases e:i+1=n
 ·rw [if_pos (decide_eq_true (by omega)),if_pos e,hh]
 ·rw [if_neg (by simp only [decide_eq_true_eq];omega),if_neg e,zah f]
theorem zr1:∀ x:Fin 4,(iand .i64 (x.val:Int) 1=1↔(x.val:Int)=1\/(x.val:Int)=3)/\(iand .i64 (x.val:Int) 2=2↔(x.val:Int)=2\/(x.val:Int)=3):=by decide+kernel
def val (n h:Int) (all:List Int) (x:N3) (is':List (List Bool)) (k:Int) (v:Int->Bool) (j:Int):Bool:=
 if x.1=6 then ix (ix is' (nxt n h j)) x.2.1 else
 if x.1=7 then ix (ix is' j) x.2.2.1 || (ix (ix is' j) x.2.1 && (if j+1=n then ix (ix is' h) k else v (j+1))) else
 if x.1=1 then decide (iand .i64 (ix all j) 1=1) else
 if x.1=2 then decide (iand .i64 (ix all j) 2=2) else
 if x.1=3 then !ix (ix is' j) x.2.1 else
 if x.1=4 then ix (ix is' j) x.2.1 && ix (ix is' j) x.2.2.1 else
 if x.1=5 then ix (ix is' j) x.2.1 || ix (ix is' j) x.2.2.1 else false
theorem znJ {x:N3} {is':List (List Bool)} {k j:Int} {v v':Int->Bool} (e:v (j+1)=v' (j+1)):val n h all x is' k v j=val n h all x is' k v' j:=by unfold val;rw [e]
structure Tb (n K:Int) (is':List (List Bool)):Prop where
 l:(is'.length:Int)=n
 r:∀ j,0<=j->j < n->((ix is' j).length:Int)=K
theorem zo9 (lk:Lk w all n h) (hK:(l.length:Int)<=150) (hw:WP l) {k:Int} (k0:0<=k) (k1:k < l.length) {r19:Int->List (List Bool)->Option (Bool×Int)} {t2:Int} (ht:0<=t2/\t2 < 2) {is':List (List Bool)} (tb:Tb n l.length is'):
  ∃ is2 v,za2 l w all k t2 r19 (n - 1) is'=r19 (t2+1) is2/\Tb n l.length is2/\(∀ j,0<=j->j < n->ix is2 j=(ix is' j).set k.toNat (v j))/\∀ j,0<=j->j < n->v j=val n h all (ix l k) is' k v j:=by
 have hn:=lk.hl;have hn1:=lk.n1;have h0:=lk.h0;have h1:=lk.h1;have key:∀ (m:Nat) (i:Int) (s:List (List Bool)) (v:Int->Bool),(i+1).toNat=m -> -1<=i->i < n->(s.length:Int)=n->(∀ j,0<=j->j < n->ix s j=if j<=i then ix is' j else (ix is' j).set k.toNat (v j))->(∀ j,i < j->0<=j->j < n->v j=val n h all (ix l k) is' k v j)->
   ∃ is2 v,za2 l w all k t2 r19 i s=r19 (t2+1) is2/\Tb n l.length is2/\(∀ j,0<=j->j < n->ix is2 j=(ix is' j).set k.toNat (v j))/\∀ j,0<=j->j < n->v j=val n h all (ix l k) is' k v j:=by
  intro m
  induction m with
  | zero=>
   intro i s v hm i0 i1 hl hs hv;have hi:i = -1:=by omega
   subst hi;refine ⟨s,v,?_,⟨hl,fun j j0 j1 => ?_⟩,fun j j0 j1 => ?_,fun j j0 j1=>hv j (by omega) j0 j1⟩
   ·rw [zfQ];unfold zbD;rw [if_neg (by decide),zah (zaX (by omega) (by omega))]
   ·rw [hs j j0 j1,if_neg (by omega),List.length_set];exact tb.r j j0 j1
   ·rw [hs j j0 j1,if_neg (by omega)]
  | succ m ih=>
   intro i s v hm i0 i1 hl hs hv;have i0:0<=i:=by omega
   have si:ix s i=ix is' i:=by rw [hs i i0 i1,if_pos (by omega)]
   have sl:∀ j,0<=j->j < n->((ix s j).length:Int)=l.length:=fun j j0 j1=>by
    rw [hs j j0 j1]
    split
    ·exact tb.r j j0 j1
    ·rw [List.length_set];exact tb.r j j0 j1
   have sc:∀ j a,0<=j->j < n->0<=a->a < k->ix (ix s j) a=ix (ix is' j) a:=fun j a j0 j1 a0 a1=>by
    rw [hs j j0 j1]
    split
    ·rfl
    ·rw [zfw k0 a0 (by omega)]
   have fi:fits (i - 1):=zaX (by omega) (by omega)
   obtain ⟨x0,x1⟩:=zgG (n:=n) (h:=h) ⟨h0,h1⟩ ⟨i0,i1⟩;have go:∃ s2,za2 l w all k t2 r19 i s=za2 l w all k t2 r19 (i - 1) s2/\s2=s.set i.toNat ((ix s i).set k.toNat (val n h all (ix l k) is' k v i)):=by
    refine ⟨_,?_,rfl⟩
    have hx:=hw k k0 k1;have nk:ix (ix s (nxt n h i)) k=if i+1=n then ix (ix is' h) k else v (i+1):=by
     unfold nxt;by_cases e:i+1=n
     ·rw [if_pos e,if_pos e,hs h h0 h1,if_pos (by omega)]
     ·rw [if_neg e,if_neg e,hs (i+1) (by omega) (by omega),if_neg (by omega),zdD k0 (by have:=tb.r (i+1) (by omega) (by omega);omega)]
    have sli:=sl i i0 i1;have slx:=sl _ x0 x1
    conv=>lhs;rw [zfQ];unfold zbD
    rw [if_pos (decide_eq_true i0)];generalize hxe:ix l k=x at *
    obtain ⟨kd,a,b,u⟩:=x;unfold val;rcases hx with hx | hx | hx | ⟨hx,a0,a1⟩ | ⟨hx,⟨a0,a1⟩,b0,b1⟩
    ·have hx:kd=0:=hx;subst hx;rw [if_neg (by exact Bool.false_ne_true),if_neg (by exact Bool.false_ne_true),zah ⟨i0,by omega⟩,zah (by omega),zah ⟨i0,by omega⟩,zah (by omega),zah ⟨i0,by omega⟩,zah (by omega),zah (by omega)]
     show G _ _=_;rw [zah ⟨k0,by omega⟩,zah (by omega),zah fi]
     rfl
    ·have hx:kd=1:=hx;subst hx;rw [if_neg (by exact Bool.false_ne_true),if_neg (by exact Bool.false_ne_true),zah ⟨i0,by omega⟩,zah (by omega),zah ⟨i0,by omega⟩,zah (by omega),zah ⟨i0,by omega⟩,zah (by omega),zah (by omega)]
     show G _ _=_;rw [zah ⟨k0,by omega⟩,zah (by omega),zah fi]
     rfl
    ·have hx:kd=2:=hx;subst hx;rw [if_neg (by exact Bool.false_ne_true),if_neg (by exact Bool.false_ne_true),zah ⟨i0,by omega⟩,zah (by omega),zah ⟨i0,by omega⟩,zah (by omega),zah ⟨i0,by omega⟩,zah (by omega),zah (by omega)]
     show G _ _=_;rw [zah ⟨k0,by omega⟩,zah (by omega),zah fi]
     rfl
    ·have a0:0<=a:=a0;have a1:a < k:=a1;rcases (hx:kd=3\/kd=6) with rfl | rfl
     ·rw [if_neg (by exact Bool.false_ne_true),if_neg (by exact Bool.false_ne_true),zah ⟨i0,by omega⟩,zah (by omega),zah ⟨i0,by omega⟩,zah (by omega),zah ⟨i0,by omega⟩,zah (by omega),zah (by omega)]
      have pl:zaW ((3:Int),(a,(b,()))) (ix all i) (ix s i)=some (!ix (ix is' i) a):=by
       unfold zaW;rw [if_neg (by exact Bool.false_ne_true),if_neg (by exact Bool.false_ne_true),if_pos (by rfl),zah ⟨a0,by show a < _;omega⟩,si]
      show ((zaW ((3:Int),(a,(b,()))) (ix all i) (ix s i)).bind _)=_;rw [pl];show G _ _=_;rw [zah ⟨k0,by omega⟩,zah (by omega),zah fi]
      rfl
     ·rw [if_pos (by rfl),zah ⟨i0,by omega⟩,zah (by omega),zqR lk i0 i1]
      show G _ _=_;rw [zah ⟨x0,by omega⟩,zah (by omega),zah ⟨a0,by show a < _;omega⟩,zah (by show a.toNat < _;omega),zah ⟨k0,by omega⟩,zah (by omega),zah fi,sc _ a x0 x1 a0 a1]
      rfl
    ·have a0:0<=a:=a0;have a1:a < k:=a1;have b0:0<=b:=b0;have b1:b < k:=b1;rcases (hx:kd=4\/kd=5\/kd=7) with rfl | rfl | rfl
     ·rw [if_neg (by exact Bool.false_ne_true),if_neg (by exact Bool.false_ne_true),zah ⟨i0,by omega⟩,zah (by omega),zah ⟨i0,by omega⟩,zah (by omega),zah ⟨i0,by omega⟩,zah (by omega),zah (by omega)]
      have pl:zaW ((4:Int),(a,(b,()))) (ix all i) (ix s i)=some (ix (ix is' i) a && ix (ix is' i) b):=by
       unfold zaW;rw [if_neg (by exact Bool.false_ne_true),if_neg (by exact Bool.false_ne_true),if_neg (by exact Bool.false_ne_true),if_pos (by rfl),zah ⟨a0,by show a < _;omega⟩,si]
       have:=tb.r i i0 i1
       cases ix (ix is' i) a
       ·rfl
       ·rw [if_pos rfl,zah ⟨b0,by show b < _;omega⟩];rfl
      show ((zaW ((4:Int),(a,(b,()))) (ix all i) (ix s i)).bind _)=_;rw [pl];show G _ _=_;rw [zah ⟨k0,by omega⟩,zah (by omega),zah fi]
      rfl
     ·rw [if_neg (by exact Bool.false_ne_true),if_neg (by exact Bool.false_ne_true),zah ⟨i0,by omega⟩,zah (by omega),zah ⟨i0,by omega⟩,zah (by omega),zah ⟨i0,by omega⟩,zah (by omega),zah (by omega)]
      have pl:zaW ((5:Int),(a,(b,()))) (ix all i) (ix s i)=some (ix (ix is' i) a || ix (ix is' i) b):=by
       unfold zaW;rw [if_neg (by exact Bool.false_ne_true),if_neg (by exact Bool.false_ne_true),if_neg (by exact Bool.false_ne_true),if_neg (by exact Bool.false_ne_true),if_pos (by rfl),zah ⟨a0,by show a < _;omega⟩,si]
       have:=tb.r i i0 i1
       cases ix (ix is' i) a
       ·rw [if_neg (by simp),zah ⟨b0,by show b < _;omega⟩];rfl
       ·rfl
      show ((zaW ((5:Int),(a,(b,()))) (ix all i) (ix s i)).bind _)=_;rw [pl];show G _ _=_;rw [zah ⟨k0,by omega⟩,zah (by omega),zah fi]
      rfl
     ·rw [if_neg (by exact Bool.false_ne_true),if_pos (by rfl),zah ⟨i0,by omega⟩,zah (by omega),zah ⟨i0,by omega⟩,zah (by omega),zah ⟨b0,by show b < _;omega⟩,zah (by show b.toNat < _;omega)]
      have e1:ix (ix s i) b=ix (ix is' i) b:=sc i b i0 i1 b0 b1;have e2:ix (ix s i) a=ix (ix is' i) a:=sc i a i0 i1 a0 a1;show (if ix (ix s i) b=true then _ else _)=za2 l w all k t2 r19 (i - 1) (s.set i.toNat ((ix s i).set k.toNat (ix (ix is' i) b || (ix (ix is' i) a && (if i+1=n then ix (ix is' h) k else v (i+1))))))
      rw [e1]
      cases hb:ix (ix is' i) b
      ·rw [if_neg (by simp),zah ⟨i0,by omega⟩,zah (by omega),zah ⟨a0,by show a < _;omega⟩,zah (by show a.toNat < _;omega)]
       show (if ix (ix s i) a=true then _ else _)=_
       rw [e2]
       cases ha:ix (ix is' i) a
       ·rw [if_neg (by simp),zah ⟨k0,by omega⟩,zah (by omega),zah fi]
        rfl
       ·rw [if_pos rfl,zqR lk i0 i1];show G _ _=_;rw [zah ⟨x0,by omega⟩,zah (by omega),zah ⟨k0,by omega⟩,zah (by omega),zah ⟨k0,by omega⟩,zah (by omega),zah fi,nk]
        rfl
      ·rw [if_pos rfl,zah ⟨k0,by omega⟩,zah (by omega),zah fi]
       rfl
   obtain ⟨s2,e,hs2⟩:=go;rw [e];refine ih (i - 1) s2 (fun j=>if j=i then val n h all (ix l k) is' k v i else v j) (by omega) (by omega) (by omega) (by rw [hs2,List.length_set];exact hl) (fun j j0 j1 => ?_) (fun j ji j0 j1 => ?_)
   ·rw [hs2];by_cases ej:j=i
    ·subst ej;rw [zdD j0 (by omega),if_neg (by omega),if_pos rfl,si]
    ·rw [zfw i0 j0 (fun e=>ej e.symm),hs j j0 j1]
     by_cases c:j<=i
     ·rw [if_pos c,if_pos (by omega)]
     ·rw [if_neg c,if_neg (by omega),if_neg ej]
   ·by_cases ej:j=i
    ·subst ej;rw [if_pos rfl];exact znJ (if_neg (by omega)).symm
    ·rw [if_neg ej,hv j (by omega) j0 j1]
     exact znJ (if_neg (by omega)).symm
 exact key _ (n - 1) is' (fun _=>false) rfl (by omega) (by omega) tb.l (fun j j0 j1=>by rw [if_pos (by omega)]) (fun j a b c=>by omega)
end
def zhg (o:Option Bool) (P:Prop):Prop:=∃ b,o=some b/\(b=true↔P)
theorem zhg.of {b:Bool} {P:Prop} (h:b=true↔P):zhg (some b) P:=⟨b,rfl,h⟩
theorem zhg.dec {P Q:Prop} [Decidable P] (h:P↔Q):zhg (some (decide P)) Q:=⟨_,rfl,by simpa using h⟩
theorem zhg.iff {o:Option Bool} {P Q:Prop} (h:zhg o P) (k:P↔Q):zhg o Q:=let ⟨b,h1,h2⟩:=h;⟨b,h1,h2.trans k⟩
theorem zhg.eq {o:Option Bool} {P:Prop} [Decidable P] (h:zhg o P):o=some (decide P):=by
 obtain ⟨b,rfl,hb⟩:=h;by_cases hp:P
 ·simp [hp,hb.2 hp]
 ·have:b=false:=by cases b;rfl;exact absurd (hb.1 rfl) hp
  simp [hp,this]
theorem zhg.to {R:Type} {o:Option Bool} {P:Prop} {k1 k2 x:Option R} (h:zhg o P) (h1:P->k1=x) (h2 : ¬ P->k2=x):(o.bind fun y=>if y=true then k1 else k2)=x:=by
 obtain ⟨b,rfl,hb⟩:=h;refine zkj rfl ?_
 cases b
 ·exact h2 fun hp=>by simpa using hb.2 hp
 ·exact h1 (hb.1 rfl)
theorem zhg.bind {R:Type} {o:Option Bool} {P:Prop} {k:Bool->Option R} {x:Option R} (h:zhg o P) (h1:∀ b,(b=true↔P)->k b=x):o.bind k=x:=by
 obtain ⟨b,rfl,hb⟩:=h;exact h1 b hb
section
variable {α C:Type} [Inhabited α]
theorem ztf {l:List α} {P:α->Prop}:(∃ x∈l,P x)↔∃ i:Int,0<=i/\i < l.length/\P (ix l i):=by
 constructor
 ·rintro ⟨x,hx,hp⟩;obtain ⟨i,hi,rfl⟩:=List.mem_iff_getElem.1 hx;refine ⟨i,by omega,by omega,?_⟩
  rwa [zok (by omega) (by omega)]
 ·rintro ⟨i,h0,h1,hp⟩;exact ⟨_,zkH h0 h1,hp⟩
theorem zpu {s:List α} {f:α->Option Bool} {L:Int->Option Int} {P:α->Prop} (hs:s.length<=4611686018427387904)
  (hL:∀ t,L t=if decide (t < (s.length:Int))=true then G (0<=t/\t < (s.length:Int)) ((f (ix s t)).bind fun y=>if y=true then some t else G (fits (t+1)) (L (t+1))) else some (-1))
  (hf:∀ x∈s,zhg (f x) (P x)):∀ (n:Nat) (t:Int),0<=t->t<=s.length->(s.length - t).toNat=n->
   ∃ i,L t=some i/\((i = -1/\∀ j:Int,t<=j->j < s.length -> ¬ P (ix s j))\/(t<=i/\i < s.length/\P (ix s i)/\∀ j:Int,t<=j->j < i -> ¬ P (ix s j))):=by
 intro n
 induction n with
 | zero=>
  intro t h0 h1 hn;refine ⟨-1,?_,.inl ⟨rfl,fun j a b=>by omega⟩⟩
  rw [hL,if_neg (by simp;omega)]
 | succ n ih=>
  intro t h0 h1 hn;rw [hL,if_pos (by simp;omega),zah (by omega)]
  obtain ⟨b,hb,hbp⟩:=hf _ (zkH h0 (by omega:t < s.length))
  rw [hb]
  cases b with
  | true=>exact ⟨t,rfl,.inr ⟨by omega,by omega,hbp.1 rfl,fun j a b=>by omega⟩⟩
  | false=>
   have hnp : ¬ P (ix s t):=fun hp=>by simpa using hbp.2 hp
   obtain ⟨i,hi,hc⟩:=ih (t+1) (by omega) (by omega) (by omega)
   refine ⟨i,?_,?_⟩
   ·refine (if_neg (by simp):(if false=true then some t else G (fits (t+1)) (L (t+1)))=_).trans ?_
    rw [zah (by unfold fits;omega),hi]
   ·rcases hc with ⟨h2,h3⟩ | ⟨h2,h3,h4,h5⟩
    ·refine .inl ⟨h2,fun j a b => ?_⟩
     by_cases e:j=t
     ·rw [e];exact hnp
     ·exact h3 j (by omega) b
    ·refine .inr ⟨by omega,h3,h4,fun j a b => ?_⟩
     by_cases e:j=t
     ·rw [e];exact hnp
     ·exact h5 j (by omega) b
theorem zrl {s:List α} {f:α->Option Bool} {L:Int->Option Int} {P:α->Prop}
  (hL:∀ t,L t=if decide (t < (s.length:Int))=true then G (0<=t/\t < (s.length:Int)) ((f (ix s t)).bind fun y=>if y=true then some t else G (fits (t+1)) (L (t+1))) else some (-1))
  (hs:s.length<=4611686018427387904) (hf:∀ x∈s,zhg (f x) (P x)):zhg ((L 0).bind fun y=>some (decide ((0:Int)<=y))) (∃ x∈s,P x):=by
 obtain ⟨i,hi,hc⟩:=zpu hs hL hf _ 0 (by omega) (by omega) rfl
 rw [hi];refine ⟨decide (0<=i),rfl,?_⟩
 rw [decide_eq_true_iff,ztf];rcases hc with ⟨h2,h3⟩ | ⟨h2,h3,h4,h5⟩
 ·constructor
  ·intro h;omega
  ·rintro ⟨j,h0,h1,hp⟩;exact absurd hp (h3 j h0 h1)
 ·exact ⟨fun _=>⟨i,by omega,h3,h4⟩,fun _=>by omega⟩
theorem zp2 {s:List α} {c:C} {f:α->C->Option (Bool×C)} {L:Int->C->Option (Int×C)} {P:α->Prop}
  (hL:∀ t c,L t c=if decide (t < (s.length:Int))=true then G (0<=t/\t < (s.length:Int)) ((f (ix s t) c).bind fun y=>if y.1=true then some (t,y.2) else G (fits (t+1)) (L (t+1) y.2)) else some (-1,c))
  (hs:s.length<=4611686018427387904) (hf:∀ x∈s,∃ b,f x c=some (b,c)/\(b=true↔P x)):∃ b,((L 0 c).bind fun y=>some (decide ((0:Int)<=y.1),y.2))=some (b,c)/\(b=true↔∃ x∈s,P x):=by
 have key:∀ (n:Nat) (t:Int),0<=t->t<=s.length->(s.length - t).toNat=n->
   ∃ i,L t c=some (i,c)/\((i = -1/\∀ j:Int,t<=j->j < s.length -> ¬ P (ix s j))\/(t<=i/\i < s.length/\P (ix s i))):=by
  intro n
  induction n with
  | zero=>
   intro t h0 h1 hn;refine ⟨-1,?_,.inl ⟨rfl,fun j a b=>by omega⟩⟩
   rw [hL,if_neg (by simp;omega)]
  | succ n ih=>
   intro t h0 h1 hn;rw [hL,if_pos (by simp;omega),zah (by omega)]
   obtain ⟨b,hb,hbp⟩:=hf _ (zkH h0 (by omega:t < s.length))
   rw [hb]
   cases b with
   | true=>exact ⟨t,rfl,.inr ⟨by omega,by omega,hbp.1 rfl⟩⟩
   | false=>
    have hnp : ¬ P (ix s t):=fun hp=>by simpa using hbp.2 hp
    obtain ⟨i,hi,hc⟩:=ih (t+1) (by omega) (by omega) (by omega)
    refine ⟨i,?_,?_⟩
    ·refine (if_neg (by simp):(if false=true then some (t,c) else G (fits (t+1)) (L (t+1) c))=_).trans ?_
     rw [zah (by unfold fits;omega),hi]
    ·rcases hc with ⟨h2,h3⟩ | ⟨h2,h3,h4⟩
     ·refine .inl ⟨h2,fun j a b => ?_⟩
      by_cases e:j=t
      ·rw [e];exact hnp
      ·exact h3 j (by omega) b
     ·exact .inr ⟨by omega,h3,h4⟩
 obtain ⟨i,hi,hc⟩:=key _ 0 (by omega) (by omega) rfl
 rw [hi];refine ⟨decide (0<=i),rfl,?_⟩
 rw [decide_eq_true_iff,ztf];rcases hc with ⟨h2,h3⟩ | ⟨h2,h3,h4⟩
 ·constructor
  ·intro h;omega
  ·rintro ⟨j,h0,h1,hp⟩;exact absurd hp (h3 j h0 h1)
 ·exact ⟨fun _=>⟨i,by omega,h3,h4⟩,fun _=>by omega⟩
end
theorem scan_to {R:Type} {len:Int} {L:Int->Option R} {bad:Int->Prop} {x:Option R} {lo:Int} (h0:lo<=len)
  (hs:∀ t,lo<=t->t < len->(bad t->L t=x)/\(¬ bad t->L t=L (t+1))) (hf:(∀ t,lo<=t->t < len -> ¬ bad t)->L len=x):L lo=x:=by
 have key:∀ (n:Nat) (t:Int),lo<=t->t<=len->(len - t).toNat=n->(∀ j,lo<=j->j < t -> ¬ bad j)->L t=x:=by
  intro n
  induction n with
  | zero=>
   intro t h1 h2 hn h;obtain rfl:t=len:=by omega
   exact hf h
  | succ n ih=>
   intro t h1 h2 hn h;by_cases hb:bad t
   ·exact (hs t h1 (by omega)).1 hb
   ·rw [(hs t h1 (by omega)).2 hb]
    refine ih (t+1) (by omega) (by omega) (by omega) fun j a b => ?_
    by_cases e:j=t
    ·rw [e];exact hb
    ·exact h j a (by omega)
 exact key _ lo (Int.le_refl _) h0 rfl (fun j a b=>by omega)
theorem zqy {R S:Type} {len:Int} {L:Int->S->Option R} {f:Int->S->S} {lo:Int} {I:Int->S->Prop} {s:S} (h0:lo<=len) (hI:I lo s)
  (hs:∀ t s,lo<=t->t < len->I t s->L t s=L (t+1) (f t s)/\I (t+1) (f t s)):∃ s',I len s'/\L lo s=L len s':=by
 have key:∀ (n:Nat) (t:Int) (s:S),lo<=t->t<=len->(len - t).toNat=n->I t s->∃ s',I len s'/\L t s=L len s':=by
  intro n
  induction n with
  | zero=>
   intro t s h1 h2 hn h;obtain rfl:t=len:=by omega
   exact ⟨s,h,rfl⟩
  | succ n ih=>
   intro t s h1 h2 hn h;obtain ⟨e,h3⟩:=hs t s h1 (by omega) h
   obtain ⟨s',h4,h5⟩:=ih (t+1) _ (by omega) (by omega) (by omega) h3
   exact ⟨s',h4,e.trans h5⟩
 exact key _ lo s (Int.le_refl _) h0 rfl hI
theorem zmy {n h:Int}:∀ (t:Nat) (j:Int),j+t < n->it n h t j=j+t
 | 0,j,_=>by simp [it]
 | t+1,j,hj=>by
  have e:nxt n h j=j+1:=if_neg (by omega)
  rw [it,e,zmy t (j+1) (by omega)];omega
theorem zqH {n h:Int} (hh:0<=h/\h < n):it n h (n - h).toNat h=h:=by
 have e:(n - h).toNat=(n - 1 - h).toNat+1:=by omega
 have e2:=zmy (n:=n) (h:=h) (n - 1 - h).toNat h (by omega)
 rw [e,zlA,e2];show nxt n h _=h;exact if_pos (by omega)
theorem zrh {n h:Int} (hh:0<=h/\h < n) {A B v1 v2:Int->Bool} {A' B':Int->Prop} (hA:∀ j,0<=j->j < n->(A j=true↔A' j)) (hB:∀ j,0<=j->j < n->(B j=true↔B' j))
  (h1:∀ j,0<=j->j < n->v1 j=(B j || (A j && (if j+1=n then false else v1 (j+1))))) (h2:∀ j,0<=j->j < n->v2 j=(B j || (A j && (if j+1=n then v1 h else v2 (j+1))))):
  ∀ j,0<=j->j < n->(v2 j=true↔Un n h A' B' j):=by
 have sound:∀ (m:Nat) (j:Int),(n - j).toNat=m->0<=j->j < n->v1 j=true->Un n h A' B' j:=by
  intro m
  induction m with
  | zero=>intro j hm j0 j1;omega
  | succ m ih=>
   intro j hm j0 j1 hv;rw [h1 j j0 j1] at hv;rw [Un.step];rcases (Bool.or_eq_true _ _).mp hv with hb | hb
   ·exact .inl ((hB j j0 j1).1 hb)
   ·obtain ⟨ha,hc⟩:=(Bool.and_eq_true _ _).mp hb;by_cases e:j+1=n
    ·rw [if_pos e] at hc;cases hc
    ·rw [if_neg e] at hc;refine .inr ⟨(hA j j0 j1).1 ha,?_⟩
     rw [show nxt n h j=j+1 from if_neg e];exact ih (j+1) (by omega) (by omega) (by omega) hc
 have line:∀ (t:Nat) (j:Int),0<=j->j+t < n->B' (j+t)->(∀ s:Nat,s < t->A' (j+s))->v1 j=true:=by
  intro t
  induction t with
  | zero=>
   intro j j0 j1 hb _;rw [h1 j j0 (by omega),(hB j j0 (by omega)).2 (by simpa using hb)];rfl
  | succ t ih=>
   intro j j0 j1 hb ha;have:=ih (j+1) (by omega) (by omega) (by
    have:j+1+(t:Int)=j+((t+1:Nat):Int):=by omega
    rw [this];exact hb) (fun s hs=>by
    have:=ha (s+1) (by omega)
    have e:j+((s+1:Nat):Int)=j+1+s:=by omega
    rw [e] at this;exact this)
   rw [h1 j j0 (by omega),if_neg (by omega),this,(hA j j0 (by omega)).2 (by simpa using ha 0 (by omega))]
   simp
 have at_h:v1 h=true↔Un n h A' B' h:=by
  refine ⟨sound _ h rfl hh.1 hh.2,fun ⟨k,hk1,hk2⟩ => ?_⟩
  induction k using Nat.strongRecOn with
  | ind k ih=>
   by_cases hk:h+k < n
   ·refine line k h hh.1 hk (by have e:=zmy (n:=n) (h:=h) k h hk;rw [<- e];exact hk1) (fun s hs=>by have e:=zmy (n:=n) (h:=h) s h (by omega);rw [<- e];exact hk2 s hs)
   ·have e:k=(n - h).toNat+(k - (n - h).toNat):=by omega
    refine ih (k - (n - h).toNat) (by omega) ?_ (fun s hs => ?_)
    ·rw [e,zlA,zqH hh] at hk1;exact hk1
    ·have:=hk2 ((n - h).toNat+s) (by omega)
     rw [zlA,zqH hh] at this;exact this
 have fin:∀ (m:Nat) (j:Int),(n - j).toNat=m->0<=j->j < n->(v2 j=true↔Un n h A' B' j):=by
  intro m
  induction m with
  | zero=>intro j hm j0 j1;omega
  | succ m ih=>
   intro j hm j0 j1;rw [h2 j j0 j1,Bool.or_eq_true,Bool.and_eq_true,Un.step,hB j j0 j1,hA j j0 j1];by_cases e:j+1=n
   ·rw [if_pos e,at_h,show nxt n h j=h from if_pos e]
   ·rw [if_neg e,ih (j+1) (by omega) (by omega) (by omega),show nxt n h j=j+1 from if_neg e]
 exact fun j j0 j1=>fin _ j rfl j0 j1
section
variable {w:W3} {all:List Int} {n h:Int} {l:L3}
structure Tab (n h:Int) (all:List Int) (l:L3) (k:Int) (is':List (List Bool)):Prop where
 t:Tb n l.length is'
 s:∀ k',0<=k'->k' < k->∀ f,PS l k' f->∀ j,0<=j->j < n->(ix (ix is' j) k'=true↔Hd n h (ix all) f j)
 z:∀ k',k<=k'->k' < l.length->∀ j,0<=j->j < n->ix (ix is' j) k'=false
theorem zsC (lk:Lk w all n h) (hK:(l.length:Int)<=150) (hw:WP l) {k:Int} (k0:0<=k) (k1:k < l.length) {r16:Int->List (List Bool)->Option (Bool×Int)} {is':List (List Bool)} (tb:Tab n h all l k is'):
  ∃ is2,zbs l w all k r16 0 is'=r16 (k+1) is2/\Tab n h all l (k+1) is2:=by
 have hn:=lk.hl;have hn1:=lk.n1;have h0:=lk.h0;have h1:=lk.h1;obtain ⟨is1,v1,e1,t1,c1,f1⟩:=zo9 lk hK hw k0 k1 (r19:=zbs l w all k r16) (t2:=0) (by omega) tb.t
 obtain ⟨is2,v2,e2,t2,c2,f2⟩:=zo9 lk hK hw k0 k1 (r19:=zbs l w all k r16) (t2:=1) (by omega) t1
 have fl:fits ((all.length:Int) - 1):=zaX (by omega) (by omega)
 refine ⟨is2,?_,?_⟩
 ·rw [zdJ];unfold zbj;rw [if_pos (by decide),zah fl,hn,e1,show (0:Int)+1=1 from rfl,zdJ];unfold zbj
  rw [if_pos (by decide),zah fl,hn,e2,show (1:Int)+1=2 from rfl,zdJ];unfold zbj
  rw [if_neg (by decide),zah (zaX (by omega) (by omega))]
 have ca1:∀ j a,0<=j->j < n->0<=a->a≠k->ix (ix is1 j) a=ix (ix is' j) a:=fun j a j0 j1 a0 a1=>by rw [c1 j j0 j1,zfw k0 a0 (fun e=>a1 e.symm)]
 have ca2:∀ j a,0<=j->j < n->0<=a->a≠k->ix (ix is2 j) a=ix (ix is' j) a:=fun j a j0 j1 a0 a1=>by rw [c2 j j0 j1,zfw k0 a0 (fun e=>a1 e.symm),ca1 j a j0 j1 a0 a1]
 have ck1:∀ j,0<=j->j < n->ix (ix is1 j) k=v1 j:=fun j j0 j1=>by rw [c1 j j0 j1,zdD k0 (by have:=tb.t.r j j0 j1;omega)]
 have ck2:∀ j,0<=j->j < n->ix (ix is2 j) k=v2 j:=fun j j0 j1=>by rw [c2 j j0 j1,zdD k0 (by have:=t1.r j j0 j1;omega)]
 refine ⟨t2,fun k' q0 q1 f hf j j0 j1 => ?_,fun k' q0 q1 j j0 j1=>by rw [ca2 j k' j0 j1 (by omega) (by omega)];exact tb.z k' (by omega) q1 j j0 j1⟩
 by_cases ek:k'=k
 ·subst ek;rw [ck2 j j0 j1];have hx:=hw k' k0 k1;have sub:∀ a f,0<=a->a < k'->PS l a f->∀ j,0<=j->j < n->(ix (ix is1 j) a=true↔Hd n h (ix all) f j):=fun a f a0 a1 hf j j0 j1=>by
   rw [ca1 j a j0 j1 a0 (by omega)];exact tb.s a a0 a1 f hf j j0 j1
  have sub0:∀ a f,0<=a->a < k'->PS l a f->∀ j,0<=j->j < n->(ix (ix is' j) a=true↔Hd n h (ix all) f j):=fun a f a0 a1 hf j j0 j1=>tb.s a a0 a1 f hf j j0 j1
  have ltj:=lk.lt j j0 j1;have vj:=f2 j j0 j1;unfold val at vj;unfold WPn at hx
  cases hf with
  | zero _ _ _ hk=>
   rw [if_neg (by omega),if_neg (by omega),if_neg (by omega),if_neg (by omega),if_neg (by omega),if_neg (by omega),if_neg (by omega)] at vj
   rw [vj];exact ⟨fun e=>(by cases e),fun e=>e.elim⟩
  | p _ _ _ hk=>
   rw [if_neg (by omega),if_neg (by omega),if_pos hk] at vj
   have:=(zr1 ⟨(ix all j).toNat,by omega⟩).1
   simp only [Int.toNat_of_nonneg ltj.1] at this;rw [vj,decide_eq_true_iff];exact this
  | q _ _ _ hk=>
   rw [if_neg (by omega),if_neg (by omega),if_neg (by omega),if_pos hk] at vj
   have:=(zr1 ⟨(ix all j).toNat,by omega⟩).2
   simp only [Int.toNat_of_nonneg ltj.1] at this;rw [vj,decide_eq_true_iff];exact this
  | neg _ a _ _ hk ha=>
   rw [if_neg (by omega),if_neg (by omega),if_neg (by omega),if_neg (by omega),if_pos hk] at vj
   have:=sub _ a (by omega) (by omega) ha j j0 j1
   rw [vj];show (!_)=true ↔ ¬ Hd n h (ix all) a j;rw [<- this];simp
  | conj _ a b _ _ hk ha hb=>
   rw [if_neg (by omega),if_neg (by omega),if_neg (by omega),if_neg (by omega),if_neg (by omega),if_pos hk] at vj
   rw [vj,Bool.and_eq_true,sub _ a (by omega) (by omega) ha j j0 j1,sub _ b (by omega) (by omega) hb j j0 j1];exact Iff.rfl
  | disj _ a b _ _ hk ha hb=>
   rw [if_neg (by omega),if_neg (by omega),if_neg (by omega),if_neg (by omega),if_neg (by omega),if_neg (by omega),if_pos hk] at vj
   rw [vj,Bool.or_eq_true,sub _ a (by omega) (by omega) ha j j0 j1,sub _ b (by omega) (by omega) hb j j0 j1];exact Iff.rfl
  | nx _ a _ _ hk ha=>
   rw [if_pos hk] at vj;obtain ⟨x0,x1⟩:=zgG (n:=n) (h:=h) ⟨h0,h1⟩ ⟨j0,j1⟩;rw [vj,sub _ a (by omega) (by omega) ha _ x0 x1];exact Iff.rfl
  | til _ a b _ _ hk ha hb=>
   refine zrh (n:=n) (h:=h) ⟨h0,h1⟩ (A:=fun j=>ix (ix is' j) (ix l k').2.1) (B:=fun j=>ix (ix is' j) (ix l k').2.2.1) (v1:=v1) (v2:=v2) (fun j j0 j1=>sub0 _ a (by omega) (by omega) ha j j0 j1) (fun j j0 j1=>sub0 _ b (by omega) (by omega) hb j j0 j1) (fun j j0 j1 => ?_) (fun j j0 j1 => ?_) j j0 j1
   ·have:=f1 j j0 j1;unfold val at this;rw [if_neg (by omega),if_pos hk,tb.z k' (by omega) k1 h h0 h1] at this
    exact this
   ·have:=f2 j j0 j1;unfold val at this;rw [if_neg (by omega),if_pos hk,ck1 h h0 h1,ca1 j _ j0 j1 (by omega) (by omega),ca1 j _ j0 j1 (by omega) (by omega)] at this
    exact this
 ·rw [ca2 j k' j0 j1 q0 ek];exact tb.s k' q0 (by omega) f hf j j0 j1
theorem zpF (lk:Lk w all n h) (hK:(l.length:Int)<=150) (hl:0 < l.length) (hw:WP l) {f:Fm} (hf:PS l (l.length - 1) f):∃ b,zcg l w all=some (b,0)/\(b=true↔Hd n h (ix all) f 0):=by
 have hn:=lk.hl;have hn1:=lk.n1;have h0:=lk.h0;have h1:=lk.h1;unfold zcg;rw [zah ⟨by omega,by omega,by omega⟩]
 obtain ⟨s1,⟨i1,i2⟩,e1⟩:=zqy (len:=n) (lo:=0) (L:=fun t (s:List (List Bool))=>zb0 l w all t s) (f:=fun t s=>s.set t.toNat (List.replicate l.length false))
  (I:=fun t (s:List (List Bool))=>(s.length:Int)=n/\∀ j,0<=j->j < t->ix s j=List.replicate l.length false) (s:=List.replicate ((all.length:Int)).toNat ([]:List Bool)) (by omega) ⟨by simp;omega,fun j a b=>by omega⟩
  (fun t s t0 t1 hI=>by
   obtain ⟨q1,q2⟩:=hI;constructor
   ·show zb0 l w all t s=zb0 l w all (t+1) _
    conv=>lhs;rw [zfN];unfold zbB
    rw [if_pos (decide_eq_true (by simp;omega)),zah ⟨by omega,by omega,by omega⟩,zah ⟨t0,by omega⟩,zah (zaX (by omega) (by omega))]
    rfl
   ·refine ⟨by simp;omega,fun j j0 j1 => ?_⟩
    by_cases ej:j=t
    ·subst ej;rw [zdD j0 (by omega)]
    ·rw [zfw t0 j0 (fun e=>ej e.symm)];exact q2 j j0 (by omega))
 rw [show zb0 l w all 0 (List.replicate ((all.length:Int)).toNat ([]:List Bool))=_ from e1];rw [zfN];unfold zbB;rw [if_neg (by simp;omega)]
 have key:∀ (m:Nat) (k:Int) (s:List (List Bool)),(l.length - k).toNat=m->0<=k->k<=l.length->Tab n h all l k s->∃ b,zcW l w all k s=some (b,0)/\(b=true↔Hd n h (ix all) f 0):=by
  intro m
  induction m with
  | zero=>
   intro k s hm k0 k1 tb;have ek:k=l.length:=by omega
   subst ek;rw [zfO];unfold zbC;have t0:=tb.t.r 0 (by omega) (by omega)
   have tl:=tb.t.l;rw [if_neg (by simp),zah ⟨by omega,by omega⟩,zah (by omega),zah (zaX (by omega) (by omega)),zah ⟨by omega,by omega⟩,zah (by omega)]
   exact ⟨_,rfl,tb.s _ (by omega) (by omega) f hf 0 (by omega) (by omega)⟩
  | succ m ih=>
   intro k s hm k0 k1 tb;obtain ⟨s2,e,tb2⟩:=zsC lk hK hw k0 (by omega) (r16:=zcW l w all) tb
   rw [zfO];unfold zbC;rw [if_pos (decide_eq_true (by omega)),zah ⟨k0,by omega⟩,e]
   exact ih (k+1) s2 (by omega) (by omega) (by omega) tb2
 refine key _ 0 s1 rfl (by omega) (by omega) ⟨⟨i1,fun j j0 j1=>by rw [i2 j j0 j1];simp⟩,fun k' a b=>by omega,fun k' q0 q1 j j0 j1=>by rw [i2 j j0 j1,znl q0 q1]⟩
end
section
variable {w:W3} {all:List Int} {n h:Int} {l:L3}
structure Lr (w:W3) (all:List Int) (n h:Int):Prop where
 k:Lk w all n h
 m:(w.2.1.length:Int)=n - h
 a:all=w.1++w.2.1
theorem at_eq (lr:Lr w all n h) {i:Int} (i0:0<=i) (i1:i < n):zq2 w i=some (ix all i):=by
 have hh:=lr.k.hw;have hm:=lr.m;have h1:=lr.k.h1;have n1:=lr.k.n1;have h0:=lr.k.h0;unfold zq2;by_cases e:i < h
 ·rw [if_pos (decide_eq_true (by omega)),zah ⟨i0,by omega⟩,lr.a,zal i0 (by omega)]
 ·have et:Int.tmod (i - (w.1.length:Int)) (w.2.1.length:Int)=i - w.1.length:=by
   rw [Int.tmod_eq_emod_of_nonneg (by omega)];exact Int.emod_eq_of_lt (by omega) (by omega)
  rw [if_neg (by simp only [decide_eq_true_eq];omega),zah (zaX (by omega) (by omega)),zah (by omega),et,zah ⟨by omega,by omega⟩,lr.a,zep (by omega)]
theorem zhS (lr:Lr w all n h) {i:Int} (i0:0<=i) (i1:i < n):zef (w.1,(w.2.1,())) i=some (nxt n h i):=by
 have hh:=lr.k.hw;have hm:=lr.m;have h1:=lr.k.h1;have n1:=lr.k.n1;have h0:=lr.k.h0;have f:fits (i+1):=zaX (by omega) (by omega)
 unfold zef nxt;rw [zah f,zah (zaX (by show _<=(w.1.length:Int)+w.2.1.length;omega) (by show (w.1.length:Int)+w.2.1.length<=_;omega))]
 by_cases e:i+1=n
 ·rw [if_pos (decide_eq_true (by show i+1=(w.1.length:Int)+w.2.1.length;omega)),if_pos e]
  exact congrArg some hh
 ·rw [if_neg (by show ¬ decide (i+1=(w.1.length:Int)+w.2.1.length)=true;simp only [decide_eq_true_eq];omega),if_neg e,zah f]
structure RT (n h:Int) (all:List Int) (l:L3) (k:Int) (is':List (List Bool)):Prop where
 ln:(is'.length:Int)=k
 r:∀ k',0<=k'->k' < k->((ix is' k').length:Int)=n
 s:∀ k',0<=k'->k' < k->∀ f,RS l k' f->∀ j,0<=j->j < n->(ix (ix is' k') j=true↔Hd n h (ix all) f j)
theorem zml {n h:Int} {m:Nat} {A B:Int->Prop} {i:Int}:(∃ t:Nat,t < m+1/\B (it n h t i)/\∀ s:Nat,s < t->A (it n h s i))↔B i\/(A i/\∃ t:Nat,t < m/\B (it n h t (nxt n h i))/\∀ s:Nat,s < t->A (it n h s (nxt n h i))):=by
 constructor
 ·rintro ⟨t,ht,hb,ha⟩
  cases t with
  | zero=>exact .inl hb
  | succ t=>exact .inr ⟨ha 0 (by omega),t,by omega,hb,fun s hs=>ha (s+1) (by omega)⟩
 ·rintro (hb | ⟨ha,t,ht,hb,hc⟩)
  ·exact ⟨0,by omega,hb,fun s hs=>by omega⟩
  ·refine ⟨t+1,by omega,hb,fun s hs => ?_⟩
   cases s with
   | zero=>exact ha
   | succ s=>exact hc s (by omega)
theorem ztl (lr:Lr w all n h) {is':List (List Bool)} {k a b:Int} {u:Unit} (hx:ix l k=(70,a,b,u)) (a0:0<=a) (a1:a < is'.length) (ar:((ix is' a).length:Int)=n):
  ∀ (m:Nat) (i j:Int),(n - j).toNat=m->0<=j->j<=n->0<=i->i < n->∃ r,zcD l is' k w i j=some r/\(r=true↔∃ t:Nat,t < m/\ix (ix is' a) (it n h t i)=true/\∀ s:Nat,s < t->True):=by
 have hh:=lr.k.hw;have hm:=lr.m;have h1:=lr.k.h1;have n1:=lr.k.n1;have h0:=lr.k.h0;intro m
 induction m with
 | zero=>
  intro i j hmm j0 j1 i0 i1;rw [zbt];unfold zaO;rw [if_neg (by simp only [decide_eq_true_eq];omega),hx]
  refine ⟨false,rfl,⟨fun e=>(by cases e),fun ⟨t,ht,_⟩=>by omega⟩⟩
 | succ m ih=>
  intro i j hmm j0 j1 i0 i1;obtain ⟨x0,x1⟩:=zgG (n:=n) (h:=h) ⟨h0,h1⟩ ⟨i0,i1⟩;rw [zml (A:=fun _=>True) (B:=fun p=>ix (ix is' a) p=true)]
  rw [zbt];unfold zaO;rw [if_pos (decide_eq_true (by omega)),hx,if_pos (by rfl),zah ⟨a0,a1⟩,zah ⟨i0,by show i < ((ix is' a).length:Int);omega⟩]
  show ∃ r,(if ix (ix is' a) i=true then _ else _)=some r/\_
  by_cases e:ix (ix is' a) i=true
  ·rw [if_pos e];exact ⟨true,rfl,fun _ => .inl e,fun _=>rfl⟩
  ·rw [if_neg e,zhS lr i0 i1];show ∃ r,G _ _=some r/\_;rw [zah (zaX (by omega) (by omega))]
   obtain ⟨r,er,hr⟩:=ih (nxt n h i) (j+1) (by omega) (by omega) (by omega) x0 x1
   refine ⟨r,er,hr.trans ⟨fun hq => .inr ⟨trivial,hq⟩,fun hq=>hq.elim (fun hq=>absurd hq e) fun hq=>hq.2⟩⟩
theorem ztm (lr:Lr w all n h) {is':List (List Bool)} {k a b:Int} {u:Unit} (hx:ix l k=(71,a,b,u)) (a0:0<=a) (a1:a < is'.length) (ar:((ix is' a).length:Int)=n):
  ∀ (m:Nat) (i j:Int),(n - j).toNat=m->0<=j->j<=n->0<=i->i < n->∃ r,zcD l is' k w i j=some r/\(r=false↔∃ t:Nat,t < m/\ix (ix is' a) (it n h t i)=false/\∀ s:Nat,s < t->True):=by
 have hh:=lr.k.hw;have hm:=lr.m;have h1:=lr.k.h1;have n1:=lr.k.n1;have h0:=lr.k.h0;intro m
 induction m with
 | zero=>
  intro i j hmm j0 j1 i0 i1;rw [zbt];unfold zaO;rw [if_neg (by simp only [decide_eq_true_eq];omega),hx]
  refine ⟨true,rfl,⟨fun e=>(by cases e),fun ⟨t,ht,_⟩=>by omega⟩⟩
 | succ m ih=>
  intro i j hmm j0 j1 i0 i1;obtain ⟨x0,x1⟩:=zgG (n:=n) (h:=h) ⟨h0,h1⟩ ⟨i0,i1⟩;rw [zml (A:=fun _=>True) (B:=fun p=>ix (ix is' a) p=false)]
  rw [zbt];unfold zaO;rw [if_pos (decide_eq_true (by omega)),hx,if_neg (by exact Bool.false_ne_true),if_pos (by rfl),zah ⟨a0,a1⟩,zah ⟨i0,by show i < ((ix is' a).length:Int);omega⟩]
  show ∃ r,(if (!ix (ix is' a) i)=true then _ else _)=some r/\_
  by_cases e:ix (ix is' a) i=false
  ·rw [if_pos (by simp [e])];exact ⟨false,rfl,fun _ => .inl e,fun _=>rfl⟩
  ·rw [if_neg (by simpa using e),zhS lr i0 i1]
   show ∃ r,G _ _=some r/\_;rw [zah (zaX (by omega) (by omega))]
   obtain ⟨r,er,hr⟩:=ih (nxt n h i) (j+1) (by omega) (by omega) (by omega) x0 x1
   refine ⟨r,er,hr.trans ⟨fun hq => .inr ⟨trivial,hq⟩,fun hq=>hq.elim (fun hq=>absurd hq e) fun hq=>hq.2⟩⟩
theorem zto (lr:Lr w all n h) {is':List (List Bool)} {k a b:Int} {u:Unit} (hx:ix l k=(85,a,b,u)) (a0:0<=a) (a1:a < is'.length) (ar:((ix is' a).length:Int)=n) (b0:0<=b) (b1:b < is'.length) (br:((ix is' b).length:Int)=n):
  ∀ (m:Nat) (i j:Int),(n - j).toNat=m->0<=j->j<=n->0<=i->i < n->∃ r,zcD l is' k w i j=some r/\(r=true↔∃ t:Nat,t < m/\ix (ix is' b) (it n h t i)=true/\∀ s:Nat,s < t->ix (ix is' a) (it n h s i)=true):=by
 have hh:=lr.k.hw;have hm:=lr.m;have h1:=lr.k.h1;have n1:=lr.k.n1;have h0:=lr.k.h0;intro m
 induction m with
 | zero=>
  intro i j hmm j0 j1 i0 i1;rw [zbt];unfold zaO;rw [if_neg (by simp only [decide_eq_true_eq];omega),hx]
  refine ⟨false,rfl,⟨fun e=>(by cases e),fun ⟨t,ht,_⟩=>by omega⟩⟩
 | succ m ih=>
  intro i j hmm j0 j1 i0 i1;obtain ⟨x0,x1⟩:=zgG (n:=n) (h:=h) ⟨h0,h1⟩ ⟨i0,i1⟩;rw [zml (A:=fun p=>ix (ix is' a) p=true) (B:=fun p=>ix (ix is' b) p=true)]
  rw [zbt];unfold zaO;rw [if_pos (decide_eq_true (by omega)),hx,if_neg (by exact Bool.false_ne_true),if_neg (by exact Bool.false_ne_true),if_pos (by rfl),zah ⟨b0,b1⟩,zah ⟨i0,by show i < ((ix is' b).length:Int);omega⟩]
  show ∃ r,(if ix (ix is' b) i=true then _ else _)=some r/\_
  by_cases e:ix (ix is' b) i=true
  ·rw [if_pos e];exact ⟨true,rfl,fun _ => .inl e,fun _=>rfl⟩
  ·rw [if_neg e,zah ⟨a0,a1⟩,zah ⟨i0,by show i < ((ix is' a).length:Int);omega⟩]
   show ∃ r,(if (!ix (ix is' a) i)=true then _ else _)=some r/\_
   by_cases e2:ix (ix is' a) i=true
   ·rw [if_neg (by simp [e2]),zhS lr i0 i1]
    show ∃ r,G _ _=some r/\_;rw [zah (zaX (by omega) (by omega))]
    obtain ⟨r,er,hr⟩:=ih (nxt n h i) (j+1) (by omega) (by omega) (by omega) x0 x1
    refine ⟨r,er,hr.trans ⟨fun hq => .inr ⟨e2,hq⟩,fun hq=>hq.elim (fun hq=>absurd hq e) fun hq=>hq.2⟩⟩
   ·rw [if_pos (by simpa using e2)]
    exact ⟨false,rfl,fun e3=>(by cases e3),fun hq=>hq.elim (fun hq=>absurd hq e) fun hq=>absurd hq.1 e2⟩
theorem ztn (lr:Lr w all n h) {is':List (List Bool)} {k a b:Int} {u:Unit} (hx:ix l k=(82,a,b,u)) (a0:0<=a) (a1:a < is'.length) (ar:((ix is' a).length:Int)=n) (b0:0<=b) (b1:b < is'.length) (br:((ix is' b).length:Int)=n):
  ∀ (m:Nat) (i j:Int),(n - j).toNat=m->0<=j->j<=n->0<=i->i < n->∃ r,zcD l is' k w i j=some r/\(r=false↔∃ t:Nat,t < m/\ix (ix is' b) (it n h t i)=false/\∀ s:Nat,s < t->ix (ix is' a) (it n h s i)=false):=by
 have hh:=lr.k.hw;have hm:=lr.m;have h1:=lr.k.h1;have n1:=lr.k.n1;have h0:=lr.k.h0;intro m
 induction m with
 | zero=>
  intro i j hmm j0 j1 i0 i1;rw [zbt];unfold zaO;rw [if_neg (by simp only [decide_eq_true_eq];omega),hx]
  refine ⟨true,rfl,⟨fun e=>(by cases e),fun ⟨t,ht,_⟩=>by omega⟩⟩
 | succ m ih=>
  intro i j hmm j0 j1 i0 i1;obtain ⟨x0,x1⟩:=zgG (n:=n) (h:=h) ⟨h0,h1⟩ ⟨i0,i1⟩;rw [zml (A:=fun p=>ix (ix is' a) p=false) (B:=fun p=>ix (ix is' b) p=false)]
  rw [zbt];unfold zaO;rw [if_pos (decide_eq_true (by omega)),hx,if_neg (by exact Bool.false_ne_true),if_neg (by exact Bool.false_ne_true),if_neg (by exact Bool.false_ne_true),if_pos (by rfl),zah ⟨b0,b1⟩,zah ⟨i0,by show i < ((ix is' b).length:Int);omega⟩]
  show ∃ r,(if (!ix (ix is' b) i)=true then _ else _)=some r/\_
  by_cases e:ix (ix is' b) i=false
  ·rw [if_pos (by simp [e])];exact ⟨false,rfl,fun _ => .inl e,fun _=>rfl⟩
  ·rw [if_neg (by simpa using e),zah ⟨a0,a1⟩,zah ⟨i0,by show i < ((ix is' a).length:Int);omega⟩]
   show ∃ r,(if ix (ix is' a) i=true then _ else _)=some r/\_
   by_cases e2:ix (ix is' a) i=true
   ·rw [if_pos e2];exact ⟨true,rfl,fun e3=>(by cases e3),fun hq=>hq.elim (fun hq=>absurd hq e) fun hq=>by rw [e2] at hq;cases hq.1⟩
   ·rw [if_neg e2,zhS lr i0 i1];show ∃ r,G _ _=some r/\_;rw [zah (zaX (by omega) (by omega))]
    obtain ⟨r,er,hr⟩:=ih (nxt n h i) (j+1) (by omega) (by omega) (by omega) x0 x1
    refine ⟨r,er,hr.trans ⟨fun hq => .inr ⟨by simpa using e2,hq⟩,fun hq=>hq.elim (fun hq=>absurd hq e) fun hq=>hq.2⟩⟩
theorem bf {b:Bool} {P:Prop} (h:b=true↔P):b=false ↔ ¬ P:=by rw [<- h];simp
theorem zrQ (lr:Lr w all n h) (hw:WR l) {k:Int} (k0:0<=k) (k1:k < l.length) {is':List (List Bool)} (rt:RT n h all l k is') {i:Int} (i0:0<=i) (i1:i < n):
  ∃ r,zit l is' k i (w.1,(w.2.1,()))=some r/\∀ f,RS l k f->(r=true↔Hd n h (ix all) f i):=by
 have hh:=lr.k.hw;have hm:=lr.m;have h1:=lr.k.h1;have n1:=lr.k.n1;have h0:=lr.k.h0;have hr:0<=h/\h < n:=⟨h0,h1⟩;obtain ⟨x0,x1⟩:=zgG hr ⟨i0,i1⟩;have hk:=hw k k0 k1;have hl:=rt.ln;have el:(n - 0).toNat=n.toNat:=by omega
 unfold zit;rw [zah ⟨k0,k1⟩,show zq2 (w.1,(w.2.1,())) i=some (ix all i) from at_eq lr i0 i1];show ∃ r,G _ _=some r/\_;rw [zah (zaX (by show _<=(w.1.length:Int)+w.2.1.length;omega) (by show (w.1.length:Int)+w.2.1.length<=_;omega))]
 generalize hx:ix l k=x at hk;obtain ⟨kd,a,b,u⟩:=x;have inv:∀ f,RS l k f->(kd=48/\f = .zero)\/(kd=49/\f = .one)\/(kd=112/\f = .p)\/(kd=113/\f = .q)\/(∃ g,RS l a g/\((kd=33/\f = .neg g)\/(kd=88/\f = .nx g)\/(kd=70/\f = .fin g)\/(kd=71/\f = .glob g)))\/(∃ g g',RS l a g/\RS l b g'/\((kd=38/\f = .conj g g')\/(kd=124/\f = .disj g g')\/(kd=85/\f = .til g g')\/(kd=82/\f = .rel g g'))):=by
  intro f hf
  cases hf with
  | zero _ _ _ hk=>rw [hx] at hk;exact .inl ⟨hk,rfl⟩
  | one _ _ _ hk=>rw [hx] at hk;exact .inr (.inl ⟨hk,rfl⟩)
  | p _ _ _ hk=>rw [hx] at hk;exact .inr (.inr (.inl ⟨hk,rfl⟩))
  | q _ _ _ hk=>rw [hx] at hk;exact .inr (.inr (.inr (.inl ⟨hk,rfl⟩)))
  | neg _ g _ _ hk hg=>rw [hx] at hk hg;exact .inr (.inr (.inr (.inr (.inl ⟨g,hg,.inl ⟨hk,rfl⟩⟩))))
  | nx _ g _ _ hk hg=>rw [hx] at hk hg;exact .inr (.inr (.inr (.inr (.inl ⟨g,hg,.inr (.inl ⟨hk,rfl⟩)⟩))))
  | fin _ g _ _ hk hg=>rw [hx] at hk hg;exact .inr (.inr (.inr (.inr (.inl ⟨g,hg,.inr (.inr (.inl ⟨hk,rfl⟩))⟩))))
  | glob _ g _ _ hk hg=>rw [hx] at hk hg;exact .inr (.inr (.inr (.inr (.inl ⟨g,hg,.inr (.inr (.inr ⟨hk,rfl⟩))⟩))))
  | conj _ g g' _ _ hk hg hg'=>rw [hx] at hk hg hg';exact .inr (.inr (.inr (.inr (.inr ⟨g,g',hg,hg',.inl ⟨hk,rfl⟩⟩))))
  | disj _ g g' _ _ hk hg hg'=>rw [hx] at hk hg hg';exact .inr (.inr (.inr (.inr (.inr ⟨g,g',hg,hg',.inr (.inl ⟨hk,rfl⟩)⟩))))
  | til _ g g' _ _ hk hg hg'=>rw [hx] at hk hg hg';exact .inr (.inr (.inr (.inr (.inr ⟨g,g',hg,hg',.inr (.inr (.inl ⟨hk,rfl⟩))⟩))))
  | rel _ g g' _ _ hk hg hg'=>rw [hx] at hk hg hg';exact .inr (.inr (.inr (.inr (.inr ⟨g,g',hg,hg',.inr (.inr (.inr ⟨hk,rfl⟩))⟩))))
 have ff:∀ {c:Int},c≠kd -> ¬ decide ((kd,a,b,u).1=c)=true:=fun {c} hc=>by simp only [decide_eq_true_eq];exact fun e=>hc e.symm
 have tt:∀ {c:Int},c=kd->decide ((kd,a,b,u).1=c)=true:=fun {c} hc=>by simp only [decide_eq_true_eq];exact hc.symm
 have hk:kd=48\/kd=49\/kd=112\/kd=113\/((kd=33\/kd=88\/kd=70\/kd=71)/\0<=a/\a < k)\/((kd=38\/kd=124\/kd=85\/kd=82)/\(0<=a/\a < k)/\0<=b/\b < k):=hk;rcases hk with hk | hk | hk | hk | ⟨hk,a0,a1⟩ | ⟨hk,⟨a0,a1⟩,b0,b1⟩
 ·rw [if_neg (ff (by omega)),if_neg (ff (by omega)),if_neg (ff (by omega)),if_neg (ff (by omega)),if_neg (ff (by omega)),if_neg (ff (by omega)),if_neg (ff (by omega)),if_pos (tt (by omega))]
  refine ⟨false,rfl,fun f hf => ?_⟩
  rcases inv f hf with ⟨_,rfl⟩ | ⟨e,_⟩ | ⟨e,_⟩ | ⟨e,_⟩ | ⟨g,_,⟨e,_⟩ | ⟨e,_⟩ | ⟨e,_⟩ | ⟨e,_⟩⟩ | ⟨g,g',_,_,⟨e,_⟩ | ⟨e,_⟩ | ⟨e,_⟩ | ⟨e,_⟩⟩
  ·exact ⟨fun e=>(by cases e),fun e=>e.elim⟩
  all_goals omega
 ·rw [if_pos (tt (by omega))]
  refine ⟨true,rfl,fun f hf => ?_⟩
  rcases inv f hf with ⟨e,_⟩ | ⟨_,rfl⟩ | ⟨e,_⟩ | ⟨e,_⟩ | ⟨g,_,⟨e,_⟩ | ⟨e,_⟩ | ⟨e,_⟩ | ⟨e,_⟩⟩ | ⟨g,g',_,_,⟨e,_⟩ | ⟨e,_⟩ | ⟨e,_⟩ | ⟨e,_⟩⟩
  ·omega
  ·exact ⟨fun _=>trivial,fun _=>rfl⟩
  all_goals omega
 ·rw [if_neg (ff (by omega)),if_pos (tt (by omega))]
  have e:∃ r,(if decide (ix all i=1)=true then some true else some (decide (ix all i=3)))=some r/\(r=true↔ix all i=1\/ix all i=3):=by
   by_cases c:ix all i=1
   ·exact ⟨true,if_pos (decide_eq_true c),by simp [c]⟩
   ·exact ⟨decide (ix all i=3),if_neg (by simpa using c),by simp [c]⟩
  obtain ⟨r,er,hr'⟩:=e;refine ⟨r,er,fun f hf => ?_⟩
  rcases inv f hf with ⟨e,_⟩ | ⟨e,_⟩ | ⟨_,rfl⟩ | ⟨e,_⟩ | ⟨g,_,⟨e,_⟩ | ⟨e,_⟩ | ⟨e,_⟩ | ⟨e,_⟩⟩ | ⟨g,g',_,_,⟨e,_⟩ | ⟨e,_⟩ | ⟨e,_⟩ | ⟨e,_⟩⟩
  ·omega
  ·omega
  ·exact hr'
  all_goals omega
 ·rw [if_neg (ff (by omega)),if_neg (ff (by omega)),if_pos (tt (by omega))]
  have e:∃ r,(if decide (ix all i=2)=true then some true else some (decide (ix all i=3)))=some r/\(r=true↔ix all i=2\/ix all i=3):=by
   by_cases c:ix all i=2
   ·exact ⟨true,if_pos (decide_eq_true c),by simp [c]⟩
   ·exact ⟨decide (ix all i=3),if_neg (by simpa using c),by simp [c]⟩
  obtain ⟨r,er,hr'⟩:=e;refine ⟨r,er,fun f hf => ?_⟩
  rcases inv f hf with ⟨e,_⟩ | ⟨e,_⟩ | ⟨e,_⟩ | ⟨_,rfl⟩ | ⟨g,_,⟨e,_⟩ | ⟨e,_⟩ | ⟨e,_⟩ | ⟨e,_⟩⟩ | ⟨g,g',_,_,⟨e,_⟩ | ⟨e,_⟩ | ⟨e,_⟩ | ⟨e,_⟩⟩
  ·omega
  ·omega
  ·omega
  ·exact hr'
  all_goals omega
 ·have ar:=rt.r a a0 a1;have la:a < (is'.length:Int):=by omega
  have fa:∀ g,RS l a g->∀ j,0<=j->j < n->(ix (ix is' a) j=true↔Hd n h (ix all) g j):=fun g hg=>rt.s a a0 a1 g hg
  have G1:0<=(kd,a,b,u).2.1/\(kd,a,b,u).2.1 < (is'.length:Int):=⟨a0,la⟩;rcases hk with hk | hk | hk | hk
  ·rw [if_neg (ff (by omega)),if_neg (ff (by omega)),if_neg (ff (by omega)),if_pos (tt (by omega)),zah G1,zah ⟨i0,by show i < ((ix is' a).length:Int);omega⟩]
   refine ⟨!ix (ix is' a) i,rfl,fun f hf => ?_⟩
   rcases inv f hf with ⟨e,_⟩ | ⟨e,_⟩ | ⟨e,_⟩ | ⟨e,_⟩ | ⟨g,hg,⟨e,rfl⟩ | ⟨e,_⟩ | ⟨e,_⟩ | ⟨e,_⟩⟩ | ⟨g,g',_,_,⟨e,_⟩ | ⟨e,_⟩ | ⟨e,_⟩ | ⟨e,_⟩⟩
   ·omega
   ·omega
   ·omega
   ·omega
   ·show (!_)=true ↔ ¬ Hd n h (ix all) g i;rw [<- fa g hg i i0 i1];simp
   all_goals omega
  ·rw [if_neg (ff (by omega)),if_neg (ff (by omega)),if_neg (ff (by omega)),if_neg (ff (by omega)),if_neg (ff (by omega)),if_neg (ff (by omega)),if_pos (tt (by omega)),zah G1,zhS lr i0 i1]
   show ∃ r,G _ _=some r/\_;rw [zah ⟨x0,by show nxt n h i < ((ix is' a).length:Int);omega⟩]
   refine ⟨ix (ix is' a) (nxt n h i),rfl,fun f hf => ?_⟩
   rcases inv f hf with ⟨e,_⟩ | ⟨e,_⟩ | ⟨e,_⟩ | ⟨e,_⟩ | ⟨g,hg,⟨e,_⟩ | ⟨e,rfl⟩ | ⟨e,_⟩ | ⟨e,_⟩⟩ | ⟨g,g',_,_,⟨e,_⟩ | ⟨e,_⟩ | ⟨e,_⟩ | ⟨e,_⟩⟩
   ·omega
   ·omega
   ·omega
   ·omega
   ·omega
   ·exact fa g hg _ x0 x1
   all_goals omega
  ·rw [if_neg (ff (by omega)),if_neg (ff (by omega)),if_neg (ff (by omega)),if_neg (ff (by omega)),if_neg (ff (by omega)),if_neg (ff (by omega)),if_neg (ff (by omega)),if_neg (ff (by omega))]
   subst hk;obtain ⟨r,er,hr'⟩:=ztl lr (l:=l) hx a0 la ar _ i 0 rfl (by omega) (by omega) i0 i1
   refine ⟨r,er,fun f hf => ?_⟩
   rcases inv f hf with ⟨e,_⟩ | ⟨e,_⟩ | ⟨e,_⟩ | ⟨e,_⟩ | ⟨g,hg,⟨e,_⟩ | ⟨e,_⟩ | ⟨e,rfl⟩ | ⟨e,_⟩⟩ | ⟨g,g',_,_,⟨e,_⟩ | ⟨e,_⟩ | ⟨e,_⟩ | ⟨e,_⟩⟩
   ·omega
   ·omega
   ·omega
   ·omega
   ·omega
   ·omega
   ·rw [hr'];constructor
    ·rintro ⟨t,_,ht,_⟩;obtain ⟨p0,p1⟩:=zeT hr t ⟨i0,i1⟩;exact ⟨t,(fa g hg _ p0 p1).1 ht⟩
    ·rintro ⟨t,ht⟩;obtain ⟨t',q1,q2,q3⟩:=Un.bound hr (A:=fun _=>True) (B:=Hd n h (ix all) g) ⟨i0,i1⟩ ⟨t,ht,fun _ _=>trivial⟩
     obtain ⟨p0,p1⟩:=zeT hr t' ⟨i0,i1⟩;exact ⟨t',by omega,(fa g hg _ p0 p1).2 q2,fun _ _=>trivial⟩
   all_goals omega
  ·rw [if_neg (ff (by omega)),if_neg (ff (by omega)),if_neg (ff (by omega)),if_neg (ff (by omega)),if_neg (ff (by omega)),if_neg (ff (by omega)),if_neg (ff (by omega)),if_neg (ff (by omega))]
   subst hk;obtain ⟨r,er,hr'⟩:=ztm lr (l:=l) hx a0 la ar _ i 0 rfl (by omega) (by omega) i0 i1
   refine ⟨r,er,fun f hf => ?_⟩
   rcases inv f hf with ⟨e,_⟩ | ⟨e,_⟩ | ⟨e,_⟩ | ⟨e,_⟩ | ⟨g,hg,⟨e,_⟩ | ⟨e,_⟩ | ⟨e,_⟩ | ⟨e,rfl⟩⟩ | ⟨g,g',_,_,⟨e,_⟩ | ⟨e,_⟩ | ⟨e,_⟩ | ⟨e,_⟩⟩
   ·omega
   ·omega
   ·omega
   ·omega
   ·omega
   ·omega
   ·omega
   ·have hq:r=false ↔ ¬ Hd n h (ix all) (.glob g) i:=by
     rw [hr'];constructor
     ·rintro ⟨t,_,ht,_⟩ hall;obtain ⟨p0,p1⟩:=zeT hr t ⟨i0,i1⟩;exact (bf (fa g hg _ p0 p1)).1 ht (hall t)
     ·intro hno;have:∃ t:Nat,¬ Hd n h (ix all) g (it n h t i):=Classical.byContradiction fun hc=>hno fun t=>Classical.byContradiction fun hq=>hc ⟨t,hq⟩
      obtain ⟨t,ht⟩:=this;obtain ⟨t',q1,q2,q3⟩:=Un.bound hr (A:=fun _=>True) (B:=fun p => ¬ Hd n h (ix all) g p) ⟨i0,i1⟩ ⟨t,ht,fun _ _=>trivial⟩
      obtain ⟨p0,p1⟩:=zeT hr t' ⟨i0,i1⟩;exact ⟨t',by omega,(bf (fa g hg _ p0 p1)).2 q2,fun _ _=>trivial⟩
    cases r with
    | true=>exact ⟨fun _=>Classical.byContradiction fun hc=>(by have:=hq.2 hc;cases this),fun _=>rfl⟩
    | false=>exact ⟨fun e=>(by cases e),fun e=>absurd e (hq.1 rfl)⟩
   all_goals omega
 ·have ar:=rt.r a a0 a1;have br:=rt.r b b0 b1;have la:a < (is'.length:Int):=by omega
  have lb:b < (is'.length:Int):=by omega
  have fa:∀ g,RS l a g->∀ j,0<=j->j < n->(ix (ix is' a) j=true↔Hd n h (ix all) g j):=fun g hg=>rt.s a a0 a1 g hg
  have fb:∀ g,RS l b g->∀ j,0<=j->j < n->(ix (ix is' b) j=true↔Hd n h (ix all) g j):=fun g hg=>rt.s b b0 b1 g hg
  have G1:0<=(kd,a,b,u).2.1/\(kd,a,b,u).2.1 < (is'.length:Int):=⟨a0,la⟩;have G2:0<=(kd,a,b,u).2.2.1/\(kd,a,b,u).2.2.1 < (is'.length:Int):=⟨b0,lb⟩;rcases hk with hk | hk | hk | hk
  ·rw [if_neg (ff (by omega)),if_neg (ff (by omega)),if_neg (ff (by omega)),if_neg (ff (by omega)),if_pos (tt (by omega)),zah G1,zah ⟨i0,by show i < ((ix is' a).length:Int);omega⟩]
   refine ⟨ix (ix is' a) i && ix (ix is' b) i,?_,fun f hf => ?_⟩
   ·show (if ix (ix is' a) i=true then _ else _)=_
    cases ix (ix is' a) i
    ·rfl
    ·rw [if_pos rfl,zah G2,zah ⟨i0,by show i < ((ix is' b).length:Int);omega⟩];rfl
   rcases inv f hf with ⟨e,_⟩ | ⟨e,_⟩ | ⟨e,_⟩ | ⟨e,_⟩ | ⟨g,hg,⟨e,_⟩ | ⟨e,_⟩ | ⟨e,_⟩ | ⟨e,_⟩⟩ | ⟨g,g',hg,hg',⟨e,rfl⟩ | ⟨e,_⟩ | ⟨e,_⟩ | ⟨e,_⟩⟩
   all_goals first | omega | skip
   rw [Bool.and_eq_true,fa g hg i i0 i1,fb g' hg' i i0 i1];exact Iff.rfl
  ·rw [if_neg (ff (by omega)),if_neg (ff (by omega)),if_neg (ff (by omega)),if_neg (ff (by omega)),if_neg (ff (by omega)),if_pos (tt (by omega)),zah G1,zah ⟨i0,by show i < ((ix is' a).length:Int);omega⟩]
   refine ⟨ix (ix is' a) i || ix (ix is' b) i,?_,fun f hf => ?_⟩
   ·show (if ix (ix is' a) i=true then _ else _)=_
    cases ix (ix is' a) i
    ·rw [if_neg (by simp),zah G2,zah ⟨i0,by show i < ((ix is' b).length:Int);omega⟩];rfl
    ·rfl
   rcases inv f hf with ⟨e,_⟩ | ⟨e,_⟩ | ⟨e,_⟩ | ⟨e,_⟩ | ⟨g,hg,⟨e,_⟩ | ⟨e,_⟩ | ⟨e,_⟩ | ⟨e,_⟩⟩ | ⟨g,g',hg,hg',⟨e,_⟩ | ⟨e,rfl⟩ | ⟨e,_⟩ | ⟨e,_⟩⟩
   all_goals first | omega | skip
   rw [Bool.or_eq_true,fa g hg i i0 i1,fb g' hg' i i0 i1];exact Iff.rfl
  ·rw [if_neg (ff (by omega)),if_neg (ff (by omega)),if_neg (ff (by omega)),if_neg (ff (by omega)),if_neg (ff (by omega)),if_neg (ff (by omega)),if_neg (ff (by omega)),if_neg (ff (by omega))]
   subst hk;obtain ⟨r,er,hr'⟩:=zto lr (l:=l) hx a0 la ar b0 lb br _ i 0 rfl (by omega) (by omega) i0 i1
   refine ⟨r,er,fun f hf => ?_⟩
   rcases inv f hf with ⟨e,_⟩ | ⟨e,_⟩ | ⟨e,_⟩ | ⟨e,_⟩ | ⟨g,hg,⟨e,_⟩ | ⟨e,_⟩ | ⟨e,_⟩ | ⟨e,_⟩⟩ | ⟨g,g',hg,hg',⟨e,_⟩ | ⟨e,_⟩ | ⟨e,rfl⟩ | ⟨e,_⟩⟩
   all_goals first | omega | skip
   rw [hr'];constructor
   ·rintro ⟨t,_,ht,hs⟩;obtain ⟨p0,p1⟩:=zeT hr t ⟨i0,i1⟩;exact ⟨t,(fb g' hg' _ p0 p1).1 ht,fun s hs'=>by obtain ⟨p0,p1⟩:=zeT hr s ⟨i0,i1⟩;exact (fa g hg _ p0 p1).1 (hs s hs')⟩
   ·intro hu;obtain ⟨t',q1,q2,q3⟩:=Un.bound hr ⟨i0,i1⟩ hu;obtain ⟨p0,p1⟩:=zeT hr t' ⟨i0,i1⟩;exact ⟨t',by omega,(fb g' hg' _ p0 p1).2 q2,fun s hs'=>by obtain ⟨p0,p1⟩:=zeT hr s ⟨i0,i1⟩;exact (fa g hg _ p0 p1).2 (q3 s hs')⟩
  ·rw [if_neg (ff (by omega)),if_neg (ff (by omega)),if_neg (ff (by omega)),if_neg (ff (by omega)),if_neg (ff (by omega)),if_neg (ff (by omega)),if_neg (ff (by omega)),if_neg (ff (by omega))]
   subst hk;obtain ⟨r,er,hr'⟩:=ztn lr (l:=l) hx a0 la ar b0 lb br _ i 0 rfl (by omega) (by omega) i0 i1
   refine ⟨r,er,fun f hf => ?_⟩
   rcases inv f hf with ⟨e,_⟩ | ⟨e,_⟩ | ⟨e,_⟩ | ⟨e,_⟩ | ⟨g,hg,⟨e,_⟩ | ⟨e,_⟩ | ⟨e,_⟩ | ⟨e,_⟩⟩ | ⟨g,g',hg,hg',⟨e,_⟩ | ⟨e,_⟩ | ⟨e,_⟩ | ⟨e,rfl⟩⟩
   all_goals first | omega | skip
   have hq:r=false ↔ ¬ Hd n h (ix all) (.rel g g') i:=by
    rw [hr'];constructor
    ·rintro ⟨t,_,ht,hs⟩ hall;obtain ⟨p0,p1⟩:=zeT hr t ⟨i0,i1⟩;rcases hall t with h2 | ⟨s,hs',h2⟩
     ·exact (bf (fb g' hg' _ p0 p1)).1 ht h2
     ·obtain ⟨p0,p1⟩:=zeT hr s ⟨i0,i1⟩;exact (bf (fa g hg _ p0 p1)).1 (hs s hs') h2
    ·intro hno;have:Un n h (fun p => ¬ Hd n h (ix all) g p) (fun p => ¬ Hd n h (ix all) g' p) i:=Classical.byContradiction fun hc=>hno fun t=>Classical.byContradiction fun hq=>hc ⟨t,fun h2=>hq (.inl h2),fun s hs h2=>hq (.inr ⟨s,hs,h2⟩)⟩
     obtain ⟨t',q1,q2,q3⟩:=Un.bound hr ⟨i0,i1⟩ this;obtain ⟨p0,p1⟩:=zeT hr t' ⟨i0,i1⟩;exact ⟨t',by omega,(bf (fb g' hg' _ p0 p1)).2 q2,fun s hs'=>by obtain ⟨p0,p1⟩:=zeT hr s ⟨i0,i1⟩;exact (bf (fa g hg _ p0 p1)).2 (q3 s hs')⟩
   cases r with
   | true=>exact ⟨fun _=>Classical.byContradiction fun hc=>(by have:=hq.2 hc;cases this),fun _=>rfl⟩
   | false=>exact ⟨fun e=>(by cases e),fun e=>absurd e (hq.1 rfl)⟩
theorem zq7 (lr:Lr w all n h) (hl:(l.length:Int)<=30) (hw:WR l) {root:Int} {f:Fm} (hf:RS l root f):∃ b,zkb l root (w.1,(w.2.1,()))=some b/\(b=true↔Hd n h (ix all) f 0):=by
 have hh:=lr.k.hw;have hm:=lr.m;have h1:=lr.k.h1;have n1:=lr.k.n1;have h0:=lr.k.h0;obtain ⟨q0,q1⟩:=hf.rng;have eN:(w.1.length:Int)+(w.2.1.length:Int)=n:=by omega
 unfold zkb;rw [zah (zaX (by show _<=(w.1.length:Int)+w.2.1.length;omega) (by show (w.1.length:Int)+w.2.1.length<=_;omega))]
 have key:∀ (m:Nat) (k:Int) (s:List (List Bool)),(l.length - k).toNat=m->0<=k->k<=l.length->RT n h all l k s->∃ b,zcB l root w k s=some b/\(b=true↔Hd n h (ix all) f 0):=by
  intro m
  induction m with
  | zero=>
   intro k s hmm k0 k1 rt;have ek:k=l.length:=by omega
   have sl:=rt.ln;have sr:=rt.r root q0 (by omega)
   rw [zhp];unfold zcc;rw [if_neg (by simp only [decide_eq_true_eq];omega),zah ⟨q0,by omega⟩,zah (by omega),zah ⟨by omega,by omega⟩]
   exact ⟨_,rfl,rt.s root q0 (by omega) f hf 0 (by omega) (by omega)⟩
  | succ m ih=>
   intro k s hmm k0 k1 rt;have sl:=rt.ln;have ex:∀ i,∃ b:Bool,0<=i->i < n->zit l s k i (w.1,(w.2.1,()))=some b/\∀ f,RS l k f->(b=true↔Hd n h (ix all) f i):=fun i=>by
    by_cases c:0<=i/\i < n
    ·obtain ⟨b,e⟩:=zrQ lr hw k0 (by omega) rt c.1 c.2
     exact ⟨b,fun _ _=>e⟩
    ·exact ⟨false,fun c0 c1=>absurd ⟨c0,c1⟩ c⟩
   obtain ⟨v,hv⟩:=Classical.axiomOfChoice ex;rw [zhp];unfold zcc;rw [if_pos (decide_eq_true (by omega)),eN,zah ⟨by omega,by omega,by omega⟩]
   obtain ⟨own,⟨o1,o2⟩,e1⟩:=zqy (len:=n) (lo:=0) (L:=fun t (s':List Bool)=>zbZ l w k s (zcB l root w) t s') (f:=fun t s'=>s'.set t.toNat (v t))
    (I:=fun t (s':List Bool)=>(s'.length:Int)=n/\∀ j,0<=j->j < t->ix s' j=v j) (s:=List.replicate n.toNat false) (by omega) ⟨by simp;omega,fun j a b=>by omega⟩
    (fun t s' t0 t1 hI=>by
     obtain ⟨q1,q2⟩:=hI;constructor
     ·show zbZ l w k s (zcB l root w) t s'=zbZ l w k s (zcB l root w) (t+1) _
      conv=>lhs;rw [zhq];unfold zcd
      rw [if_pos (decide_eq_true (by omega)),(hv t t0 t1).1]
      show G _ _=_;rw [zah ⟨t0,by omega⟩,zah (by omega),zah (zaX (by omega) (by omega))]
     ·refine ⟨by simp;omega,fun j j0 j1 => ?_⟩
      by_cases ej:j=t
      ·subst ej;rw [zdD j0 (by omega)]
      ·rw [zfw t0 j0 (fun e=>ej e.symm)];exact q2 j j0 (by omega))
   rw [show zbZ l w k s (zcB l root w) 0 (List.replicate n.toNat false)=_ from e1];rw [zhq];unfold zcd;rw [if_neg (by simp only [decide_eq_true_eq];omega),zah (zk1 (by simp only [List.length_singleton];omega)),zah (zaX (by omega) (by omega))]
   refine ih (k+1) (s++[own]) (by omega) (by omega) (by omega) ⟨by simp;omega,fun k' p0 p1 => ?_,fun k' p0 p1 g hg j j0 j1 => ?_⟩
   ·by_cases e:k' < k
    ·rw [zal p0 (by omega)];exact rt.r k' p0 e
    ·have:k'=s.length:=by omega
     rw [this,zao];exact o1
   ·by_cases e:k' < k
    ·rw [zal p0 (by omega)];exact rt.s k' p0 e g hg j j0 j1
    ·have e1:k'=k:=by omega
     subst e1;have:k'=s.length:=by omega
     rw [show ix (s++[own]) k'=own by rw [this,zao],o2 j j0 j1]
     exact (hv j j0 j1).2 g hg
 exact key _ 0 [] rfl (by omega) (by omega) ⟨rfl,fun k' a b=>by omega,fun k' a b=>by omega⟩
end
theorem zjY {letters:Int} {w:List Int} (hL:1<=letters/\letters<=4) (hw:w.length<=(60:Int)):∀ (n:Nat) (i:Int),0<=i->i<=w.length->(w.length - i).toNat=n->(∀ j:Int,0<=j->j < i->0<=ix w j/\ix w j < letters)->zgc letters w i=some (mayE letters w):=by
 intro n
 induction n with
 | zero=>
  intro i h0 h1 hn h;rw [zhC];unfold zck
  (try dsimp only);(repeat' first | (with_reducible refine G_to ?_ ?_;focus (first | omega | (unfold fits;omega) | (unfold room;(try simp only [List.length_append,List.length_cons,List.length_nil]);omega))) | (with_reducible refine ziH ?_ ?_) | (with_reducible refine ziT ?_) | (with_reducible refine ziS ?_) | (with_reducible refine zlB (fun _ => ?_) (fun _ => ?_)))<;>try (exfalso;omega)
  ·rw [zqP hL hw (fun j a b=>h j a (by omega))]
 | succ n ih=>
  intro i h0 h1 hn h;rw [zhC];unfold zck
  (try dsimp only);(repeat' first | (with_reducible refine G_to ?_ ?_;focus (first | omega | (unfold fits;omega) | (unfold room;(try simp only [List.length_append,List.length_cons,List.length_nil]);omega))) | (with_reducible refine ziH ?_ ?_) | (with_reducible refine ziT ?_) | (with_reducible refine ziS ?_) | (with_reducible refine zlB (fun _ => ?_) (fun _ => ?_)))<;>try (exfalso;omega)
  ·rw [zj8 hL hw (i:=i) (by omega) (by omega)]
  ·rw [zj8 hL hw (i:=i) (by omega) (by omega)]
  ·exact ih _ (by omega) (by omega) (by omega) (zls h (by omega))
theorem ziD {letters:Int} {w:List Int}:zkd letters w=some (mayE letters w):=by
 unfold zkd
 (try dsimp only);(repeat' first | (with_reducible refine G_to ?_ ?_;focus (first | omega | (unfold fits;omega) | (unfold room;(try simp only [List.length_append,List.length_cons,List.length_nil]);omega))) | (with_reducible refine ziH ?_ ?_) | (with_reducible refine ziT ?_) | (with_reducible refine ziS ?_) | (with_reducible refine zlB (fun _ => ?_) (fun _ => ?_)))<;>try (exfalso;omega)
 ·rw [zhb (by omega)]
 ·rw [zhb (by omega)]
 ·rw [znp (by omega) (by omega)]
 ·exact zjY (by omega) (by omega) _ 0 (by omega) (by omega) rfl (fun j a b=>by omega)
theorem zlk {letters:Int} {w:List Int} (hL:1<=letters/\letters<=4) (hw:w.length<=(60:Int)):∀ (n:Nat) (i:Int),0<=i->i<=w.length->(w.length - i).toNat=n->(∀ j:Int,0<=j->j < i->0<=ix w j/\ix w j < letters)->zio letters w i=some (mayE letters w):=by
 intro n
 induction n with
 | zero=>
  intro i h0 h1 hn h;rw [zjr];unfold zc6
  (try dsimp only);(repeat' first | (with_reducible refine G_to ?_ ?_;focus (first | omega | (unfold fits;omega) | (unfold room;(try simp only [List.length_append,List.length_cons,List.length_nil]);omega))) | (with_reducible refine ziH ?_ ?_) | (with_reducible refine ziT ?_) | (with_reducible refine ziS ?_) | (with_reducible refine zlB (fun _ => ?_) (fun _ => ?_)))<;>try (exfalso;omega)
  ·rw [zqP hL hw (fun j a b=>h j a (by omega))]
 | succ n ih=>
  intro i h0 h1 hn h;rw [zjr];unfold zc6
  (try dsimp only);(repeat' first | (with_reducible refine G_to ?_ ?_;focus (first | omega | (unfold fits;omega) | (unfold room;(try simp only [List.length_append,List.length_cons,List.length_nil]);omega))) | (with_reducible refine ziH ?_ ?_) | (with_reducible refine ziT ?_) | (with_reducible refine ziS ?_) | (with_reducible refine zlB (fun _ => ?_) (fun _ => ?_)))<;>try (exfalso;omega)
  ·rw [zj8 hL hw (i:=i) (by omega) (by omega)]
  ·rw [zj8 hL hw (i:=i) (by omega) (by omega)]
  ·exact ih _ (by omega) (by omega) (by omega) (zls h (by omega))
theorem zkU {letters:Int} {w:List Int}:znw letters w=some (mayE letters w):=by
 unfold znw
 (try dsimp only);(repeat' first | (with_reducible refine G_to ?_ ?_;focus (first | omega | (unfold fits;omega) | (unfold room;(try simp only [List.length_append,List.length_cons,List.length_nil]);omega))) | (with_reducible refine ziH ?_ ?_) | (with_reducible refine ziT ?_) | (with_reducible refine ziS ?_) | (with_reducible refine zlB (fun _ => ?_) (fun _ => ?_)))<;>try (exfalso;omega)
 ·rw [zhb (by omega)]
 ·rw [zhb (by omega)]
 ·rw [znp (by omega) (by omega)]
 ·exact zlk (by omega) (by omega) _ 0 (by omega) (by omega) rfl (fun j a b=>by omega)
noncomputable def lasE (letters:Int) (l:List Int×List Int×Unit):Int:=if mayE letters l.1=0 then (if mayE letters l.2.1=0 then (if l.2.1.length=0 then 1 else 0) else mayE letters l.2.1) else mayE letters l.1
theorem zmK {letters:Int} {l:List Int×List Int×Unit}:zin letters l=some (lasE letters l):=by
 unfold zin lasE;refine zkj zkU ?_
 by_cases h1:mayE letters l.1=0
 ·rw [if_pos h1,if_neg (by simp [h1])]
  refine zkj zkU ?_
  by_cases h2:mayE letters l.2.1=0
  ·rw [if_pos h2,if_neg (by simp [h2])]
   by_cases h3:l.2.1.length=0
   ·rw [if_pos (by simp [h3]),if_pos h3]
   ·rw [if_neg (by simp only [decide_eq_true_eq];omega),if_neg h3]
  ·rw [if_neg h2,if_pos (by simp [h2])]
 ·rw [if_neg h1,if_pos (by simp [h1])]
theorem zk8 {letters:Int} {l:List Int×List Int×Unit}:zfS letters l=some (lasE letters l):=by
 unfold zfS lasE;rw [zd2];unfold zbu;rw [if_pos (by decide),zah (by decide)]
 refine zkj ziD ?_
 have e0:vget (.list (.int .i64)) 2 (l.1,(l.2.1,())) (0:Int).toNat=l.1:=rfl;have e1:vget (.list (.int .i64)) 2 (l.1,(l.2.1,())) ((0:Int)+1).toNat=l.2.1:=rfl;rw [e0];by_cases h1:mayE letters l.1=0
 ·rw [if_pos h1,if_neg (by simp [h1]),zah (by unfold fits;omega),zd2];unfold zbu
  rw [if_pos (by decide),zah (by decide),e1]
  refine zkj ziD ?_
  by_cases h2:mayE letters l.2.1=0
  ·rw [if_pos h2,if_neg (by simp [h2]),zah (by unfold fits;omega),zd2];unfold zbu
   rw [if_neg (by decide)]
   by_cases h3:l.2.1.length=0
   ·rw [if_pos (by simp [h3]),if_pos h3]
   ·rw [if_neg (by simp only [decide_eq_true_eq];omega),if_neg h3]
  ·rw [if_neg h2,if_pos (by simp [h2])]
 ·rw [if_neg h1,if_pos (by simp [h1])]
theorem zqK {letters:Int} {l:List Int×List Int×Unit} (h:lasE letters l=0):mayE letters l.1=0/\mayE letters l.2.1=0/\0 < l.2.1.length:=by
 unfold lasE at h;by_cases h1:mayE letters l.1=0
 ·rw [if_pos h1] at h;by_cases h2:mayE letters l.2.1=0
  ·rw [if_pos h2] at h;by_cases h3:l.2.1.length=0
   ·rw [if_pos h3] at h;omega
   ·exact ⟨h1,h2,by omega⟩
  ·rw [if_neg h2] at h;exact absurd h h2
 ·rw [if_neg h1] at h;exact absurd h h1
theorem law_true (c:List UInt8) (w:W3):zf1 c w=some true:=by
 have ew:(w.1,w.2.1,())=w:=rfl;unfold zf1 zi5;rcases zpC c with ⟨l,b,l2,e1,e2,hl0,hl,hl2,hwp,hwr,f,f1,f2⟩ | ⟨cd,pl,e1,e2,hcd⟩
 ·simp only [e1,e2,Option.bind_some,not_true_eq_false,decide_false,Bool.false_eq_true,if_false];rw [show zfS 4 (w.1,(w.2.1,()))=some (lasE 4 w) from zk8,show zin 4 (w.1,(w.2.1,()))=some (lasE 4 w) from zmK];simp only [Option.bind_some];by_cases h0:lasE 4 w=0
  ·obtain ⟨m1,m2,hpos⟩:=zqK h0;obtain ⟨_,r1,r2⟩:=znq m1;obtain ⟨_,r3,r4⟩:=znq m2;simp only [h0,not_true_eq_false,decide_false,Bool.false_eq_true,if_false];have hall:(([]:List Int)++w.1)++w.2.1=w.1++w.2.1:=by simp
   have lk:Lk w (w.1++w.2.1) ((w.1.length:Int)+w.2.1.length) w.1.length:=⟨rfl,by simp,by omega,by omega,by omega,fun i i0 i1=>by
    by_cases e:i < w.1.length
    ·rw [zal i0 e];exact r2 _ (zkH i0 e)
    ·rw [zep (by omega)];exact r4 _ (zkH (by omega) (by omega))⟩
   have lr:Lr w (w.1++w.2.1) ((w.1.length:Int)+w.2.1.length) w.1.length:=⟨lk,by omega,rfl⟩
   obtain ⟨x,p1,p2⟩:=zpF lk hl hl0 hwp f1;obtain ⟨y,q1,q2⟩:=zq7 lr hl2 hwr f2;have g1:room ([]:List Int) w.1 8:=zk1 (by simp;omega)
   have g2:room (([]:List Int)++w.1) w.2.1 8:=zk1 (by simp;omega)
   have p1':zcg l (w.1,(w.2.1,())) (w.1++w.2.1)=some (x,0):=p1;rw [hall];have hG1:∀ k:Option (Bool×Int),G (room ([]:List Int) w.1 8) k=k:=fun k=>zah g1
   have hG2:∀ k:Option (Bool×Int),G (room (([]:List Int)++w.1) w.2.1 8) k=k:=fun k=>zah g2
   have hb:∀ k:Option (Bool×Int),both [.bool,(.int .i64)] k k=k:=fun k=>zkl (ts:=[.bool,(.int .i64)]) k
   rw [p1',hG2,hb,hG1,hb,hb,q1];simp only [Option.bind_some,decide_true,if_true];rw [show x=y from Bool.eq_iff_iff.2 (p2.trans ((ziN f 0).trans q2.symm))];simp
  ·simp only [h0,not_false_eq_true,decide_true,if_true,Option.bind_some];simp [h0]
 ·simp only [e1,e2,Option.bind_some,hcd,not_false_eq_true,decide_true,if_true];simp
end Go.Proofs.Yteneganiigbikaa.timeHoldsW
