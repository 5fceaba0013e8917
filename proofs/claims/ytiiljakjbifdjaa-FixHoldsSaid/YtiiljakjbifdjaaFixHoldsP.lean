import Derived.Test.YtiiljakjbifdjaaFixHoldsD
set_option maxHeartbeats 1000000
set_option maxRecDepth 20000
set_option linter.unusedSimpArgs false
set_option linter.unusedVariables false
set_option linter.unusedSectionVars false
namespace Go.Proofs.Ytiiljakjbifdjaa.fixHoldsW
open Go Go.Ab
abbrev ND:=Int×Int×Unit
abbrev NR:=Int×Int×Int×Int×Unit
abbrev L5:=List NR
abbrev PS:=List (UInt8×Bool)
def nsP (ps:PS):FxNm:=ps.map fun p=>((p.1.toNat:Int),p.2,())
def nmR (ps:PS):List UInt8:=ps.map (·.1)
def trR (ps:PS):List Bool:=ps.map (·.2)
def trn (ps:PS):PS:=ps.map fun p=>(p.1,!p.2)
theorem zqf (ps:PS):(trn ps).length=ps.length:=List.length_map _
theorem zxi (ps:PS):trn (trn ps)=ps:=by
 unfold trn;rw [List.map_map];conv=>rhs;rw [<- List.map_id ps]
 congr 1;funext p;simp
theorem zhy (ps:PS):(nsP ps).length=ps.length:=List.length_map _
theorem zb5 (ps:PS):(nmR ps).length=ps.length:=List.length_map _
theorem zci (ps:PS):(trR ps).length=ps.length:=List.length_map _
theorem zuu (ps:PS):nmR (trn ps)=nmR ps:=by unfold nmR trn;rw [List.map_map];rfl
theorem zr7 (ps:PS):trR (trn ps)=(trR ps).map not:=by unfold trR trn;rw [List.map_map,List.map_map];rfl
def negP (x:Int×(Bool×Unit)):Int×(Bool×Unit):=(x.1,(!x.2.1,x.2.2))
theorem zwy (ps:PS):nsP (trn ps)=(nsP ps).map negP:=by unfold nsP trn;rw [List.map_map,List.map_map];rfl
def nowT (c:List UInt8) (i:Int):Int:=if i < c.length then bAt c i else 0
theorem zg6 {c:List UInt8} {i:Int} (h:nowT c i≠0):i < c.length:=by
 unfold nowT at h;by_cases h1:i < c.length
 ·exact h1
 ·rw [if_neg h1] at h;exact absurd rfl h
theorem zsM {α:Type} (g:α->α) (l:List α) (k:Nat) (x:α) (h:l[k]? =some x):(l.set k (g x)).take (k+1)++((l.set k (g x)).drop (k+1)).map g=l.take k++(l.drop k).map g:=by
 have hk:k < l.length:=(List.getElem?_eq_some_iff.1 h).1;have hx:l[k]=x:=(List.getElem?_eq_some_iff.1 h).2;rw [List.take_add_one,List.take_set_of_le (Nat.le_refl k),List.getElem?_set_self hk,List.drop_set_of_lt (Nat.lt_succ_self k),List.drop_eq_getElem_cons hk,hx];simp
section
variable {c nm:List UInt8} {i n s f a:Int} {l:L5} {ns:FxNm} {tr:List Bool}
theorem ztf (h0:0<=i):zbY (c,(i,(s,(n,(ns,())))))=some (nowT c i):=by
 unfold zbY nowT;by_cases h:i < (c.length:Int)
 ·rw [if_pos (by simp [h]),zao ⟨h0,h⟩,if_pos h]
 ·simp [h]
theorem zmA {k:Int}:zbn (c,(i,(s,(n,(ns,()))))) k=some (.inr (k,i)):=rfl
theorem zoj (h0:0<=i):zbZ (c,(i,(s,(n,(nm,(tr,(l,((f,(a,())),()))))))))=some (nowT c i):=by
 unfold zbZ nowT;by_cases h:(c.length:Int)<=i
 ·have : ¬ i < (c.length:Int):=by omega
  simp [h,this]
 ·have h2:i < c.length:=by omega
  simp only [h,decide_false,Bool.false_eq_true,if_false,if_pos h2];exact zao ⟨h0,h2⟩
theorem r_ok:zd1 (c,(i,(s,(n,(nm,(tr,(l,((f,(a,())),()))))))))=some (decide (f=0)):=rfl
theorem zgF {k:Int}:zaU k c i s n nm f a tr l=if f=0 then some (c,i,s,n,nm,tr,l,k,i) else some (c,i,s,n,nm,tr,l,f,a):=by
 unfold zaU;by_cases h:f=0<;>simp [h]
theorem zg7 (hn:0<=n/\n<=30):zaX c i s n ns=if 30 < n+1 then some (.inr (7,i)) else some (.inl (c,i,s,n+1,ns)):=by
 unfold zaX;rw [zao (zaT (by omega) (by omega))]
 by_cases h:(30:Int) < n+1
 ·simp [h,zmA,zaR]
 ·simp only [h,decide_false,Bool.false_eq_true,if_false]
theorem zf6 (h0:0<=i) (h1:i<=5000) (hn:0<=n/\n<=40):
  zaP c i s n nm 0 0 tr l=if 30 < n+1 then some (c,i+1,s,n+1,nm,tr,l,7,i) else some (c,i+1,s,n+1,nm,tr,l,0,0):=by
 have f3:fits (i+1):=zaT (by omega) (by omega)
 unfold zaP;rw [zao (zaT (by omega) (by omega))]
 by_cases h:(30:Int) < n+1
 ·simp [h,zgF,zao f3]
 ·simp [h,zao f3]
theorem zhb (h:l.length<=1000) {k v x y:Int}:zbD (k,(v,(x,(y,())))) c i s n nm f a tr l=some ((l.length:Int),c,i,s,n,nm,tr,l++[(k,v,x,y,())],f,a):=by
 unfold zbD;have e:(((l++[(k,(v,(x,(y,()))))]).length:Int) - 1)=(l.length:Int):=by simp
 rw [zao (zhI (by simp;omega))]
 simp only [e];rw [zao (zaT (by omega) (by omega))]
theorem zuA {k:Int} (h0:0<=i/\i<=5000):zb3 k c i s n ns=if nowT c i=k then some (.inl (c,i+1,s,n,ns)) else some (.inr (4,i)):=by
 have f2:fits (i+1):=zaT (by omega) (by omega)
 unfold zb3;rw [ztf h0.1];by_cases h:nowT c i=k
 ·simp [h,zao f2]
 ·simp [h,zmA,zaR]
theorem zsF {k:Int} (h0:0<=i/\i<=5000):zbp k c i s n nm 0 0 tr l=if nowT c i=k then some (c,i+1,s,n,nm,tr,l,0,0) else some (c,i+1,s,n,nm,tr,l,4,i):=by
 have f2:fits (i+1):=zaT (by omega) (by omega)
 unfold zbp;rw [zoj h0.1];by_cases h:nowT c i=k
 ·simp [h,zao f2]
 ·simp [h,zgF,zao f2]
theorem zsm {k:Int} (hf:f≠0) (h0:0<=i/\i<=5000):zbp k c i s n nm f a tr l=some (c,i+1,s,n,nm,tr,l,f,a):=by
 have f2:fits (i+1):=zaT (by omega) (by omega)
 unfold zbp;rw [zoj h0.1];by_cases h:nowT c i=k
 ·simp [h,zao f2]
 ·simp [h,zgF,hf,zao f2]
theorem zoX (hf:f≠0):zal c i s n nm f a tr l=some (0,c,i,s,n,nm,tr,l,f,a):=by
 rw [zgv];unfold zbV;rw [r_ok];simp [hf]
theorem zpN (hf:f≠0) (h0:0<=i) (x:Int):zbi zal x c i s n nm f a tr l=some (x,c,i,s,n,nm,tr,l,f,a):=by
 rw [zeG];unfold zbd;rw [zoj h0];simp only [Option.bind_some];rw [r_ok];simp [hf]
theorem zxv (hf:f≠0) (h0:0<=i):zbo zal c i s n nm f a tr l=some (0,c,i,s,n,nm,tr,l,f,a):=by
 unfold zbo;rw [zoX hf];simp only [Option.bind_some];exact zpN hf h0 0
theorem zpO (hf:f≠0) (h0:0<=i) (x:Int):za2 zal x c i s n nm f a tr l=some (x,c,i,s,n,nm,tr,l,f,a):=by
 rw [zef];unfold za3;rw [zoj h0];simp only [Option.bind_some];rw [r_ok];simp [hf]
theorem zwA (l0:FxNm) (hl:l0.length<=1000):∀ (m:Nat) (k:Nat) (l1:FxNm),l1.length=l0.length->l0.length - k=m->zc5 l0 (k:Int) c i s n l1=some (c,i,s,n,l1.take k++(l1.drop k).map negP):=by
 intro m
 induction m with
 | zero=>
  intro k l1 h1 hm;rw [zeB];unfold zbc;have : ¬ (k:Int) < (l0.length:Int):=by omega
  simp only [this,decide_false,Bool.false_eq_true,if_false];rw [List.take_of_length_le (by omega),List.drop_of_length_le (by omega)];simp
 | succ m ih=>
  intro k l1 h1 hm;rw [zeB];unfold zbc;have hk:(k:Int) < (l0.length:Int):=by omega
  have hk1:k < l1.length:=by omega
  have e:ix l1 (k:Int)=l1[k]:=by rw [zmV (by omega) (by omega)];rfl
  simp only [hk,decide_true,if_true];rw [zao (by omega),zao (by simpa using hk1),zao (by omega),zao (by simpa using hk1),zao (zaT (by omega) (by omega)),Int.toNat_natCast,e]
  have:=ih (k+1) (l1.set k (negP l1[k])) (by simpa using h1) (by omega)
  rw [zsM negP l1 k l1[k] (List.getElem?_eq_getElem hk1)] at this;rw [<- this];rfl
theorem zvT {ps:PS} (h:ps.length<=10):zde c i s n (nsP ps)=some (c,i,s,n,nsP (trn ps)):=by
 unfold zde;have:=zwA (c:=c) (i:=i) (s:=s) (n:=n) (nsP ps) (by rw [zhy];omega) _ 0 (nsP ps) rfl rfl
 rw [show ((0:Nat):Int)=0 from rfl] at this;rw [this,zwy];rfl
theorem zwG:∀ (m:Nat) (k:Nat) (tr:List Bool),tr.length<=1000->tr.length - k=m->zc7 (k:Int) c i s n nm f a tr l=some (c,i,s,n,nm,tr.take k++(tr.drop k).map not,l,f,a):=by
 intro m
 induction m with
 | zero=>
  intro k tr h1 hm;rw [zeH];unfold zbe;have : ¬ (k:Int) < (tr.length:Int):=by omega
  simp only [this,decide_false,Bool.false_eq_true,if_false];rw [List.take_of_length_le (by omega),List.drop_of_length_le (by omega)];simp
 | succ m ih=>
  intro k tr h1 hm;rw [zeH];unfold zbe;have hk:(k:Int) < (tr.length:Int):=by omega
  have hk1:k < tr.length:=by omega
  have e:ix tr (k:Int)=tr[k]:=by rw [zmV (l:=tr) (by omega) (by omega)];rfl
  simp only [hk,decide_true,if_true];rw [zao ⟨by omega,trivial⟩,zao (by simpa using hk1),zao ⟨by omega,trivial⟩,zao (by simpa using hk1),zao (zaT (by omega) (by omega)),Int.toNat_natCast,e]
  have:=ih (k+1) (tr.set k (!tr[k])) (by simpa using h1) (by simp;omega)
  rw [zsM not tr k tr[k] (List.getElem?_eq_getElem hk1)] at this;rw [<- this];rfl
theorem zq4 (h:tr.length<=10):zdh c i s n nm f a tr l=some (c,i,s,n,nm,tr.map not,l,f,a):=by
 unfold zdh;have:=zwG (c:=c) (i:=i) (s:=s) (n:=n) (nm:=nm) (f:=f) (a:=a) (l:=l) _ 0 tr (by omega) rfl
 rw [show ((0:Nat):Int)=0 from rfl] at this;rw [this];rfl
end
def vT (x:NR):ND:=(x.1,x.2.1,())
def xA (x:NR):Int:=x.2.2.1
def xB (x:NR):Int:=x.2.2.2.1
inductive Stn (l:L5):List Bool->Tr ND->Int->Prop
 | leaf (q:List Bool) (k:Int) (h0:0<=k) (h1:k < l.length) (hs:(ix l k).1=48\/(ix l k).1=49):Stn l q (Tr.mk (vT (ix l k)) []) k
 | name (q:List Bool) (k:Int) (j:Nat) (h0:0<=k) (h1:k < l.length) (hs:(ix l k).1=88) (hn:(ix l k).2.1=j) (hj:q[j]? =some false):Stn l q (Tr.mk (vT (ix l k)) []) k
 | no (q:List Bool) (k:Int) (a:Tr ND) (h0:0<=k) (h1:k < l.length) (hs:(ix l k).1=33) (ha:Stn l (q.map not) a (xA (ix l k))):Stn l q (Tr.mk (vT (ix l k)) [a]) k
 | arrow (q:List Bool) (k:Int) (a:Tr ND) (h0:0<=k) (h1:k < l.length) (hs:(ix l k).1=60\/(ix l k).1=91) (ha:Stn l q a (xA (ix l k))):Stn l q (Tr.mk (vT (ix l k)) [a]) k
 | fix (q:List Bool) (k:Int) (a:Tr ND) (h0:0<=k) (h1:k < l.length) (hs:(ix l k).1=109\/(ix l k).1=110) (hn:(ix l k).2.1=q.length) (hq:q.length < 3) (ha:Stn l (q++[false]) a (xA (ix l k))):Stn l q (Tr.mk (vT (ix l k)) [a]) k
 | two (q:List Bool) (k:Int) (a b:Tr ND) (h0:0<=k) (h1:k < l.length) (hs:(ix l k).1=38\/(ix l k).1=124) (ha:Stn l q a (xA (ix l k))) (hb:Stn l q b (xB (ix l k))):Stn l q (Tr.mk (vT (ix l k)) [a,b]) k
theorem Stn.mono {l m:L5} {q:List Bool} {t:Tr ND} {k:Int} (h:Stn l q t k):Stn (l++m) q t k:=by
 induction h with
 | leaf q k h0 h1 hs=>
  have e:ix (l++m) k=ix l k:=zc1 h0 h1;rw [<- e] at hs ⊢;exact .leaf q k h0 (by simp;omega) hs
 | name q k j h0 h1 hs hn hj=>
  have e:ix (l++m) k=ix l k:=zc1 h0 h1;rw [<- e] at hs hn ⊢;exact .name q k j h0 (by simp;omega) hs hn hj
 | no q k a h0 h1 hs ha iha=>
  have e:ix (l++m) k=ix l k:=zc1 h0 h1;rw [<- e] at hs iha ⊢;exact .no q k a h0 (by simp;omega) hs iha
 | arrow q k a h0 h1 hs ha iha=>
  have e:ix (l++m) k=ix l k:=zc1 h0 h1;rw [<- e] at hs iha ⊢;exact .arrow q k a h0 (by simp;omega) hs iha
 | fix q k a h0 h1 hs hn hq ha iha=>
  have e:ix (l++m) k=ix l k:=zc1 h0 h1;rw [<- e] at hs iha hn ⊢;exact .fix q k a h0 (by simp;omega) hs hn hq iha
 | two q k a b h0 h1 hs ha hb iha ihb=>
  have e:ix (l++m) k=ix l k:=zc1 h0 h1;rw [<- e] at hs iha ihb ⊢;exact .two q k a b h0 (by simp;omega) hs iha ihb
section
variable {l:L5} {x:NR} {q:List Bool} {a b:Tr ND}
theorem Stn.put_leaf (hs:x.1=48\/x.1=49):Stn (l++[x]) q (Tr.mk (vT x) []) l.length:=by
 have e:ix (l++[x]) (l.length:Int)=x:=zc0;have:=Stn.leaf (l:=l++[x]) q l.length (by omega) (by simp;omega) (by rw [e];exact hs)
 rw [e] at this;exact this
theorem Stn.put_name (j:Nat) (hs:x.1=88) (hn:x.2.1=j) (hj:q[j]? =some false):Stn (l++[x]) q (Tr.mk (vT x) []) l.length:=by
 have e:ix (l++[x]) (l.length:Int)=x:=zc0;have:=Stn.name (l:=l++[x]) q l.length j (by omega) (by simp;omega) (by rw [e];exact hs) (by rw [e];exact hn) hj
 rw [e] at this;exact this
theorem Stn.put_no (hs:x.1=33) (ha:Stn l (q.map not) a (xA x)):Stn (l++[x]) q (Tr.mk (vT x) [a]) l.length:=by
 have e:ix (l++[x]) (l.length:Int)=x:=zc0;have:=Stn.no (l:=l++[x]) q l.length a (by omega) (by simp;omega) (by rw [e];exact hs) (by rw [e];exact ha.mono)
 rw [e] at this;exact this
theorem Stn.put_arrow (hs:x.1=60\/x.1=91) (ha:Stn l q a (xA x)):Stn (l++[x]) q (Tr.mk (vT x) [a]) l.length:=by
 have e:ix (l++[x]) (l.length:Int)=x:=zc0;have:=Stn.arrow (l:=l++[x]) q l.length a (by omega) (by simp;omega) (by rw [e];exact hs) (by rw [e];exact ha.mono)
 rw [e] at this;exact this
theorem Stn.put_fix (hs:x.1=109\/x.1=110) (hn:x.2.1=q.length) (hq:q.length < 3) (ha:Stn l (q++[false]) a (xA x)):Stn (l++[x]) q (Tr.mk (vT x) [a]) l.length:=by
 have e:ix (l++[x]) (l.length:Int)=x:=zc0;have:=Stn.fix (l:=l++[x]) q l.length a (by omega) (by simp;omega) (by rw [e];exact hs) (by rw [e];exact hn) hq (by rw [e];exact ha.mono)
 rw [e] at this;exact this
theorem Stn.put_two (hs:x.1=38\/x.1=124) (ha:Stn l q a (xA x)) (hb:Stn l q b (xB x)):Stn (l++[x]) q (Tr.mk (vT x) [a,b]) l.length:=by
 have e:ix (l++[x]) (l.length:Int)=x:=zc0;have:=Stn.two (l:=l++[x]) q l.length a b (by omega) (by simp;omega) (by rw [e];exact hs) (by rw [e];exact ha.mono) (by rw [e];exact hb.mono)
 rw [e] at this;exact this
end
def Ext (l l':L5):Prop:=∃ m,l'=l++m
theorem Ext.refl (l:L5):Ext l l:=⟨[],by simp⟩
theorem Ext.trans {l l' l2:L5} (h:Ext l l') (h2:Ext l' l2):Ext l l2:=by
 obtain ⟨m,rfl⟩:=h;obtain ⟨m',rfl⟩:=h2;exact ⟨m++m',by simp⟩
theorem Ext.snoc (l:L5) (x:NR):Ext l (l++[x]):=⟨[x],rfl⟩
theorem Ext.put {l l':L5} (h:Ext l l') (x:NR):Ext l (l'++[x]):=h.trans (Ext.snoc l' x)
theorem Ext.stn {l l':L5} (h:Ext l l') {q:List Bool} {t:Tr ND} {k:Int} (h2:Stn l q t k):Stn l' q t k:=by
 obtain ⟨m,rfl⟩:=h;exact h2.mono
structure Pre (c:List UInt8) (i n s:Int) (ps:PS) (l:L5):Prop where
 i0:0<=i
 i1:i<=c.length
 c1:c.length<=4000
 n0:0<=n
 n1:n<=30
 s0:0<=s
 s1:s<=40
 l1:(l.length:Int)<=n
 p1:ps.length<=3
abbrev OP:=Option ((Tr ND×List UInt8×Int×Int×Int×FxNm)⊕(Int×Int))
abbrev OR:=Option (Int×List UInt8×Int×Int×Int×List UInt8×List Bool×L5×Int×Int)
def Sm (c:List UInt8) (i n s:Int) (ps:PS) (l:L5) (o:OP) (r:OR):Prop:=
 (∃ a b i' n' l',o=some (.inl (a,c,i',s,n',nsP ps))/\r=some (b,c,i',s,n',nmR ps,trR ps,l',0,0)/\i<=i'/\i'<=c.length/\n<=n'/\n'<=30/\(l'.length:Int)+n<=l.length+n'/\Ext l l'/\Stn l' (trR ps) a b)
 \/(∃ cd pl b i' n' nm' tr' l',o=some (.inr (cd,pl))/\r=some (b,c,i',s,n',nm',tr',l',cd,pl)/\cd≠0/\0<=i'/\i'<=c.length+4 * (41 - s)/\n'<=31/\(l'.length:Int)+n<=l.length+n'/\nm'.length=ps.length/\tr'.length=ps.length)
def Part (c:List UInt8) (m:Nat):Prop:=∀ i n s ps l,Pre c i n s ps l->((c.length:Int) - i).toNat<=m->Sm c i n s ps l (zay c i s n (nsP ps)) (zal c i s n (nmR ps) 0 0 (trR ps) l)
def Term (c:List UInt8) (m:Nat):Prop:=∀ i n s ps l,Pre c i n s ps l->((c.length:Int) - i).toNat<=m->Sm c i n s ps l (zb2 zay c i s n (nsP ps)) (zbo zal c i s n (nmR ps) 0 0 (trR ps) l)
def zv1 (c:List UInt8) (m:Nat):Prop:=∀ i n s ps l,Pre c i n s ps l->((c.length:Int) - i).toNat<=m->Sm c i n s ps l (za4 zay c i s n (nsP ps)) (za5 zal c i s n (nmR ps) 0 0 (trR ps) l)
theorem zuO {c:List UInt8}:∀ m:Nat,(∀ m' < m,Part c m')->∀ a b i n s ps l,Pre c i n s ps l->Stn l (trR ps) a b->((c.length:Int) - i).toNat<=m->
  Sm c i n s ps l (zbI zay a c i s n (nsP ps)) (zbi zal b c i s n (nmR ps) 0 0 (trR ps) l):=by
 intro m
 induction m using Nat.strongRecOn with
 | ind m ih=>
  intro hP a b i n s ps l hp hab hm;obtain ⟨i0,i1,c1,n0,n1,s0,s1,q1,p1⟩:=hp;rw [ziV,zeG];unfold zbO zbd;rw [ztf i0,zoj i0];simp only [Option.bind_some];rw [r_ok];by_cases hb:nowT c i=38
  ·have hlt:i < c.length:=zg6 (by rw [hb];decide)
   have fi:fits (i+1):=zaT (by omega) (by omega)
   simp only [hb,Option.bind_some,decide_true,not_true_eq_false,decide_false,Bool.not_true,Bool.false_eq_true,if_true,if_false];rw [zg7 ⟨n0,n1⟩,zf6 i0 (by omega) ⟨n0,by omega⟩]
   by_cases hbad:30 < n+1
   ·simp only [hbad,if_true,zaR,Option.bind_some];rw [zoX (by decide)]
    simp only [Option.bind_some];rw [zhb (by omega)]
    simp only [Option.bind_some];rw [zpN (by decide) (by omega)]
    exact .inr ⟨7,i,_,_,_,_,_,_,rfl,rfl,by decide,by omega,by omega,by omega,by (first | omega | (simp only [List.length_append,List.length_cons,List.length_nil] at *; omega) | (simp;done) | (simp;omega)),zb5 _,zci _⟩
   ·simp only [hbad,if_false,zbQ,Option.bind_some,zao fi];rcases hP (((c.length:Int) - (i+1)).toNat) (by omega) (i+1) (n+1) s ps l ⟨by omega,by omega,c1,by omega,by omega,s0,s1,by omega,p1⟩ (Nat.le_refl _) with
     ⟨a1,b1,i',n',l',e1,e2,g1,g2,g3,g4,g5,g6,g7⟩ | ⟨cd,pl,b1,i',n',nm',tr',l',e1,e2,g1,g2,g3,g4,g5,g6,g7⟩
    ·simp only [e1,e2,zbQ,Option.bind_some];rw [zhb (by omega)]
     simp only [Option.bind_some];rcases ih (((c.length:Int) - i').toNat) (by omega) (fun m' hm'=>hP m' (by omega)) (Tr.mk (38,(0,())) [a,a1]) (l'.length:Int) i' n' s ps (l'++[(38,0,b,b1,())])
      ⟨by omega,g2,c1,by omega,g4,s0,s1,by (first | omega | (simp only [List.length_append,List.length_cons,List.length_nil] at *; omega) | (simp;done) | (simp;omega)),p1⟩ (Stn.put_two (x:=(38,0,b,b1,())) (.inl rfl) (g6.stn hab) g7) (Nat.le_refl _) with
      ⟨a2,b2,i2,n2,l3,w1,w2,w3,w4,w5,w6,w7,w8,w9⟩ | ⟨cd,pl,b2,i2,n2,nm2,tr2,l3,w1,w2,w3,w4,w5,w6,w7,w8,w9⟩
     ·exact .inl ⟨a2,b2,i2,n2,l3,w1,w2,by omega,w4,by omega,w6,by (first | omega | (simp only [List.length_append,List.length_cons,List.length_nil] at *; omega) | (simp;done) | (simp;omega)),Ext.trans (g6.put _) w8,w9⟩
     ·exact .inr ⟨cd,pl,b2,i2,n2,nm2,tr2,l3,w1,w2,w3,w4,w5,w6,by (first | omega | (simp only [List.length_append,List.length_cons,List.length_nil] at *; omega) | (simp;done) | (simp;omega)),w8,w9⟩
    ·simp only [e1,e2,zaR,Option.bind_some];rw [zhb (by omega)]
     simp only [Option.bind_some];rw [zpN g1 g2];exact .inr ⟨cd,pl,_,_,_,_,_,_,rfl,rfl,g1,g2,g3,g4,by (first | omega | (simp only [List.length_append,List.length_cons,List.length_nil] at *; omega) | (simp;done) | (simp;omega)),g6,g7⟩
  ·simp only [hb,Option.bind_some,decide_true,not_false_eq_true,decide_false,Bool.not_true,Bool.false_eq_true,if_true,if_false];exact .inl ⟨a,b,i,n,l,rfl,rfl,by omega,i1,by omega,n1,by omega,Ext.refl _,hab⟩
theorem zxg {c:List UInt8} {m:Nat} (hP:∀ m' ≤ m,Part c m'):Term c m:=by
 intro i n s ps l hp hm;have hp':=hp;obtain ⟨i0,i1,c1,n0,n1,s0,s1,q1,p1⟩:=hp;unfold zb2 zbo;rcases hP m (Nat.le_refl _) i n s ps l hp' hm with
  ⟨a1,b1,i',n',l',e1,e2,g1,g2,g3,g4,g5,g6,g7⟩ | ⟨cd,pl,b1,i',n',nm',tr',l',e1,e2,g1,g2,g3,g4,g5,g6,g7⟩
 ·simp only [e1,e2,zbQ,Option.bind_some];rcases zuO m (fun m' hm'=>hP m' (by omega)) a1 b1 i' n' s ps l' ⟨by omega,g2,c1,by omega,g4,s0,s1,by omega,p1⟩ g7 (by omega) with
   ⟨a2,b2,i2,n2,l3,w1,w2,w3,w4,w5,w6,w7,w8,w9⟩ | ⟨cd,pl,b2,i2,n2,nm2,tr2,l3,w1,w2,w3,w4,w5,w6,w7,w8,w9⟩
  ·exact .inl ⟨a2,b2,i2,n2,l3,w1,w2,by omega,w4,by omega,w6,by omega,g6.trans w8,w9⟩
  ·exact .inr ⟨cd,pl,b2,i2,n2,nm2,tr2,l3,w1,w2,w3,w4,w5,w6,by omega,w8,w9⟩
 ·simp only [e1,e2,zaR,Option.bind_some];rw [zpN g1 g2];exact .inr ⟨cd,pl,_,_,_,_,_,_,rfl,rfl,g1,g2,g3,g4,g5,g6,g7⟩
theorem zto {c:List UInt8}:∀ m:Nat,(∀ m' < m,Term c m')->∀ a b i n s ps l,Pre c i n s ps l->Stn l (trR ps) a b->((c.length:Int) - i).toNat<=m->
  Sm c i n s ps l (zbw zay a c i s n (nsP ps)) (za2 zal b c i s n (nmR ps) 0 0 (trR ps) l):=by
 intro m
 induction m using Nat.strongRecOn with
 | ind m ih=>
  intro hP a b i n s ps l hp hab hm;obtain ⟨i0,i1,c1,n0,n1,s0,s1,q1,p1⟩:=hp;rw [zih,zef];unfold zbA za3;rw [ztf i0,zoj i0];simp only [Option.bind_some];rw [r_ok];by_cases hb:nowT c i=124
  ·have hlt:i < c.length:=zg6 (by rw [hb];decide)
   have fi:fits (i+1):=zaT (by omega) (by omega)
   simp only [hb,Option.bind_some,decide_true,not_true_eq_false,decide_false,Bool.not_true,Bool.false_eq_true,if_true,if_false];rw [zg7 ⟨n0,n1⟩,zf6 i0 (by omega) ⟨n0,by omega⟩]
   by_cases hbad:30 < n+1
   ·simp only [hbad,if_true,zaR,Option.bind_some];rw [zxv (by decide) (by omega)]
    simp only [Option.bind_some];rw [zhb (by omega)]
    simp only [Option.bind_some];rw [zpO (by decide) (by omega)]
    exact .inr ⟨7,i,_,_,_,_,_,_,rfl,rfl,by decide,by omega,by omega,by omega,by (first | omega | (simp only [List.length_append,List.length_cons,List.length_nil] at *; omega) | (simp;done) | (simp;omega)),zb5 _,zci _⟩
   ·simp only [hbad,if_false,zbQ,Option.bind_some,zao fi];rcases hP (((c.length:Int) - (i+1)).toNat) (by omega) (i+1) (n+1) s ps l ⟨by omega,by omega,c1,by omega,by omega,s0,s1,by omega,p1⟩ (Nat.le_refl _) with
     ⟨a1,b1,i',n',l',e1,e2,g1,g2,g3,g4,g5,g6,g7⟩ | ⟨cd,pl,b1,i',n',nm',tr',l',e1,e2,g1,g2,g3,g4,g5,g6,g7⟩
    ·simp only [e1,e2,zbQ,Option.bind_some];rw [zhb (by omega)]
     simp only [Option.bind_some];rcases ih (((c.length:Int) - i').toNat) (by omega) (fun m' hm'=>hP m' (by omega)) (Tr.mk (124,(0,())) [a,a1]) (l'.length:Int) i' n' s ps (l'++[(124,0,b,b1,())])
      ⟨by omega,g2,c1,by omega,g4,s0,s1,by (first | omega | (simp only [List.length_append,List.length_cons,List.length_nil] at *; omega) | (simp;done) | (simp;omega)),p1⟩ (Stn.put_two (x:=(124,0,b,b1,())) (.inr rfl) (g6.stn hab) g7) (Nat.le_refl _) with
      ⟨a2,b2,i2,n2,l3,w1,w2,w3,w4,w5,w6,w7,w8,w9⟩ | ⟨cd,pl,b2,i2,n2,nm2,tr2,l3,w1,w2,w3,w4,w5,w6,w7,w8,w9⟩
     ·exact .inl ⟨a2,b2,i2,n2,l3,w1,w2,by omega,w4,by omega,w6,by (first | omega | (simp only [List.length_append,List.length_cons,List.length_nil] at *; omega) | (simp;done) | (simp;omega)),Ext.trans (g6.put _) w8,w9⟩
     ·exact .inr ⟨cd,pl,b2,i2,n2,nm2,tr2,l3,w1,w2,w3,w4,w5,w6,by (first | omega | (simp only [List.length_append,List.length_cons,List.length_nil] at *; omega) | (simp;done) | (simp;omega)),w8,w9⟩
    ·simp only [e1,e2,zaR,Option.bind_some];rw [zhb (by omega)]
     simp only [Option.bind_some];rw [zpO g1 g2];exact .inr ⟨cd,pl,_,_,_,_,_,_,rfl,rfl,g1,g2,g3,g4,by (first | omega | (simp only [List.length_append,List.length_cons,List.length_nil] at *; omega) | (simp;done) | (simp;omega)),g6,g7⟩
  ·simp only [hb,Option.bind_some,decide_true,not_false_eq_true,decide_false,Bool.not_true,Bool.false_eq_true,if_true,if_false];exact .inl ⟨a,b,i,n,l,rfl,rfl,by omega,i1,by omega,n1,by omega,Ext.refl _,hab⟩
theorem zvD {c:List UInt8} {m:Nat} (hP:∀ m' ≤ m,Term c m'):zv1 c m:=by
 intro i n s ps l hp hm;have hp':=hp;obtain ⟨i0,i1,c1,n0,n1,s0,s1,q1,p1⟩:=hp;unfold za4 za5;rcases hP m (Nat.le_refl _) i n s ps l hp' hm with
  ⟨a1,b1,i',n',l',e1,e2,g1,g2,g3,g4,g5,g6,g7⟩ | ⟨cd,pl,b1,i',n',nm',tr',l',e1,e2,g1,g2,g3,g4,g5,g6,g7⟩
 ·simp only [e1,e2,zbQ,Option.bind_some];rcases zto m (fun m' hm'=>hP m' (by omega)) a1 b1 i' n' s ps l' ⟨by omega,g2,c1,by omega,g4,s0,s1,by omega,p1⟩ g7 (by omega) with
   ⟨a2,b2,i2,n2,l3,w1,w2,w3,w4,w5,w6,w7,w8,w9⟩ | ⟨cd,pl,b2,i2,n2,nm2,tr2,l3,w1,w2,w3,w4,w5,w6,w7,w8,w9⟩
  ·exact .inl ⟨a2,b2,i2,n2,l3,w1,w2,by omega,w4,by omega,w6,by omega,g6.trans w8,w9⟩
  ·exact .inr ⟨cd,pl,b2,i2,n2,nm2,tr2,l3,w1,w2,w3,w4,w5,w6,by omega,w8,w9⟩
 ·simp only [e1,e2,zaR,Option.bind_some];rw [zpO g1 g2];exact .inr ⟨cd,pl,_,_,_,_,_,_,rfl,rfl,g1,g2,g3,g4,g5,g6,g7⟩
theorem zvS {c:List UInt8} {i:Int}:0<=nowT c i/\nowT c i<=255:=by
 unfold nowT bAt
 split
 ·have:=(c.getD i.toNat 0).toNat_lt;omega
 ·omega
theorem zvR (ps:PS) (k:Nat) (h:k < ps.length):(nmP (nsP ps)).getD k (0,false)=((ps[k].1.toNat:Int),ps[k].2):=by
 unfold nmP nsP;rw [List.map_map,List.getD_eq_getElem?_getD,List.getElem?_map,List.getElem?_eq_getElem h];rfl
theorem zqQ {ns:List (Int×Bool)} {c:Int} {j:Nat} {b:Bool}:∀ {k:Nat},zdM ns c k=some (j,b)->j < k/\(ns.getD j (0,false)).2=b
 | 0,h=>by cases h
 | k+1,h=>by
  unfold zdM at h;by_cases hc:(ns.getD k (0,false)).1=c
  ·rw [if_pos hc] at h;cases h;exact ⟨by omega,rfl⟩
  ·rw [if_neg hc] at h;have:=zqQ h;exact ⟨by omega,this.2⟩
def namR (ch:Int) (c:List UInt8) (i s n:Int) (ps:PS) (l:L5) (q:Option (Nat×Bool)):OR:=match q with
 | some (j,false)=>if 30 < n+1 then some (l.length,c,i+1,s,n+1,nmR ps,trR ps,l++[(88,(j:Int),0,0,())],7,i) else some (l.length,c,i+1,s,n+1,nmR ps,trR ps,l++[(88,(j:Int),0,0,())],0,0)
 | _=>some (0,c,i,s,n,nmR ps,trR ps,l,5,i)
theorem zsE {ch:Int} {c:List UInt8} {i s n:Int} {ps:PS} {l:L5} (hi:0<=i/\i<=5000) (hn:0<=n/\n<=40) (hl:l.length<=900) (hp:ps.length<=10):∀ k:Nat,k<=ps.length->zcU ch c i s n (nmR ps) 0 0 (trR ps) l ((k:Int) - 1)=namR ch c i s n ps l (zdM (nmP (nsP ps)) ch k)
 | 0,_=>by
  rw [zee];unfold za1;have h : ¬ (0:Int)<=((0:Nat):Int) - 1:=by omega
  simp only [h,decide_false,Bool.false_eq_true,if_false];unfold zcT;rw [zgF,if_pos rfl];rfl
 | k+1,hk=>by
  rw [zee];unfold za1;have e:((k+1:Nat):Int) - 1=(k:Int):=by omega
  rw [e];have h:(0:Int)<=(k:Int):=by omega
  simp only [h,decide_true,if_true];have hkn:k < (nmR ps).length:=by rw [zb5];omega
  have hkt:k < (trR ps).length:=by rw [zci];omega
  have eb:bAt (nmR ps) (k:Int)=(ps[k].1.toNat:Int):=by
   unfold bAt nmR;rw [Int.toNat_natCast,List.getD_eq_getElem?_getD,List.getElem?_map,List.getElem?_eq_getElem (by omega)];rfl
  have et:ix (trR ps) (k:Int)=ps[k].2:=by
   rw [zmV (l:=trR ps) (by omega) (by omega)]
   simp only [Int.toNat_natCast];unfold trR;rw [List.getElem_map]
  rw [zao ⟨trivial,by omega⟩,eb,et]
  unfold zdM;rw [zvR ps k (by omega)]
  by_cases hc:(ps[k].1.toNat:Int)=ch
  ·simp only [hc,decide_true,if_true];rw [zao ⟨trivial,by omega⟩,zao (by simpa using hkt)]
   cases hb:ps[k].2 with
   | true=>
    simp only [if_true];unfold zcT;rw [zgF,if_pos rfl];rfl
   | false=>
    simp only [Bool.false_eq_true,if_false];rw [zf6 hi.1 hi.2 hn];unfold namR;by_cases h3:30 < n+1
    ·simp only [h3,if_true,Option.bind_some];rw [zhb (by omega)];rfl
    ·simp only [h3,if_false,Option.bind_some];rw [zhb (by omega)];rfl
  ·simp only [hc,decide_false,Bool.false_eq_true,if_false];rw [zao (zaT (by omega) (by omega))]
   exact zsE hi hn hl hp k (by omega)
theorem zvo {c:List UInt8} {ch:Int} {i n s:Int} {ps:PS} {l:L5} (hp:Pre c i n s ps l) (hlt:i < c.length):Sm c i n s ps l (zbg ch c i s n (nsP ps)) (zdA ch c i s n (nmR ps) 0 0 (trR ps) l):=by
 obtain ⟨i0,i1,c1,n0,n1,s0,s1,q1,p1⟩:=hp;unfold zbg zdA;have hL:=zsE (ch:=ch) (c:=c) (i:=i) (s:=s) (n:=n) (l:=l) (ps:=ps) ⟨i0,by omega⟩ ⟨n0,by omega⟩ (by omega) (by omega) ps.length (Nat.le_refl _)
 rw [zb5,zao (zaT (by omega) (by omega)),hL,zao ⟨i0,by omega⟩,zao ⟨n0,by omega⟩,zao (by rw [zhy];omega),zhy]
 cases hq:zdM (nmP (nsP ps)) ch ps.length with
 | none=>exact .inr ⟨5,i,_,_,_,_,_,_,rfl,rfl,by decide,i0,by omega,by omega,by omega,zb5 _,zci _⟩
 | some jb=>
  obtain ⟨j,b⟩:=jb
  cases b with
  | true=>exact .inr ⟨5,i,_,_,_,_,_,_,rfl,rfl,by decide,i0,by omega,by omega,by omega,zb5 _,zci _⟩
  | false=>
   obtain ⟨hj,hj2⟩:=zqQ hq;unfold namR;by_cases h3:30 < n+1
   ·simp only [h3,if_true];exact .inr ⟨7,i,_,_,_,_,_,_,rfl,rfl,by decide,by omega,by omega,by omega,by (first | omega | (simp only [List.length_append,List.length_cons,List.length_nil] at *; omega) | (simp;done) | (simp;omega)),zb5 _,zci _⟩
   ·simp only [h3,if_false];refine .inl ⟨_,_,_,_,_,rfl,rfl,by omega,by omega,by omega,by omega,by (first | omega | (simp only [List.length_append,List.length_cons,List.length_nil] at *; omega) | (simp;done) | (simp;omega)),Ext.snoc _ _,Stn.put_name (x:=(88,(j:Int),0,0,())) j rfl rfl ?_⟩
    rw [zvR ps j hj] at hj2;unfold trR;rw [List.getElem?_map,List.getElem?_eq_getElem hj];exact congrArg some hj2
theorem zuS {n:Nat} (h:n < 9223372036854775808):IntKind.wrap .i64 (n:Int)=n:=by
 unfold IntKind.wrap;simp [IntKind.bits,IntKind.signed];omega
theorem wr64 {x:Int} (h0:0<=x) (h1:x<=1000):IntKind.wrap .i64 x=x:=by
 obtain ⟨n,rfl⟩:=Int.eq_ofNat_of_zero_le h0;exact zuS (by omega)
theorem wru8 {x:Int} (h0:0<=x) (h1:x<=100):IntKind.wrap .i64 (IntKind.wrap .u8 x)=x:=by
 have e:IntKind.wrap .u8 x=x:=by
  unfold IntKind.wrap;simp [IntKind.bits,IntKind.signed];omega
 rw [e];exact wr64 h0 (by omega)
section
variable {c nm:List UInt8} {i n s f a y ch:Int} {l:L5} {tr:List Bool}
theorem znT (hf:f≠0) (hy:0<=y/\y<=255) (hl:l.length<=900):∃ b x,zaS zal ch y c i s n nm f a tr l=some (b,c,i,s,n,nm,tr,l++[x],f,a):=by
 unfold zaS;rw [zoX hf];simp only [Option.bind_some];rw [wr64 hy.1 (by omega),zao (zaT (by omega) (by omega)),zhb (by omega)]
 exact ⟨_,_,rfl⟩
theorem znS (hf:f≠0) (hi:0<=i/\i<=4900) (hy:0<=y/\y<=255) (hl:l.length<=900):∃ b x,zaZ zal ch y c i s n nm f a tr l=some (b,c,i+1+1,s,n,nm,tr,l++[x],f,a):=by
 unfold zaZ;rw [zao (zaT (by omega) (by omega)),zsm hf (by omega),zsm hf (by omega)]
 simp only [Option.bind_some]
 split
 ·exact znT hf hy hl
 ·exact znT hf hy hl
theorem zt5 (hf:f≠0) (hi:0<=i/\i<=4900) (hy:0<=y/\y<=255) (hl:l.length<=900) (t:Bool):∃ b x,zaM zal ch c i s n nm tr l f a y t=some (b,c,i+1+1,s,n,nm,tr,l++[x],f,a):=by
 unfold zaM;rw [zgF,if_neg hf];simp only [Option.bind_some]
 split
 ·exact znS hf hi hy hl
 ·exact znS hf hi hy hl
end
theorem zuV {c:List UInt8} {m:Nat} {ch:Int} (hch:ch=60\/ch=91) (hP:∀ m' < m,Part c m') {i n s:Int} {ps:PS} {l:L5} (hp:Pre c i n s ps l) (hlt:i < c.length) (hm:((c.length:Int) - i).toNat<=m):
  Sm c i n s ps l (zcg zay ch c i s n (nsP ps)) (zch zal ch c i s n (nmR ps) 0 0 (trR ps) l):=by
 obtain ⟨i0,i1,c1,n0,n1,s0,s1,q1,p1⟩:=hp;unfold zcg zch;have fi:fits (i+1):=zaT (by omega) (by omega)
 have fj:fits (i+1+1):=zaT (by omega) (by omega)
 have hy:=zvS (c:=c) (i:=i+1);rw [zg7 ⟨n0,n1⟩,zf6 i0 (by omega) ⟨n0,by omega⟩]
 by_cases hbad:30 < n+1
 ·simp only [hbad,if_true,zaR,Option.bind_some];rw [zoj (by omega)]
  simp only [Option.bind_some];have key:∀ t,Sm c i n s ps l (some (.inr (7,i))) (zaM zal ch c (i+1) s (n+1) (nmR ps) (trR ps) l 7 i (nowT c (i+1)) t):=fun t=>by
   obtain ⟨b,x,e⟩:=zt5 (c:=c) (nm:=nmR ps) (i:=i+1) (n:=n+1) (s:=s) (f:=7) (a:=i) (y:=nowT c (i+1)) (ch:=ch) (l:=l) (tr:=trR ps) (by decide) (by omega) hy (by omega) t
   rw [e];exact .inr ⟨7,i,_,_,_,_,_,_,rfl,rfl,by decide,by omega,by omega,by omega,by (first | omega | (simp only [List.length_append,List.length_cons,List.length_nil] at *; omega) | (simp;done) | (simp;omega)),zb5 _,zci _⟩
  split
  ·exact key _
  ·exact key _
 ·simp only [hbad,if_false,zbQ,Option.bind_some,zao fi];rw [ztf (by omega),zoj (by omega)]
  simp only [Option.bind_some];have key:∀ t,(t=false->97<=nowT c (i+1)/\nowT c (i+1)<=100)->Sm c i n s ps l (zbq zay ch c i s (n+1) (nsP ps) (nowT c (i+1)) t) (zaM zal ch c (i+1) s (n+1) (nmR ps) (trR ps) l 0 0 (nowT c (i+1)) t):=by
   intro t ht;unfold zbq zaM
   cases t with
   | true=>
    simp only [if_true,zmA,zaR,zgF,Option.bind_some];obtain ⟨b,x,e⟩:=znS (c:=c) (nm:=nmR ps) (i:=i+1) (n:=n+1) (s:=s) (f:=4) (a:=i+1) (y:=nowT c (i+1)) (ch:=ch) (l:=l) (tr:=trR ps) (by decide) (by omega) hy (by omega)
    rw [e];exact .inr ⟨4,i+1,_,_,_,_,_,_,rfl,rfl,by decide,by omega,by omega,by omega,by (first | omega | (simp only [List.length_append,List.length_cons,List.length_nil] at *; omega) | (simp;done) | (simp;omega)),zb5 _,zci _⟩
   | false=>
    obtain ⟨h1,h2⟩:=ht rfl;have hlt1:i+1 < c.length:=zg6 (by omega)
    simp only [Bool.false_eq_true,if_false];unfold zbS zaZ;rw [zao fj,zao fj];have go:∀ k:Int,k≠0->Sm c i n s ps l (pbind (zb3 k c (i+1+1) s (n+1) (nsP ps)) (fun y'=>zbr zay ch (nowT c (i+1)) y'.1 y'.2.1 y'.2.2.1 y'.2.2.2.1 y'.2.2.2.2) (fun p=>some (.inr (p.1,p.2))))
      ((zbp k c (i+1+1) s (n+1) (nmR ps) 0 0 (trR ps) l).bind fun y'=>zaS zal ch (nowT c (i+1)) y'.1 y'.2.1 y'.2.2.1 y'.2.2.2.1 y'.2.2.2.2.1 y'.2.2.2.2.2.2.2.1 y'.2.2.2.2.2.2.2.2 y'.2.2.2.2.2.1 y'.2.2.2.2.2.2.1):=by
     intro k hk;rw [zuA (by omega),zsF (by omega)]
     by_cases hw:nowT c (i+1+1)=k
     ·have hlt2:i+1+1 < c.length:=zg6 (by rw [hw];exact hk)
      simp only [hw,if_true,zbQ,Option.bind_some];unfold zbr zaS;rcases hP (((c.length:Int) - (i+1+1+1)).toNat) (by omega) (i+1+1+1) (n+1) s ps l ⟨by omega,by omega,c1,by omega,by omega,s0,s1,by omega,p1⟩ (Nat.le_refl _) with
       ⟨a1,b1,i',n',l',e1,e2,g1,g2,g3,g4,g5,g6,g7⟩ | ⟨cd,pl,b1,i',n',nm',tr',l',e1,e2,g1,g2,g3,g4,g5,g6,g7⟩
      ·simp only [e1,e2,zbQ,Option.bind_some];rw [wr64 (x:=nowT c (i+1)) (by omega) (by omega),zao (zaT (by omega) (by omega)),zhb (by omega),wru8 (x:=nowT c (i+1) - 97) (by omega) (by omega)]
       simp only [Option.bind_some];exact .inl ⟨_,_,_,_,_,rfl,rfl,by omega,g2,by omega,g4,by (first | omega | (simp only [List.length_append,List.length_cons,List.length_nil] at *; omega) | (simp;done) | (simp;omega)),g6.put _,Stn.put_arrow (x:=(ch,nowT c (i+1) - 97,b1,0,())) hch g7⟩
      ·simp only [e1,e2,zaR,Option.bind_some];rw [wr64 (x:=nowT c (i+1)) (by omega) (by omega),zao (zaT (by omega) (by omega)),zhb (by omega)]
       simp only [Option.bind_some];exact .inr ⟨cd,pl,_,_,_,_,_,_,rfl,rfl,g1,g2,g3,g4,by (first | omega | (simp only [List.length_append,List.length_cons,List.length_nil] at *; omega) | (simp;done) | (simp;omega)),g6,g7⟩
     ·simp only [hw,if_false,zaR,Option.bind_some];obtain ⟨b,x,e⟩:=znT (c:=c) (nm:=nmR ps) (i:=i+1+1+1) (n:=n+1) (s:=s) (f:=4) (a:=i+1+1) (y:=nowT c (i+1)) (ch:=ch) (l:=l) (tr:=trR ps) (by decide) hy (by omega)
      rw [e];exact .inr ⟨4,i+1+1,_,_,_,_,_,_,rfl,rfl,by decide,by omega,by omega,by omega,by (first | omega | (simp only [List.length_append,List.length_cons,List.length_nil] at *; omega) | (simp;done) | (simp;omega)),zb5 _,zci _⟩
    rcases hch with rfl | rfl
    ·simp only [decide_true,if_true];exact go 62 (by decide)
    ·simp only [Int.reduceEq,decide_false,Bool.false_eq_true,if_false];exact go 93 (by decide)
  by_cases h97:nowT c (i+1) < 97
  ·simp only [h97,decide_true,if_true];exact key true (fun h=>by cases h)
  ·simp only [h97,decide_false,Bool.false_eq_true,if_false];exact key _ (fun h=>⟨by omega,by have:=of_decide_eq_false h;omega⟩)
theorem zwD (ps:PS) {y:Int} (h0:0<=y) (h1:y<=255):nsP (ps++[(UInt8.ofNat y.toNat,false)])=nsP ps++[(y,(false,()))]/\nmR (ps++[(UInt8.ofNat y.toNat,false)])=nmR ps++bstr [y]/\trR (ps++[(UInt8.ofNat y.toNat,false)])=trR ps++[false]:=by
 unfold nsP nmR trR bstr;simp only [List.map_append,List.map_cons,List.map_nil];refine ⟨?_,trivial,trivial⟩
 have:((UInt8.ofNat y.toNat).toNat:Int)=y:=by
  rw [UInt8.toNat_ofNat'];omega
 rw [this]
section
variable {c nm:List UInt8} {i n s f a y ch:Int} {l:L5} {tr:List Bool}
theorem zpM (hf:f≠0) (hi:0<=i/\i<=4900) (hl:l.length<=900) (h1:nm.length<=10) (h2:tr.length=nm.length):∃ b x,zaY zal ch y c i s n nm f a tr l=some (b,c,i+1+1,s,n,nm,tr,l++[x],f,a):=by
 unfold zaY;rw [zao (zaT (by omega) (by omega)),zsm hf (by omega)]
 simp only [Option.bind_some];rw [zao (by unfold bstr;simp;omega),zao (zhI (by simp;omega)),zoX hf]
 simp only [Option.bind_some];rw [zao ⟨by omega,by omega,by simp;omega⟩,zao ⟨by omega,by simp;omega⟩,zhb (by omega)]
 refine ⟨l.length,(ch,nm.length,0,0,()),?_⟩
 simp only [Option.bind_some];rw [znf,Int.toNat_natCast,List.take_left' rfl,List.take_left' h2]
theorem zu6 (hf:f≠0) (hi:0<=i/\i<=4900) (hl:l.length<=900) (h1:nm.length<=10) (h2:tr.length=nm.length) (t:Bool):∃ b x,zaQ zal ch c i s n nm tr l f a y t=some (b,c,i+1+1,s,n,nm,tr,l++[x],f,a):=by
 unfold zaQ;rw [zgF,if_neg hf];simp only [Option.bind_some]
 split
 ·exact zpM hf hi hl h1 h2
 ·exact zpM hf hi hl h1 h2
end
theorem zwu {c:List UInt8} {m:Nat} {ch:Int} (hch:ch=109\/ch=110) (hP:∀ m' < m,Part c m') {i n s:Int} {ps:PS} {l:L5} (hp:Pre c i n s ps l) (hlt:i < c.length) (hm:((c.length:Int) - i).toNat<=m):
  Sm c i n s ps l (zcv zay ch c i s n (nsP ps)) (zcw zal ch c i s n (nmR ps) 0 0 (trR ps) l):=by
 obtain ⟨i0,i1,c1,n0,n1,s0,s1,q1,p1⟩:=hp;unfold zcv zcw;rw [zhy,zb5];have fi:fits (i+1):=zaT (by omega) (by omega)
 have fj:fits (i+1+1):=zaT (by omega) (by omega)
 have hy:=zvS (c:=c) (i:=i+1);by_cases h3:(ps.length:Int)=3
 ·simp only [h3,decide_true,if_true,zmA,zaR,zgF,Option.bind_some];exact .inr ⟨7,i,_,_,_,_,_,_,rfl,rfl,by decide,by omega,by omega,by omega,by omega,zb5 _,zci _⟩
 simp only [h3,decide_false,Bool.false_eq_true,if_false];unfold zcd;rw [zg7 ⟨n0,n1⟩,zf6 i0 (by omega) ⟨n0,by omega⟩]
 have hlm:(trR ps).length=(nmR ps).length:=by rw [zci,zb5]
 have hnm:(nmR ps).length<=10:=by rw [zb5];omega
 by_cases hbad:30 < n+1
 ·simp only [hbad,if_true,zaR,Option.bind_some];rw [zoj (by omega)]
  simp only [Option.bind_some];have key:∀ t,Sm c i n s ps l (some (.inr (7,i))) (zaQ zal ch c (i+1) s (n+1) (nmR ps) (trR ps) l 7 i (nowT c (i+1)) t):=fun t=>by
   obtain ⟨b,x,e⟩:=zu6 (c:=c) (nm:=nmR ps) (i:=i+1) (n:=n+1) (s:=s) (f:=7) (a:=i) (y:=nowT c (i+1)) (ch:=ch) (l:=l) (tr:=trR ps) (by decide) (by omega) (by omega) hnm hlm t
   rw [e];exact .inr ⟨7,i,_,_,_,_,_,_,rfl,rfl,by decide,by omega,by omega,by omega,by (first | omega | (simp only [List.length_append,List.length_cons,List.length_nil] at *; omega) | (simp;done) | (simp;omega)),zb5 _,zci _⟩
  split
  ·exact key _
  ·exact key _
 ·simp only [hbad,if_false,zbQ,Option.bind_some,zao fi];rw [ztf (by omega),zoj (by omega)]
  simp only [Option.bind_some];have key:∀ t,(t=false->88<=nowT c (i+1)/\nowT c (i+1)<=90)->Sm c i n s ps l (zbG zay ch c i s (n+1) (nsP ps) (nowT c (i+1)) t) (zaQ zal ch c (i+1) s (n+1) (nmR ps) (trR ps) l 0 0 (nowT c (i+1)) t):=by
   intro t ht;unfold zbG zaQ
   cases t with
   | true=>
    simp only [if_true,zmA,zaR,zgF,Option.bind_some];obtain ⟨b,x,e⟩:=zpM (c:=c) (nm:=nmR ps) (i:=i+1) (n:=n+1) (s:=s) (f:=4) (a:=i+1) (y:=nowT c (i+1)) (ch:=ch) (l:=l) (tr:=trR ps) (by decide) (by omega) (by omega) hnm hlm
    rw [e];exact .inr ⟨4,i+1,_,_,_,_,_,_,rfl,rfl,by decide,by omega,by omega,by omega,by (first | omega | (simp only [List.length_append,List.length_cons,List.length_nil] at *; omega) | (simp;done) | (simp;omega)),zb5 _,zci _⟩
   | false=>
    obtain ⟨h1,h2⟩:=ht rfl;have hlt1:i+1 < c.length:=zg6 (by omega)
    simp only [Bool.false_eq_true,if_false];unfold zce;rw [zao fj,zuA (by omega)]
    by_cases hw:nowT c (i+1+1)=46
    ·have hlt2:i+1+1 < c.length:=zg6 (by rw [hw];decide)
     unfold zaY;rw [zao fj,zsF (by omega)]
     simp only [hw,if_true,zbQ,Option.bind_some];obtain ⟨z1,z2,z3⟩:=zwD ps hy.1 hy.2;rw [zao (zhI (by rw [zhy];simp;omega)),zao (by unfold bstr;simp;omega),zao (zhI (by rw [hlm];simp;omega)),<- z1,<- z2,<- z3]
     rcases hP (((c.length:Int) - (i+1+1+1)).toNat) (by omega) (i+1+1+1) (n+1) s (ps++[(UInt8.ofNat (nowT c (i+1)).toNat,false)]) l ⟨by omega,by omega,c1,by omega,by omega,s0,s1,by omega,by simp;omega⟩ (Nat.le_refl _) with
      ⟨a1,b1,i',n',l',e1,e2,g1,g2,g3,g4,g5,g6,g7⟩ | ⟨cd,pl,b1,i',n',nm',tr',l',e1,e2,g1,g2,g3,g4,g5,g6,g7⟩
     ·simp only [e1,e2,zbQ,Option.bind_some];have k1:((nsP (ps++[(UInt8.ofNat (nowT c (i+1)).toNat,false)])).length:Int) - 1=ps.length:=by rw [zhy];simp
      have k2:(nsP (ps++[(UInt8.ofNat (nowT c (i+1)).toNat,false)])).take ps.length=nsP ps:=by rw [z1];exact List.take_left' (zhy ps)
      have k3:(nmR (ps++[(UInt8.ofNat (nowT c (i+1)).toNat,false)])).take ps.length=nmR ps:=by rw [z2];exact List.take_left' (zb5 ps)
      have k4:(trR (ps++[(UInt8.ofNat (nowT c (i+1)).toNat,false)])).take ps.length=trR ps:=by rw [z3];exact List.take_left' (zci ps)
      rw [k1,zao (zaT (by omega) (by omega)),zb5,zao ⟨by omega,by rw [zhy];simp;omega⟩,Int.toNat_natCast,k2,zhy,zao ⟨by omega,by omega,by rw [zb5];simp;omega⟩,zao ⟨by omega,by rw [zci];simp;omega⟩,k4,znf,Int.toNat_natCast,k3,zhb (by omega)]
      simp only [Option.bind_some];exact .inl ⟨_,_,_,_,_,rfl,rfl,by omega,g2,by omega,g4,by (first | omega | (simp only [List.length_append,List.length_cons,List.length_nil] at *; omega) | (simp;done) | (simp;omega)),g6.put _,Stn.put_fix (x:=(ch,(ps.length:Int),b1,0,())) hch (by rw [zci]) (by rw [zci];omega) (by rw [<- z3];exact g7)⟩
     ·simp only [e1,e2,zaR,Option.bind_some];have g6:nm'.length=ps.length+1:=by rw [g6];simp
      have g7:tr'.length=ps.length+1:=by rw [g7];simp
      rw [zb5,zao ⟨by omega,by omega,by omega⟩,zao ⟨by omega,by omega⟩,zhb (by omega),znf,Int.toNat_natCast]
      simp only [Option.bind_some];exact .inr ⟨cd,pl,_,_,_,_,_,_,rfl,rfl,g1,g2,g3,g4,by (first | omega | (simp only [List.length_append,List.length_cons,List.length_nil] at *; omega) | (simp;done) | (simp;omega)),by rw [List.length_take];omega,by rw [List.length_take];omega⟩
    ·simp only [hw,if_false,zaR];unfold zaY;rw [zao fj,zsF (by omega),if_neg hw]
     simp only [Option.bind_some];rw [zao (by unfold bstr;simp;omega),zao (zhI (by rw [hlm];simp;omega)),zoX (by decide)]
     simp only [Option.bind_some];rw [zao ⟨by omega,by omega,by simp;omega⟩,zao ⟨by omega,by simp;omega⟩,zhb (by omega)]
     simp only [Option.bind_some];rw [znf,Int.toNat_natCast,List.take_left' rfl,List.take_left' hlm];exact .inr ⟨4,i+1+1,_,_,_,_,_,_,rfl,rfl,by decide,by omega,by omega,by omega,by (first | omega | (simp only [List.length_append,List.length_cons,List.length_nil] at *; omega) | (simp;done) | (simp;omega)),zb5 _,zci _⟩
  by_cases h88:nowT c (i+1) < 88
  ·simp only [h88,decide_true,if_true];exact key true (fun h=>by cases h)
  ·simp only [h88,decide_false,Bool.false_eq_true,if_false];exact key _ (fun h=>⟨by omega,by have:=of_decide_eq_false h;omega⟩)
theorem Sm.wrap {c:List UInt8} {i n s:Int} {ps:PS} {l:L5} {o:OP} {r:OR} (h:Sm c i n s ps l o r):Sm c i n s ps l (pbind o (fun y=>some (.inl (y.1,y.2.1,y.2.2.1,y.2.2.2.1,y.2.2.2.2.1,y.2.2.2.2.2))) (fun p=>some (.inr (p.1,p.2))))
  (r.bind fun y=>some (y.1,y.2.1,y.2.2.1,y.2.2.2.1,y.2.2.2.2.1,y.2.2.2.2.2.1,y.2.2.2.2.2.2.1,y.2.2.2.2.2.2.2.1,y.2.2.2.2.2.2.2.2.1,y.2.2.2.2.2.2.2.2.2)):=by
 rcases h with ⟨a1,b1,i',n',l',e1,e2,g⟩ | ⟨cd,pl,b1,i',n',nm',tr',l',e1,e2,g⟩
 ·subst e1 e2;exact .inl ⟨a1,b1,i',n',l',rfl,rfl,g⟩
 ·subst e1 e2;exact .inr ⟨cd,pl,b1,i',n',nm',tr',l',rfl,rfl,g⟩
theorem zwB {c:List UInt8} {m:Nat} (hP:∀ m' < m,Part c m') (hW:∀ m' < m,zv1 c m'):Part c m:=by
 intro i n s ps l hp hm;have hp':=hp;obtain ⟨i0,i1,c1,n0,n1,s0,s1,q1,p1⟩:=hp;rw [zla,zgv];unfold zcs zbV;rw [ztf i0,r_ok];simp only [Option.bind_some,decide_true,Bool.not_true,Bool.false_eq_true,if_false];rw [zoj i0];simp only [Option.bind_some];have fi:fits (i+1):=zaT (by omega) (by omega)
 have es:s+1 - 1=s:=by omega
 have fs:fits s:=zaT (by omega) (by omega)
 have fs1:fits (s+1):=zaT (by omega) (by omega)
 have htr:(trR ps).length<=10:=by rw [zci];omega
 have j2:∀ t,(t=true->nowT c i=48\/nowT c i=49)->Sm c i n s ps l (zbH zay c i s n (nsP ps) (nowT c i) t) (zbM zal c i s n (nmR ps) 0 0 (trR ps) l (nowT c i) t):=by
  intro t ht;unfold zbH zbM
  cases t with
  | true=>
   have hk:=ht rfl;have hlt:i < c.length:=zg6 (by omega)
   simp only [if_true];rw [zg7 ⟨n0,n1⟩,zf6 i0 (by omega) ⟨n0,by omega⟩]
   by_cases hbad:30 < n+1
   ·simp only [hbad,if_true,zaR,Option.bind_some];rw [zhb (by omega)]
    simp only [Option.bind_some];exact .inr ⟨7,i,_,_,_,_,_,_,rfl,rfl,by decide,by omega,by omega,by omega,by (first | omega | (simp only [List.length_append,List.length_cons,List.length_nil] at *; omega) | (simp;done) | (simp;omega)),zb5 _,zci _⟩
   ·simp only [hbad,if_false,zbQ,Option.bind_some,zao fi];rw [zhb (by omega)]
    simp only [Option.bind_some];exact .inl ⟨_,_,_,_,_,rfl,rfl,by omega,by omega,by omega,by omega,by (first | omega | (simp only [List.length_append,List.length_cons,List.length_nil] at *; omega) | (simp;done) | (simp;omega)),Ext.snoc _ _,Stn.put_leaf (x:=(nowT c i,0,0,0,())) hk⟩
  | false=>
   simp only [Bool.false_eq_true,if_false];by_cases h33:nowT c i=33
   ·have hlt:i < c.length:=zg6 (by rw [h33];decide)
    simp only [h33,decide_true,if_true];rw [zg7 ⟨n0,n1⟩,zf6 i0 (by omega) ⟨n0,by omega⟩]
    by_cases hbad:30 < n+1
    ·simp only [hbad,if_true,zaR,Option.bind_some];rw [zq4 htr];simp only [Option.bind_some];rw [zoX (by decide)]
     simp only [Option.bind_some];rw [zq4 (by rw [List.length_map];exact htr)]
     simp only [Option.bind_some];rw [zhb (by omega)]
     simp only [Option.bind_some];exact .inr ⟨7,i,_,_,_,_,_,_,rfl,rfl,by decide,by omega,by omega,by omega,by (first | omega | (simp only [List.length_append,List.length_cons,List.length_nil] at *; omega) | (simp;done) | (simp;omega)),zb5 _,by rw [List.length_map,List.length_map];exact zci _⟩
    ·simp only [hbad,if_false,zbQ,Option.bind_some,zao fi];rw [zvT (by omega),zq4 htr]
     simp only [Option.bind_some];rw [<- zr7,<- zuu ps];rcases hP (((c.length:Int) - (i+1)).toNat) (by omega) (i+1) (n+1) s (trn ps) l ⟨by omega,by omega,c1,by omega,by omega,s0,s1,by omega,by rw [zqf];exact p1⟩ (Nat.le_refl _) with
      ⟨a1,b1,i',n',l',e1,e2,g1,g2,g3,g4,g5,g6,g7⟩ | ⟨cd,pl,b1,i',n',nm',tr',l',e1,e2,g1,g2,g3,g4,g5,g6,g7⟩
     ·simp only [e1,e2,zbQ,Option.bind_some];rw [zvT (by rw [zqf];omega),zq4 (by rw [zci,zqf];omega)]
      simp only [Option.bind_some];rw [zhb (by omega),<- zr7,zxi,zuu]
      simp only [Option.bind_some];exact .inl ⟨_,_,_,_,_,rfl,rfl,by omega,g2,by omega,g4,by (first | omega | (simp only [List.length_append,List.length_cons,List.length_nil] at *; omega) | (simp;done) | (simp;omega)),g6.put _,Stn.put_no (x:=(33,0,b1,0,())) rfl (by rw [<- zr7];exact g7)⟩
     ·simp only [e1,e2,zaR,Option.bind_some];rw [zqf] at g6 g7;rw [zq4 (by omega)]
      simp only [Option.bind_some];rw [zhb (by omega)]
      simp only [Option.bind_some];exact .inr ⟨cd,pl,_,_,_,_,_,_,rfl,rfl,g1,g2,g3,g4,by (first | omega | (simp only [List.length_append,List.length_cons,List.length_nil] at *; omega) | (simp;done) | (simp;omega)),g6,by rw [List.length_map];exact g7⟩
   ·simp only [h33,decide_false,Bool.false_eq_true,if_false];have j13:∀ t,(t=true->nowT c i=60\/nowT c i=91)->Sm c i n s ps l (zbs zay c i s n (nsP ps) (nowT c i) t) (zbx zal c i s n (nmR ps) 0 0 (trR ps) l (nowT c i) t):=by
     intro t ht;unfold zbs zbx
     cases t with
     | true=>
      have hk:=ht rfl;simp only [if_true];exact (zuV hk hP hp' (zg6 (by omega)) hm).wrap
     | false=>
      simp only [Bool.false_eq_true,if_false];have j15:∀ t,(t=true->nowT c i=109\/nowT c i=110)->Sm c i n s ps l (zbt zay c i s n (nsP ps) (nowT c i) t) (zby zal c i s n (nmR ps) 0 0 (trR ps) l (nowT c i) t):=by
       intro t ht;unfold zbt zby
       cases t with
       | true=>
        have hk:=ht rfl;simp only [if_true];exact (zwu hk hP hp' (zg6 (by omega)) hm).wrap
       | false=>
        simp only [Bool.false_eq_true,if_false];have j17:∀ t,(t=true->nowT c i≠0)->Sm c i n s ps l (zbu zay c i s n (nsP ps) (nowT c i) t) (zaD zal c i s n (nmR ps) 0 0 (trR ps) l (nowT c i) t):=by
         intro t ht;unfold zbu zaD
         cases t with
         | true=>
          simp only [if_true];exact (zvo hp' (zg6 (ht rfl))).wrap
         | false=>
          simp only [Bool.false_eq_true,if_false];by_cases h40:nowT c i=40
          ·have hlt:i < c.length:=zg6 (by rw [h40];decide)
           simp only [h40,not_true_eq_false,decide_false,Bool.false_eq_true,if_false];by_cases hs:s=40
           ·simp only [hs,decide_true,if_true,zmA,zaR,zgF,Option.bind_some];exact .inr ⟨7,i,_,_,_,_,_,_,rfl,rfl,by decide,by omega,by omega,by omega,by omega,zb5 _,zci _⟩
           ·simp only [hs,decide_false,Bool.false_eq_true,if_false];unfold zbv;rw [zao fs1,zao fi,zao fs1,zao fi];rcases hW (((c.length:Int) - (i+1)).toNat) (by omega) (i+1) n (s+1) ps l ⟨by omega,by omega,c1,by omega,by omega,by omega,by omega,by omega,p1⟩ (Nat.le_refl _) with
             ⟨a1,b1,i',n',l',e1,e2,g1,g2,g3,g4,g5,g6,g7⟩ | ⟨cd,pl,b1,i',n',nm',tr',l',e1,e2,g1,g2,g3,g4,g5,g6,g7⟩
            ·simp only [e1,e2,zbQ,Option.bind_some];rw [zuA (by omega),zsF (by omega)]
             by_cases h41:nowT c i'=41
             ·have hlt3:i' < c.length:=zg6 (by rw [h41];decide)
              simp only [h41,if_true,zbQ,Option.bind_some,es,zao fs];exact .inl ⟨_,_,_,_,_,rfl,rfl,by omega,by omega,by omega,g4,by omega,g6,g7⟩
             ·simp only [h41,if_false,zaR,Option.bind_some,es,zao fs];exact .inr ⟨4,i',_,_,_,_,_,_,rfl,rfl,by decide,by omega,by omega,by omega,by omega,zb5 _,zci _⟩
            ·simp only [e1,e2,zaR,Option.bind_some];rw [zsm g1 (by omega)]
             simp only [Option.bind_some,es,zao fs];exact .inr ⟨cd,pl,_,_,_,_,_,_,rfl,rfl,g1,by omega,by omega,g4,by omega,g6,g7⟩
          ·simp only [h40,not_false_eq_true,decide_true,if_true,zmA,zaR,zgF,Option.bind_some];exact .inr ⟨4,i,_,_,_,_,_,_,rfl,rfl,by decide,by omega,by omega,by omega,by omega,zb5 _,zci _⟩
        have hJ:=fun t=>j17 t
        by_cases a1:88<=nowT c i
        ·by_cases a2:nowT c i<=90
         ·have h:=j17 true (fun _=>by omega)
          have hR:(if decide (nowT c i=88)=true then zaD zal c i s n (nmR ps) 0 0 (trR ps) l (nowT c i) (decide (nowT c i=88)) else if decide (nowT c i=89)=true then zaD zal c i s n (nmR ps) 0 0 (trR ps) l (nowT c i) (decide (nowT c i=89)) else zaD zal c i s n (nmR ps) 0 0 (trR ps) l (nowT c i) (decide (nowT c i=90)))=zaD zal c i s n (nmR ps) 0 0 (trR ps) l (nowT c i) true:=by
           by_cases b1:nowT c i=88
           ·simp [b1]
           ·by_cases b2:nowT c i=89
            ·simp [b2]
            ·have b3:nowT c i=90:=by omega
             simp [b3]
          rw [hR];simpa only [a1,a2,decide_true,if_true] using h
         ·have h:=j17 false (fun h=>by cases h)
          have b1 : ¬ nowT c i=88:=by omega
          have b2 : ¬ nowT c i=89:=by omega
          have b3 : ¬ nowT c i=90:=by omega
          simpa only [a1,a2,b1,b2,b3,decide_true,decide_false,Bool.false_eq_true,if_true,if_false] using h
        ·have h:=j17 false (fun h=>by cases h)
         have b1 : ¬ nowT c i=88:=by omega
         have b2 : ¬ nowT c i=89:=by omega
         have b3 : ¬ nowT c i=90:=by omega
         simpa only [a1,b1,b2,b3,decide_false,Bool.false_eq_true,if_false] using h
      by_cases h109:nowT c i=109
      ·have:=j15 true (fun _ => .inl h109)
       simpa [h109] using this
      ·have:=j15 (decide (nowT c i=110)) (fun h => .inr (of_decide_eq_true h))
       simpa [h109] using this
    by_cases h60:nowT c i=60
    ·have:=j13 true (fun _ => .inl h60)
     simpa [h60] using this
    ·have:=j13 (decide (nowT c i=91)) (fun h => .inr (of_decide_eq_true h))
     simpa [h60] using this
 by_cases h48:nowT c i=48
 ·have:=j2 true (fun _ => .inl h48)
  simpa [h48] using this
 ·have:=j2 (decide (nowT c i=49)) (fun h => .inr (of_decide_eq_true h))
  simpa [h48] using this
theorem zxo {c:List UInt8}:∀ m:Nat,Part c m/\zv1 c m:=by
 intro m
 induction m using Nat.strongRecOn with
 | ind m ih=>
  have hP:Part c m:=zwB (fun m' h=>(ih m' h).1) (fun m' h=>(ih m' h).2)
  have hP':∀ m' ≤ m,Part c m':=fun m' h=>by
   rcases Nat.lt_or_eq_of_le h with h | rfl
   ·exact (ih m' h).1
   ·exact hP
  have hT:∀ m' ≤ m,Term c m':=fun m' h=>zxg fun m'' h'=>hP' m'' (Nat.le_trans h' h)
  exact ⟨hP,zvD hT⟩
theorem zo6 (c:List UInt8):(∃ a b l,ziO c=some (a,(0,(0,())))/\zjh c=some (b,(0,(0,())),l)/\(l.length:Int)<=30/\Stn l [] a b)
  \/(∃ a cd pl,ziO c=some (a,(cd,(pl,())))/\zjh c=some (0,(cd,(pl,())),[])/\cd≠0):=by
 unfold ziO zjh;by_cases hc:(4000:Int) < c.length
 ·simp only [hc,decide_true,if_true,Option.bind_some];exact .inr ⟨_,1,0,rfl,rfl,by decide⟩
 ·simp only [hc,decide_false,Bool.false_eq_true,if_false];unfold zgo zgB;rcases (zxo (c:=c) (((c.length:Int) - 0).toNat)).2 0 0 0 [] [] ⟨by omega,by omega,by omega,by omega,by omega,by omega,by omega,by simp,by simp⟩ (Nat.le_refl _) with
   ⟨a1,b1,i',n',l',e1,e2,g1,g2,g3,g4,g5,g6,g7⟩ | ⟨cd,pl,b1,i',n',nm',tr',l',e1,e2,g1,g2,g3,g4,g5,g6,g7⟩
  ·have e1:za4 zay c 0 0 0 []=_:=e1;have e2:za5 zal c 0 0 0 [] 0 0 [] []=_:=e2;simp only [e1,e2,zbQ,Option.bind_some];by_cases hi:i' < (c.length:Int)
   ·simp only [hi,decide_true,if_true,zmA,zaR,zgF,Option.bind_some,Int.reduceEq,not_false_eq_true];exact .inr ⟨_,4,i',rfl,rfl,by decide⟩
   ·simp only [hi,decide_false,Bool.false_eq_true,if_false,not_true_eq_false,Option.bind_some];exact .inl ⟨_,_,_,rfl,rfl,by simp at g5;omega,g7⟩
  ·have e1:za4 zay c 0 0 0 []=_:=e1;have e2:za5 zal c 0 0 0 [] 0 0 [] []=_:=e2;simp only [e1,e2,zaR,Option.bind_some];by_cases hi:i' < (c.length:Int)
   ·simp only [hi,decide_true,if_true,zgF,g1,if_false,not_false_eq_true,Option.bind_some];exact .inr ⟨_,cd,pl,rfl,rfl,g1⟩
   ·simp only [hi,decide_false,Bool.false_eq_true,if_false,g1,not_false_eq_true,decide_true,if_true,Option.bind_some];exact .inr ⟨_,cd,pl,rfl,rfl,g1⟩
def zkJ (o:Option Bool) (P:Prop):Prop:=∃ b,o=some b/\(b=true↔P)
theorem zkJ.of {b:Bool} {P:Prop} (h:b=true↔P):zkJ (some b) P:=⟨b,rfl,h⟩
theorem zkJ.dec {P Q:Prop} [Decidable P] (h:P↔Q):zkJ (some (decide P)) Q:=⟨_,rfl,by simpa using h⟩
section
variable {α C:Type} [Inhabited α]
theorem zu5 {l:List α} {P:α->Prop}:(∃ x∈l,P x)↔∃ i:Int,0<=i/\i < l.length/\P (ix l i):=by
 constructor
 ·rintro ⟨x,hx,hp⟩;obtain ⟨i,hi,rfl⟩:=List.mem_iff_getElem.1 hx;refine ⟨i,by omega,by omega,?_⟩
  rwa [zmV (by omega) (by omega)]
 ·rintro ⟨i,h0,h1,hp⟩;exact ⟨_,zqP h0 h1,hp⟩
theorem zs9 {s:List α} {f:α->Option Bool} {L:Int->Option Int} {P:α->Prop} (hs:s.length<=4611686018427387904)
  (hL:∀ t,L t=if decide (t < (s.length:Int))=true then G (0<=t/\t < (s.length:Int)) ((f (ix s t)).bind fun y=>if y=true then some t else G (fits (t+1)) (L (t+1))) else some (-1))
  (hf:∀ x∈s,zkJ (f x) (P x)):∀ (n:Nat) (t:Int),0<=t->t<=s.length->(s.length - t).toNat=n->
   ∃ i,L t=some i/\((i = -1/\∀ j:Int,t<=j->j < s.length -> ¬ P (ix s j))\/(t<=i/\i < s.length/\P (ix s i)/\∀ j:Int,t<=j->j < i -> ¬ P (ix s j))):=by
 intro n
 induction n with
 | zero=>
  intro t h0 h1 hn;refine ⟨-1,?_,.inl ⟨rfl,fun j a b=>by omega⟩⟩
  rw [hL,if_neg (by simp;omega)]
 | succ n ih=>
  intro t h0 h1 hn;rw [hL,if_pos (by simp;omega),zao (by omega)]
  obtain ⟨b,hb,hbp⟩:=hf _ (zqP h0 (by omega:t < s.length))
  rw [hb]
  cases b with
  | true=>exact ⟨t,rfl,.inr ⟨by omega,by omega,hbp.1 rfl,fun j a b=>by omega⟩⟩
  | false=>
   have hnp : ¬ P (ix s t):=fun hp=>by simpa using hbp.2 hp
   obtain ⟨i,hi,hc⟩:=ih (t+1) (by omega) (by omega) (by omega)
   refine ⟨i,?_,?_⟩
   ·refine (if_neg (by simp):(if false=true then some t else G (fits (t+1)) (L (t+1)))=_).trans ?_
    rw [zao (by unfold fits;omega),hi]
   ·rcases hc with ⟨h2,h3⟩ | ⟨h2,h3,h4,h5⟩
    ·refine .inl ⟨h2,fun j a b => ?_⟩
     by_cases e:j=t
     ·rw [e];exact hnp
     ·exact h3 j (by omega) b
    ·refine .inr ⟨by omega,h3,h4,fun j a b => ?_⟩
     by_cases e:j=t
     ·rw [e];exact hnp
     ·exact h5 j (by omega) b
theorem zuT {s:List α} {f:α->Option Bool} {L:Int->Option Int} {P:α->Prop}
  (hL:∀ t,L t=if decide (t < (s.length:Int))=true then G (0<=t/\t < (s.length:Int)) ((f (ix s t)).bind fun y=>if y=true then some t else G (fits (t+1)) (L (t+1))) else some (-1))
  (hs:s.length<=4611686018427387904) (hf:∀ x∈s,zkJ (f x) (P x)):zkJ ((L 0).bind fun y=>some (decide ((0:Int)<=y))) (∃ x∈s,P x):=by
 obtain ⟨i,hi,hc⟩:=zs9 hs hL hf _ 0 (by omega) (by omega) rfl
 rw [hi];refine ⟨decide (0<=i),rfl,?_⟩
 rw [decide_eq_true_iff,zu5];rcases hc with ⟨h2,h3⟩ | ⟨h2,h3,h4,h5⟩
 ·constructor
  ·intro h;omega
  ·rintro ⟨j,h0,h1,hp⟩;exact absurd hp (h3 j h0 h1)
 ·exact ⟨fun _=>⟨i,by omega,h3,h4⟩,fun _=>by omega⟩
theorem znH {s:List α} {c:C} {f:α->C->Option (Bool×C)} {L:Int->C->Option (Int×C)} {P:α->Prop}
  (hL:∀ t c,L t c=if decide (t < (s.length:Int))=true then G (0<=t/\t < (s.length:Int)) ((f (ix s t) c).bind fun y=>if y.1=true then some (t,y.2) else G (fits (t+1)) (L (t+1) y.2)) else some (-1,c))
  (hs:s.length<=4611686018427387904) (hf:∀ x∈s,∃ b,f x c=some (b,c)/\(b=true↔P x)):∃ b,((L 0 c).bind fun y=>some (decide ((0:Int)<=y.1),y.2))=some (b,c)/\(b=true↔∃ x∈s,P x):=by
 have key:∀ (n:Nat) (t:Int),0<=t->t<=s.length->(s.length - t).toNat=n->
   ∃ i,L t c=some (i,c)/\((i = -1/\∀ j:Int,t<=j->j < s.length -> ¬ P (ix s j))\/(t<=i/\i < s.length/\P (ix s i))):=by
  intro n
  induction n with
  | zero=>
   intro t h0 h1 hn;refine ⟨-1,?_,.inl ⟨rfl,fun j a b=>by omega⟩⟩
   rw [hL,if_neg (by simp;omega)]
  | succ n ih=>
   intro t h0 h1 hn;rw [hL,if_pos (by simp;omega),zao (by omega)]
   obtain ⟨b,hb,hbp⟩:=hf _ (zqP h0 (by omega:t < s.length))
   rw [hb]
   cases b with
   | true=>exact ⟨t,rfl,.inr ⟨by omega,by omega,hbp.1 rfl⟩⟩
   | false=>
    have hnp : ¬ P (ix s t):=fun hp=>by simpa using hbp.2 hp
    obtain ⟨i,hi,hc⟩:=ih (t+1) (by omega) (by omega) (by omega)
    refine ⟨i,?_,?_⟩
    ·refine (if_neg (by simp):(if false=true then some (t,c) else G (fits (t+1)) (L (t+1) c))=_).trans ?_
     rw [zao (by unfold fits;omega),hi]
    ·rcases hc with ⟨h2,h3⟩ | ⟨h2,h3,h4⟩
     ·refine .inl ⟨h2,fun j a b => ?_⟩
      by_cases e:j=t
      ·rw [e];exact hnp
      ·exact h3 j (by omega) b
     ·exact .inr ⟨by omega,h3,h4⟩
 obtain ⟨i,hi,hc⟩:=key _ 0 (by omega) (by omega) rfl
 rw [hi];refine ⟨decide (0<=i),rfl,?_⟩
 rw [decide_eq_true_iff,zu5];rcases hc with ⟨h2,h3⟩ | ⟨h2,h3,h4⟩
 ·constructor
  ·intro h;omega
  ·rintro ⟨j,h0,h1,hp⟩;exact absurd hp (h3 j h0 h1)
 ·exact ⟨fun _=>⟨i,by omega,h3,h4⟩,fun _=>by omega⟩
end
theorem zoq {R:Type} {len:Int} {L:Int->Option R} {bad:Int->Prop} {x:Option R} {lo:Int} (h0:lo<=len)
  (hs:∀ t,lo<=t->t < len->(bad t->L t=x)/\(¬ bad t->L t=L (t+1))) (hf:(∀ t,lo<=t->t < len -> ¬ bad t)->L len=x):L lo=x:=by
 have key:∀ (n:Nat) (t:Int),lo<=t->t<=len->(len - t).toNat=n->(∀ j,lo<=j->j < t -> ¬ bad j)->L t=x:=by
  intro n
  induction n with
  | zero=>
   intro t h1 h2 hn h;obtain rfl:t=len:=by omega
   exact hf h
  | succ n ih=>
   intro t h1 h2 hn h;by_cases hb:bad t
   ·exact (hs t h1 (by omega)).1 hb
   ·rw [(hs t h1 (by omega)).2 hb]
    refine ih (t+1) (by omega) (by omega) (by omega) fun j a b => ?_
    by_cases e:j=t
    ·rw [e];exact hb
    ·exact h j a (by omega)
 exact key _ lo (Int.le_refl _) h0 rfl (fun j a b=>by omega)
theorem zwk {R S:Type} {len:Int} {L:Int->S->Option R} {f:Int->S->S} {lo:Int} {I:Int->S->Prop} {s:S} (h0:lo<=len) (hI:I lo s)
  (hs:∀ t s,lo<=t->t < len->I t s->L t s=L (t+1) (f t s)/\I (t+1) (f t s)):∃ s',I len s'/\L lo s=L len s':=by
 have key:∀ (n:Nat) (t:Int) (s:S),lo<=t->t<=len->(len - t).toNat=n->I t s->∃ s',I len s'/\L t s=L len s':=by
  intro n
  induction n with
  | zero=>
   intro t s h1 h2 hn h;obtain rfl:t=len:=by omega
   exact ⟨s,h,rfl⟩
  | succ n ih=>
   intro t s h1 h2 hn h;obtain ⟨e,h3⟩:=hs t s h1 (by omega) h
   obtain ⟨s',h4,h5⟩:=ih (t+1) _ (by omega) (by omega) (by omega) h3
   exact ⟨s',h4,e.trans h5⟩
 exact key _ lo s (Int.le_refl _) h0 rfl hI
abbrev Arc:=Int×Int×Int×Unit
abbrev Gr:=Int×Int×(List Arc)×Unit
def SLt (x y:Arc):Prop:=x.1 < y.1\/x.1=y.1/\(x.2.1 < y.2.1\/x.2.1=y.2.1/\x.2.2.1 < y.2.2.1)
def GLet (g:Gr):Prop:=g.1 < 1\/4 < g.1
def zqi (g:Gr):Prop:=g.2.1 < 1\/12 < g.2.1\/60 < g.2.2.1.length
def ABad (g:Gr) (x:Arc):Prop:=x.1 < 0\/g.2.1<=x.1\/x.2.2.1 < 0\/g.2.1<=x.2.2.1\/x.2.1 < 0\/g.1<=x.2.1
def GBad (g:Gr):Prop:=∃ x∈g.2.2.1,ABad g x
def GOrd (g:Gr):Prop:=∃ i:Int,1<=i/\i < g.2.2.1.length /\ ¬ SLt (ix g.2.2.1 (i - 1)) (ix g.2.2.1 i)
open Classical in
noncomputable def grE (g:Gr):Int:=if GLet g then 2 else if zqi g then 1 else if GBad g then 2 else if GOrd g then 3 else 0
theorem chk1 (p:Int) (g:Gr):zkJ (zeL p g) (p < 0\/g.2.1<=p):=by
 unfold zeL;by_cases h:p < 0
 ·rw [if_pos (decide_eq_true h)];exact zkJ.of (by simp [h])
 ·rw [if_neg (by simpa using h)];exact zkJ.dec (by omega)
theorem chk2 (x:Arc) (g:Gr):∃ b,zeM x g g=some (b,g)/\(b=true↔ABad g x):=by
 unfold zeM ABad;obtain ⟨b,e,hb⟩:=chk1 x.1 g;obtain ⟨c,e2,hc⟩:=chk1 x.2.2.1 g;rw [e,e2];simp only [Option.bind_some]
 cases b with
 | true=>exact ⟨true,rfl,by have:=hb.1 rfl;simp;omega⟩
 | false=>
  have hb : ¬ (x.1 < 0\/g.2.1<=x.1):=fun h=>by cases hb.2 h
  cases c with
  | true=>exact ⟨true,rfl,by have:=hc.1 rfl;simp;omega⟩
  | false=>
   have hc : ¬ (x.2.2.1 < 0\/g.2.1<=x.2.2.1):=fun h=>by cases hc.2 h
   by_cases h:x.2.1 < 0
   ·exact ⟨true,by simp [h],by simp;omega⟩
   ·exact ⟨decide (g.1<=x.2.1),by simp [h],by rw [decide_eq_true_iff];omega⟩
theorem zpp (x y:Int):zek x y=some (if x < y then -1 else if y < x then 1 else 0):=by
 unfold zek zkN;simp only [Option.bind_some,not_true,decide_false,Bool.false_eq_true,if_false,decide_eq_true_eq];by_cases h:x < y
 ·simp [h]
 ·by_cases h2:y < x<;>simp [h,h2]
theorem zwz (a b c:Int):zsh [a,b,c]=some (if a≠0 then a else if b≠0 then b else c):=by
 unfold zsh;rw [zgg];unfold zcR;have e0:ix [a,b,c] 0=a:=rfl;have e1:ix [a,b,c] (0+1)=b:=rfl;have e2:ix [a,b,c] (0+1+1)=c:=rfl;rw [if_pos (by simp),zao (by simp),e0]
 by_cases h:a=0
 ·rw [if_neg (by simp [h]),zao (by decide),zgg];unfold zcR
  rw [if_pos (by simp),zao (by simp),e1]
  by_cases h2:b=0
  ·rw [if_neg (by simp [h2]),zao (by decide),zgg];unfold zcR
   rw [if_pos (by simp),zao (by simp),e2]
   by_cases h3:c=0
   ·rw [if_neg (by simp [h3]),zao (by decide),zgg];unfold zcR
    rw [if_neg (by simp)]
    simp [h,h2,h3]
   ·rw [if_pos (by simp [h3])];simp [h,h2]
  ·rw [if_pos (by simp [h2])];simp [h,h2]
 ·rw [if_pos (by simp [h])];simp [h]
theorem zo1 (x y:Arc):∃ o,zj0 x y=some o/\(0<=o ↔ ¬ SLt x y):=by
 unfold zj0 SLt;rw [zpp,zpp,zpp];simp only [Option.bind_some];rw [zwz];refine ⟨_,rfl,?_⟩
 repeat' split
 all_goals omega
theorem znt (x y:Arc):zkJ (zlq x y) (SLt x y):=by
 unfold zlq SLt;by_cases h:x.1=y.1
 ·rw [if_neg (by simp [h])]
  by_cases h2:x.2.1=y.2.1
  ·rw [if_neg (by simp [h2])];exact zkJ.dec (by omega)
  ·rw [if_pos (by simp [h2])];exact zkJ.dec (by omega)
 ·rw [if_pos (by simp [h])];exact zkJ.dec (by omega)
section
variable {g:Gr}
theorem zop:zjZ g=some (grE g):=by
 unfold zjZ grE;by_cases c1:GLet g
 ·rw [if_pos c1];unfold GLet at c1
  (try dsimp only);(repeat' first | (with_reducible refine G_to ?_ ?_;focus (first | omega | (unfold fits;omega) | (unfold room;(try simp only [List.length_append,List.length_cons,List.length_nil]);omega))) | (with_reducible refine both_to ?_ ?_) | (with_reducible refine zen ?_) | (with_reducible refine zem ?_) | (with_reducible refine zg3 (fun _ => ?_) (fun _ => ?_)))<;>try (exfalso;omega)
  all_goals rfl
 rw [if_neg c1];unfold GLet at c1;by_cases c2:zqi g
 ·rw [if_pos c2];unfold zqi at c2
  (try dsimp only);(repeat' first | (with_reducible refine G_to ?_ ?_;focus (first | omega | (unfold fits;omega) | (unfold room;(try simp only [List.length_append,List.length_cons,List.length_nil]);omega))) | (with_reducible refine both_to ?_ ?_) | (with_reducible refine zen ?_) | (with_reducible refine zem ?_) | (with_reducible refine zg3 (fun _ => ?_) (fun _ => ?_)))<;>try (exfalso;omega)
  all_goals rfl
 rw [if_neg c2];unfold zqi at c2
 (try dsimp only);(repeat' first | (with_reducible refine G_to ?_ ?_;focus (first | omega | (unfold fits;omega) | (unfold room;(try simp only [List.length_append,List.length_cons,List.length_nil]);omega))) | (with_reducible refine both_to ?_ ?_) | (with_reducible refine zen ?_) | (with_reducible refine zem ?_) | (with_reducible refine zg3 (fun _ => ?_) (fun _ => ?_)))<;>try (exfalso;omega)
 obtain ⟨b,hb,hb2⟩:∃ b,zdI g.2.2.1 g g=some (b,g)/\(b=true↔GBad g):=
  znH (f:=fun x c=>zeM x g c) (zit g.2.2.1 g) (by omega) (fun x _=>chk2 x g)
 refine zgN hb ?_
 refine zwq (fun h=>by rw [if_pos (hb2.1 h)]) (fun h2 => ?_)
 have c3 : ¬ GBad g:=fun h=>by rw [hb2.2 h] at h2;cases h2
 rw [if_neg c3];refine zoq (len:=(g.2.2.1.length:Int)) (bad:=fun i=>1<=i /\ ¬ SLt (ix g.2.2.1 (i - 1)) (ix g.2.2.1 i)) (by omega) (fun i h0 h1=>⟨fun hb => ?_,fun hb => ?_⟩) (fun hh => ?_)
 ·rw [if_pos (show GOrd g from ⟨i,hb.1,h1,hb.2⟩)];rw [zeV];unfold zb6
  (try dsimp only);(repeat' first | (with_reducible refine G_to ?_ ?_;focus (first | omega | (unfold fits;omega) | (unfold room;(try simp only [List.length_append,List.length_cons,List.length_nil]);omega))) | (with_reducible refine both_to ?_ ?_) | (with_reducible refine zen ?_) | (with_reducible refine zem ?_) | (with_reducible refine zg3 (fun _ => ?_) (fun _ => ?_)))<;>try (exfalso;omega)
  obtain ⟨o,e,ho⟩:=zo1 (ix g.2.2.1 (i - 1)) (ix g.2.2.1 i);refine zgN e ?_
  rw [if_pos (decide_eq_true (ho.2 hb.2))]
 ·conv=>lhs;rw [zeV];unfold zb6
  by_cases h:0 < i
  ·(try dsimp only);(repeat' first | (with_reducible refine G_to ?_ ?_;focus (first | omega | (unfold fits;omega) | (unfold room;(try simp only [List.length_append,List.length_cons,List.length_nil]);omega))) | (with_reducible refine both_to ?_ ?_) | (with_reducible refine zen ?_) | (with_reducible refine zem ?_) | (with_reducible refine zg3 (fun _ => ?_) (fun _ => ?_)))<;>try (exfalso;omega)
   obtain ⟨o,e,ho⟩:=zo1 (ix g.2.2.1 (i - 1)) (ix g.2.2.1 i);refine zgN e ?_
   rw [if_neg (by rw [decide_eq_true_iff,ho];exact fun h=>hb ⟨by omega,h⟩),zao (by unfold fits;omega)]
  ·(try dsimp only);(repeat' first | (with_reducible refine G_to ?_ ?_;focus (first | omega | (unfold fits;omega) | (unfold room;(try simp only [List.length_append,List.length_cons,List.length_nil]);omega))) | (with_reducible refine both_to ?_ ?_) | (with_reducible refine zen ?_) | (with_reducible refine zem ?_) | (with_reducible refine zg3 (fun _ => ?_) (fun _ => ?_)))<;>try (exfalso;omega)
   all_goals rfl
 ·rw [if_neg (show ¬ GOrd g from fun ⟨i,i0,i1,i2⟩=>hh i (by omega) i1 ⟨i0,i2⟩)]
  rw [zeV];unfold zb6;rw [if_neg (by simp)]
theorem zoL:zlv g=some (grE g):=by
 unfold zlv grE;by_cases c1:GLet g
 ·rw [if_pos c1];unfold GLet at c1
  (try dsimp only);(repeat' first | (with_reducible refine G_to ?_ ?_;focus (first | omega | (unfold fits;omega) | (unfold room;(try simp only [List.length_append,List.length_cons,List.length_nil]);omega))) | (with_reducible refine both_to ?_ ?_) | (with_reducible refine zen ?_) | (with_reducible refine zem ?_) | (with_reducible refine zg3 (fun _ => ?_) (fun _ => ?_)))<;>try (exfalso;omega)
  all_goals rfl
 rw [if_neg c1];unfold GLet at c1;by_cases c2:zqi g
 ·rw [if_pos c2];unfold zqi at c2
  (try dsimp only);(repeat' first | (with_reducible refine G_to ?_ ?_;focus (first | omega | (unfold fits;omega) | (unfold room;(try simp only [List.length_append,List.length_cons,List.length_nil]);omega))) | (with_reducible refine both_to ?_ ?_) | (with_reducible refine zen ?_) | (with_reducible refine zem ?_) | (with_reducible refine zg3 (fun _ => ?_) (fun _ => ?_)))<;>try (exfalso;omega)
  all_goals rfl
 rw [if_neg c2];unfold zqi at c2
 (try dsimp only);(repeat' first | (with_reducible refine G_to ?_ ?_;focus (first | omega | (unfold fits;omega) | (unfold room;(try simp only [List.length_append,List.length_cons,List.length_nil]);omega))) | (with_reducible refine both_to ?_ ?_) | (with_reducible refine zen ?_) | (with_reducible refine zem ?_) | (with_reducible refine zg3 (fun _ => ?_) (fun _ => ?_)))<;>try (exfalso;omega)
 refine zoq (len:=(g.2.2.1.length:Int)) (bad:=fun i=>ABad g (ix g.2.2.1 i)) (by omega) (fun i h0 h1=>⟨fun hb => ?_,fun hb => ?_⟩) (fun hh => ?_)
 ·rw [if_pos (show GBad g from zu5.2 ⟨i,h0,h1,hb⟩)];rw [zfS];unfold zcn;unfold ABad at hb
  (try dsimp only);(repeat' first | (with_reducible refine G_to ?_ ?_;focus (first | omega | (unfold fits;omega) | (unfold room;(try simp only [List.length_append,List.length_cons,List.length_nil]);omega))) | (with_reducible refine both_to ?_ ?_) | (with_reducible refine zen ?_) | (with_reducible refine zem ?_) | (with_reducible refine zg3 (fun _ => ?_) (fun _ => ?_)))<;>try (exfalso;omega)
  all_goals rfl
 ·conv=>lhs;rw [zfS];unfold zcn
  unfold ABad at hb
  (try dsimp only);(repeat' first | (with_reducible refine G_to ?_ ?_;focus (first | omega | (unfold fits;omega) | (unfold room;(try simp only [List.length_append,List.length_cons,List.length_nil]);omega))) | (with_reducible refine both_to ?_ ?_) | (with_reducible refine zen ?_) | (with_reducible refine zem ?_) | (with_reducible refine zg3 (fun _ => ?_) (fun _ => ?_)))<;>try (exfalso;omega)
  all_goals rfl
 rw [if_neg (show ¬ GBad g from fun h=>by obtain ⟨i,i0,i1,i2⟩:=zu5.1 h;exact hh i i0 i1 i2)]
 rw [zfS];unfold zcn;rw [if_neg (by simp)]
 by_cases c4:g.2.2.1.length=0
 ·rw [if_neg (show ¬ GOrd g from fun ⟨i,i0,i1,i2⟩=>by omega)]
  rw [zdz];unfold zbK;rw [if_neg (by simp;omega)]
 refine zoq (len:=(g.2.2.1.length:Int)) (bad:=fun i => ¬ SLt (ix g.2.2.1 (i - 1)) (ix g.2.2.1 i)) (by omega) (fun i h0 h1=>⟨fun hb => ?_,fun hb => ?_⟩) (fun hh => ?_)
 ·rw [if_pos (show GOrd g from ⟨i,h0,h1,hb⟩)];rw [zdz];unfold zbK
  (try dsimp only);(repeat' first | (with_reducible refine G_to ?_ ?_;focus (first | omega | (unfold fits;omega) | (unfold room;(try simp only [List.length_append,List.length_cons,List.length_nil]);omega))) | (with_reducible refine both_to ?_ ?_) | (with_reducible refine zen ?_) | (with_reducible refine zem ?_) | (with_reducible refine zg3 (fun _ => ?_) (fun _ => ?_)))<;>try (exfalso;omega)
  obtain ⟨o,e,ho⟩:=znt (ix g.2.2.1 (i - 1)) (ix g.2.2.1 i);refine zgN e ?_
  rw [if_pos (by cases o;rfl;exact absurd (ho.1 rfl) hb)]
 ·conv=>lhs;rw [zdz];unfold zbK
  (try dsimp only);(repeat' first | (with_reducible refine G_to ?_ ?_;focus (first | omega | (unfold fits;omega) | (unfold room;(try simp only [List.length_append,List.length_cons,List.length_nil]);omega))) | (with_reducible refine both_to ?_ ?_) | (with_reducible refine zen ?_) | (with_reducible refine zem ?_) | (with_reducible refine zg3 (fun _ => ?_) (fun _ => ?_)))<;>try (exfalso;omega)
  obtain ⟨o,e,ho⟩:=znt (ix g.2.2.1 (i - 1)) (ix g.2.2.1 i);refine zgN e ?_
  rw [if_neg (by rw [ho.2 (Classical.not_not.1 hb)];decide),zao (by unfold fits;omega)]
 ·rw [if_neg (show ¬ GOrd g from fun ⟨i,i0,i1,i2⟩=>hh i (by omega) i1 i2)]
  rw [zdz];unfold zbK;rw [if_neg (by simp)]
end
structure GrOk (g:Gr):Prop where
 l:1<=g.1/\g.1<=4
 n:1<=g.2.1/\g.2.1<=12
 a:g.2.2.1.length<=60
 x:∀ x∈g.2.2.1,0<=x.1/\x.1 < g.2.1/\0<=x.2.2.1/\x.2.2.1 < g.2.1/\0<=x.2.1/\x.2.1 < g.1
theorem zvg {g:Gr} (h:grE g=0):GrOk g:=by
 unfold grE at h
 split at h
 ·cases h
 split at h
 ·cases h
 split at h
 ·cases h
 rename_i c1 c2 c3;unfold GLet at c1;unfold zqi at c2;refine ⟨by omega,by omega,by omega,fun x hx => ?_⟩
 have : ¬ ABad g x:=fun h=>c3 ⟨x,hx,h⟩
 unfold ABad at this;omega
section
variable {g:Gr}
end
def tb (N:Int) (f:Int->Bool):List Bool:=(List.range N.toNat).map fun p:Nat=>f (p:Int)
theorem zmL {N:Int} {f:Int->Bool} (h:0<=N):((tb N f).length:Int)=N:=by unfold tb;simp;omega
theorem zuj {N:Int} {f:Int->Bool} {p:Int} (h0:0<=p) (h1:p < N):ix (tb N f) p=f p:=by
 unfold tb;rw [zmV h0 (by simp;omega),List.getElem_map,List.getElem_range]
 congr 1;omega
theorem zxS {N:Int} {l:List Bool} {f:Int->Bool} (hN:0<=N) (hl:(l.length:Int)=N) (h:∀ p,0<=p->p < N->ix l p=f p):l=tb N f:=by
 have:=zmL (f:=f) hN;exact zsw (by omega) fun j j0 j1=>by rw [zuj j0 (by omega)];exact h j j0 (by omega)
theorem fill {β:Type} {N:Int} (hN:0<=N) {loop:Int->List Bool->Option β} {fin:List Bool->Option β} {f:Int->Bool}
  (hs:∀ t out,0<=t->t < N->(out.length:Int)=N->loop t out=loop (t+1) (out.set t.toNat (f t)))
  (hf:∀ out,(out.length:Int)=N->loop N out=fin out) {out:List Bool} (ho:(out.length:Int)=N):loop 0 out=fin (tb N f):=by
 obtain ⟨s',⟨h1,h2⟩,h3⟩:=zwk (len:=N) (L:=loop) (f:=fun t s=>s.set t.toNat (f t)) (lo:=0) (I:=fun t s=>(s.length:Int)=N/\∀ j,0<=j->j < t->ix s j=f j) (s:=out) hN ⟨ho,fun j a b=>by omega⟩
  (fun t s t0 t1 hI=>⟨hs t s t0 t1 hI.1,by simp [hI.1],fun j j0 j1=>by
   by_cases e:j=t
   ·subst e;rw [zfN j0 (by omega)]
   ·rw [zi1 t0 j0 (fun h=>e h.symm)];exact hI.2 j j0 (by omega)⟩)
 rw [h3,hf s' h1,zxS hN h1 h2]
theorem zgS {N:Int} (h:0<=N):((List.replicate N.toNat false).length:Int)=N:=by simp;omega
theorem zse {a b:List Bool} (ha:a.length<=1000):zjc a b=some (decide (a=b)):=by
 unfold zjc;by_cases hl:(a.length:Int)=b.length
 ·rw [if_neg (by simpa using hl)]
  refine zoq (len:=(a.length:Int)) (bad:=fun t=>ix a t≠ix b t) (lo:=0) (by omega) (fun t t0 t1=>⟨fun hb => ?_,fun hb => ?_⟩) (fun hh => ?_)
  ·rw [zfR];unfold zcm;rw [if_pos (by simp;omega)]
   refine G_to (by omega) (G_to (by omega) ?_)
   rw [if_pos (by simpa using hb),decide_eq_false (fun e=>hb (by rw [e]))]
  ·conv=>lhs;rw [zfR];unfold zcm
   rw [if_pos (by simp;omega)]
   refine G_to (by omega) (G_to (by omega) ?_)
   rw [if_neg (by simpa using hb)]
   exact G_to (by unfold fits;omega) rfl
  ·rw [zfR];unfold zcm;rw [if_neg (by simp),decide_eq_true (zsw (by omega) fun t t0 t1=>Decidable.not_not.1 (hh t t0 t1))]
 ·rw [if_pos (by simpa using hl),decide_eq_false (fun e=>hl (by rw [e]))]
theorem zu2 {a b:List Bool} (ha:a.length<=1000):zgK a b=some (decide (a=b)):=by
 unfold zgK;by_cases hl:(a.length:Int)=b.length
 ·rw [if_neg (by simpa using hl)]
  refine zoq (len:=(a.length:Int)) (bad:=fun t=>ix a t≠ix b t) (lo:=0) (by omega) (fun t t0 t1=>⟨fun hb => ?_,fun hb => ?_⟩) (fun hh => ?_)
  ·rw [zd7];unfold zbC;rw [if_pos (by simp;omega)]
   refine G_to (by omega) (G_to (by omega) ?_)
   rw [if_pos (by simpa using hb),decide_eq_false (fun e=>hb (by rw [e]))]
  ·conv=>lhs;rw [zd7];unfold zbC
   rw [if_pos (by simp;omega)]
   refine G_to (by omega) (G_to (by omega) ?_)
   rw [if_neg (by simpa using hb)]
   exact G_to (by unfold fits;omega) rfl
  ·rw [zd7];unfold zbC;rw [if_neg (by simp),decide_eq_true (zsw (by omega) fun t t0 t1=>Decidable.not_not.1 (hh t t0 t1))]
 ·rw [if_pos (by simpa using hl),decide_eq_false (fun e=>hl (by rw [e]))]
theorem zu0 {s:List Bool} (hs:s.length<=1000):zgJ s=some s:=by
 have hr:G (room ([]:List Bool) s 1) (some (([]:List Bool)++s))=some s:=by
  rw [zao (zhI (by simp;omega))];rfl
 unfold zgJ;refine zwr (fun h => ?_) (fun h=>hr)
 obtain rfl:s=[]:=List.length_eq_zero_iff.1 h;rw [hr];exact ztx (ts:=[(.list .bool)]) (some ([]:List Bool))
def cnt (X:List Bool):Nat:=(X.filter id).length
theorem zxr (X:List Bool):cnt X<=X.length:=List.length_filter_le _ _
theorem zsi:∀ (X Y:List Bool),X.length=Y.length->(∀ j:Nat,X[j]? =some true->Y[j]? =some true)->cnt X<=cnt Y/\(X≠Y->cnt X < cnt Y)
 | [],[],_,_=>⟨Nat.le_refl _,fun h=>absurd rfl h⟩
 | [],_::_,h,_=>by simp at h
 | _::_,[],h,_=>by simp at h
 | x::X,y::Y,h,hj=>by
  obtain ⟨h1,h2⟩:=zsi X Y (by simpa using h) (fun j=>by simpa using hj (j+1))
  have h0:=hj 0;unfold cnt at h1 h2 ⊢
  cases x<;>cases y
  ·simp only [List.filter_cons,id_eq,Bool.false_eq_true,if_false];exact ⟨h1,fun hne=>h2 (fun e=>hne (by rw [e]))⟩
  ·simp only [List.filter_cons,id_eq,Bool.false_eq_true,if_false,if_true,List.length_cons];exact ⟨by omega,fun _=>by omega⟩
  ·simp at h0
  ·simp only [List.filter_cons,id_eq,if_true,List.length_cons];exact ⟨by omega,fun hne=>by have:=h2 (fun e=>hne (by rw [e]));omega⟩
theorem zvI {X Y:List Bool} {N:Int} (hx:(X.length:Int)=N) (hy:(Y.length:Int)=N) (h:∀ p,0<=p->p < N->ix X p=true->ix Y p=true) (hne:X≠Y):cnt X < cnt Y:=by
 refine (zsi X Y (by omega) fun j hj => ?_).2 hne
 obtain ⟨h1,h2⟩:=List.getElem?_eq_some_iff.1 hj;have e:=h j (by omega) (by omega) (by rw [zmV (by omega) (by omega)];simpa using h2)
 rw [zmV (by omega) (by omega)] at e
 rw [List.getElem?_eq_getElem (by omega)]
 simpa using e
theorem zvX {N:Int} {F:List Bool->List Bool} {loop:List Bool->Option (List Bool)} {P:List Bool->Prop} {μ:List Bool->Nat}
  (hl:∀ X,(X.length:Int)=N->loop X=if F X=X then some X else loop (F X))
  (hF:∀ X,(X.length:Int)=N->((F X).length:Int)=N) (hP:∀ X,(X.length:Int)=N->P X->P (F X)/\(F X≠X->μ (F X) < μ X)):
  ∀ (m:Nat) X,μ X=m->(X.length:Int)=N->P X->∃ R,loop X=some R/\(R.length:Int)=N/\P R/\F R=R:=by
 intro m
 induction m using Nat.strongRecOn with
 | ind m ih=>
  intro X hm hX hp;rw [hl X hX];by_cases e:F X=X
  ·exact ⟨X,by rw [if_pos e],hX,hp,e⟩
  ·rw [if_neg e];obtain ⟨h1,h2⟩:=hP X hX hp;exact ih _ (by have:=h2 e;omega) _ rfl (hF X hX) h1
theorem zq7 {N:Int} {F:List Bool->List Bool} {loop:List Bool->Option (List Bool)} {P:List Bool->Prop}
  (hl:∀ X,(X.length:Int)=N->loop X=if F X=X then some X else loop (F X))
  (hF:∀ X,(X.length:Int)=N->((F X).length:Int)=N) (hP:∀ X,(X.length:Int)=N->P X->P (F X)/\∀ p,0<=p->p < N->ix X p=true->ix (F X) p=true)
  {X:List Bool} (hX:(X.length:Int)=N) (hp:P X):∃ R,loop X=some R/\(R.length:Int)=N/\P R/\F R=R:=
 zvX (μ:=fun X=>N.toNat - cnt X) hl hF (fun X hX hp=>⟨(hP X hX hp).1,fun hne=>by
  have h1:=zvI hX (hF X hX) (hP X hX hp).2 (fun e=>hne e.symm)
  have h2:=zxr (F X);have h3:=hF X hX;show N.toNat - cnt (F X) < N.toNat - cnt X;omega⟩) _ X rfl hX hp
theorem zol {N:Int} {F:List Bool->List Bool} {loop:List Bool->Option (List Bool)} {P:List Bool->Prop}
  (hl:∀ X,(X.length:Int)=N->loop X=if F X=X then some X else loop (F X))
  (hF:∀ X,(X.length:Int)=N->((F X).length:Int)=N) (hP:∀ X,(X.length:Int)=N->P X->P (F X)/\∀ p,0<=p->p < N->ix (F X) p=true->ix X p=true)
  {X:List Bool} (hX:(X.length:Int)=N) (hp:P X):∃ R,loop X=some R/\(R.length:Int)=N/\P R/\F R=R:=
 zvX (μ:=cnt) hl hF (fun X hX hp=>⟨(hP X hX hp).1,fun hne=>zvI (hF X hX) hX (hP X hX hp).2 hne⟩) _ X rfl hX hp
def Sub (N:Int) (a b:List Bool):Prop:=∀ p:Int,0<=p->p < N->ix a p=true->ix b p=true
theorem Sub.refl (N:Int) (a:List Bool):Sub N a a:=fun _ _ _ h=>h
theorem Sub.trans {N:Int} {a b c:List Bool} (h:Sub N a b) (k:Sub N b c):Sub N a c:=fun p p0 p1 hp=>k p p0 p1 (h p p0 p1 hp)
theorem Sub.antisymm {N:Int} {a b:List Bool} (ha:(a.length:Int)=N) (hb:(b.length:Int)=N) (h:Sub N a b) (k:Sub N b a):a=b:=
 zsw (by omega) fun j j0 j1=>by
  have h1:=h j j0 (by omega)
  have h2:=k j j0 (by omega)
  cases e:ix a j<;>cases e':ix b j<;>simp_all
theorem Sub.tb {N:Int} {f f':Int->Bool} (h:∀ p,0<=p->p < N->f p=true->f' p=true):Sub N (tb N f) (tb N f'):=fun p p0 p1 hp=>by
 rw [zuj p0 p1] at hp ⊢;exact h p p0 p1 hp
structure SOk (N:Int) (q:List Bool) (S:List (List Bool)):Prop where
 n:S.length=q.length
 l:∀ s∈S,(s.length:Int)=N
def Le (N:Int) (q:List Bool) (S T:List (List Bool)):Prop:=∀ j:Nat,j < q.length->(q.getD j false=false->Sub N (S.getD j []) (T.getD j []))/\(q.getD j false=true->Sub N (T.getD j []) (S.getD j []))
theorem Le.refl (N:Int) (q:List Bool) (S:List (List Bool)):Le N q S S:=fun j _=>⟨fun _=>Sub.refl _ _,fun _=>Sub.refl _ _⟩
theorem Le.neg {N:Int} {q:List Bool} {S T:List (List Bool)} (h:Le N q S T):Le N (q.map Bool.not) T S:=fun j hj=>by
 rw [List.length_map] at hj;have e:(q.map Bool.not).getD j false = !(q.getD j false):=by
  rw [List.getD_eq_getElem?_getD,List.getD_eq_getElem?_getD,List.getElem?_map,List.getElem?_eq_getElem hj];rfl
 rw [e];obtain ⟨h1,h2⟩:=h j hj;exact ⟨fun k=>h2 (by simpa using k),fun k=>h1 (by simpa using k)⟩
theorem SOk.neg {N:Int} {q:List Bool} {S:List (List Bool)} (h:SOk N q S):SOk N (q.map Bool.not) S:=⟨by rw [List.length_map];exact h.n,h.l⟩
theorem SOk.snoc {N:Int} {q:List Bool} {S:List (List Bool)} {X:List Bool} (h:SOk N q S) (hX:(X.length:Int)=N):SOk N (q++[false]) (S++[X]):=⟨by simp [h.n],fun s hs=>by
 rcases List.mem_append.1 hs with hs | hs
 ·exact h.l s hs
 ·rw [List.mem_singleton.1 hs];exact hX⟩
theorem znY {α:Type} (l:List α) (x d:α) (j:Nat):(l++[x]).getD j d=if j < l.length then l.getD j d else if j=l.length then x else d:=by
 simp only [List.getD_eq_getElem?_getD];by_cases h:j < l.length
 ·rw [if_pos h,List.getElem?_append_left h]
 ·rw [if_neg h,List.getElem?_append_right (by omega)]
  by_cases e:j=l.length
  ·subst e;simp
  ·rw [if_neg e,List.getElem?_eq_none (by simp;omega)];rfl
theorem Le.snoc {N:Int} {q:List Bool} {S T:List (List Bool)} {X Y:List Bool} (h:Le N q S T) (hS:S.length=q.length) (hT:T.length=q.length) (hX:Sub N X Y):Le N (q++[false]) (S++[X]) (T++[Y]):=fun j hj=>by
 rw [znY,znY,znY,hS,hT];by_cases h1:j < q.length
 ·simp only [if_pos h1];exact h j h1
 ·have:j=q.length:=by simp at hj;omega
  subst this;simp only [Nat.lt_irrefl,if_false,if_true];exact ⟨fun _=>hX,fun h=>by cases h⟩
theorem zuY {N:Int} (h:1<=N/\N<=12):znd (IntKind.wrap .u64 (1:Int)) (IntKind.wrap .u64 N)=some (0,N)/\IntKind.wrap .i64 N=N:=by
 have hg:∀ {R:Type} (k:Option R),G ((0:Int)<=32) k=k:=fun k=>zao (by decide)
 unfold znd zlW;simp only [hg,Option.bind_some];have:N=1\/N=2\/N=3\/N=4\/N=5\/N=6\/N=7\/N=8\/N=9\/N=10\/N=11\/N=12:=by omega
 rcases this with rfl | rfl | rfl | rfl | rfl | rfl | rfl | rfl | rfl | rfl | rfl | rfl<;>exact ⟨congrArg some (Prod.ext (by decide+kernel) (by decide+kernel)),by decide+kernel⟩
theorem zwL:∀ (m:Nat) (n:Nat) (s:List Bool),s.length - n=m->1<=n->n<=s.length->s.length<=100->s.take n=List.replicate n true->zdC (n:Int) s=some (List.replicate s.length true):=by
 intro m
 induction m using Nat.strongRecOn with
 | ind m ih=>
  intro n s hm h1 h2 h3 ht;rw [zkG];unfold zcf;by_cases he:n=s.length
  ·have : ¬ (n:Int) < (s.length:Int):=by omega
   simp only [this,decide_false,Bool.false_eq_true,if_false];rw [<- he,<- ht,List.take_of_length_le (by omega)]
  ·have hl:(n:Int) < (s.length:Int):=by omega
   simp only [hl,decide_true,if_true];rw [Int.toNat_natCast,zao (by omega),zao (by omega),zao (by omega),zao (by omega),List.drop_zero]
   have hk:(s.take n).length=n:=by rw [List.length_take];omega
   rw [hk];obtain ⟨k,hkk⟩:∃ k,min n (s.length - n)=k:=⟨_,rfl⟩;rw [hkk,zao (zaT (by omega) (by omega))]
   have e1:(s.take n).take k=List.replicate k true:=by rw [ht,List.take_replicate];congr 1;omega
   rw [e1,ht];have hlen:(List.replicate n true++List.replicate k true++s.drop (n+k)).length=s.length:=by simp;omega
   have:=ih (s.length - (n+k)) (by omega) (n+k) (List.replicate n true++List.replicate k true++s.drop (n+k)) (by omega) (by omega) (by omega) (by omega) (by
    rw [List.take_left' (by simp),List.replicate_append_replicate])
   rw [hlen] at this;exact this
theorem zuI {N:Int} (h:1<=N/\N<=12):zfp [true] N=some (List.replicate N.toNat true):=by
 unfold zfp;obtain ⟨b1,b2⟩:=zuY h;have c1 : ¬ N < 0:=by omega
 have c2 : ¬ 9223372036854775807 < N:=by omega
 simp only [c1,decide_false,Bool.false_eq_true,if_false,List.length_singleton];rw [show ((1:Nat):Int)=1 from rfl,b1];simp only [Option.bind_some,c2,b2,Int.lt_irrefl,decide_false,Bool.false_eq_true,if_false];rw [zao ⟨by omega,by omega,by omega⟩]
 have e:(min 1 (List.replicate N.toNat false).length:Nat)=1:=by simp;omega
 rw [e];have:=zwL _ 1 ([true].take (List.replicate N.toNat false).length++(List.replicate N.toNat false).drop 1) rfl (by omega) (by simp;omega) (by simp;omega) (by
  rw [List.take_of_length_le (l:=[true]) (by simp;omega)];rfl)
 rw [this];congr 2
 simp;omega
theorem zoa {g:Gr} (ok:GrOk g):mkOK g.2.1 g.2.1 1:=by
 have:=ok.n;exact ⟨by omega,by omega,by omega⟩
theorem zhk (v:ND) (k:List (Tr ND)):(Tr.mk v k).val (0,(0,()))=v:=rfl
theorem zmU {v:ND} {k:List (Tr ND)}:(Tr.mk v k).isMk=true:=rfl
theorem ew (g:Gr):(g.1,(g.2.1,(g.2.2.1,())))=g:=rfl
section
variable {g:Gr} {S:List (List Bool)} {nn:Int} {ks:List (Tr ND)}
theorem zvU {a:Tr ND} {v:ND} {Fa:List Bool} (ha:zaj a g S=some Fa):zaH zaj 0 (Tr.mk v [a]) g S=some Fa:=by
 unfold zaH;rw [zao zmU,zao ⟨by omega,by show (0:Int) < 1;omega⟩]
 show (zaj a g S).bind _=_;rw [ha];rfl
theorem pw_l {a b:Tr ND} {v:ND} {Fa:List Bool} (ha:zaj a g S=some Fa):zaH zaj 0 (Tr.mk v [a,b]) g S=some Fa:=by
 unfold zaH;rw [zao zmU,zao ⟨by omega,by show (0:Int) < 2;omega⟩]
 show (zaj a g S).bind _=_;rw [ha];rfl
theorem pw_r {a b:Tr ND} {v:ND} {Fa:List Bool} (ha:zaj b g S=some Fa):zaH zaj 1 (Tr.mk v [a,b]) g S=some Fa:=by
 unfold zaH;rw [zao zmU,zao ⟨by omega,by show (1:Int) < 2;omega⟩]
 show (zaj b g S).bind _=_;rw [ha];rfl
theorem pw_48 (ok:GrOk g):zaj (Tr.mk (48,nn,()) ks) g S=some (List.replicate g.2.1.toNat false):=by
 rw [zbR];unfold zaN;rw [zao (zoa ok),zao zmU];unfold zaO zaW zbf;simp only [zhk,Int.reduceEq,decide_true,decide_false,Bool.false_eq_true,if_true,if_false]
theorem pw_49 (ok:GrOk g):zaj (Tr.mk (49,nn,()) ks) g S=some (List.replicate g.2.1.toNat true):=by
 rw [zbR];unfold zaN;rw [zao (zoa ok),zao zmU];simp only [zhk,Int.reduceEq,decide_true,decide_false,Bool.false_eq_true,if_true,if_false];rw [zuI ok.n];rfl
theorem pw_88 (ok:GrOk g) {j:Nat} (hj:j < S.length):zaj (Tr.mk (88,(j:Int),()) ks) g S=some (S.getD j []):=by
 rw [zbR];unfold zaN;rw [zao (zoa ok),zao zmU];simp only [zhk,Int.reduceEq,decide_true,decide_false,Bool.false_eq_true,if_true,if_false];rw [zao zmU];refine G_to (show 0<=(j:Int)/\(j:Int) < (S.length:Int) from by omega) ?_
 unfold ix;rw [Int.toNat_natCast];rfl
theorem pw_33 (ok:GrOk g) {a:Tr ND} {Fa:List Bool} (ha:zaj a g S=some Fa) (hl:(Fa.length:Int)=g.2.1):zaj (Tr.mk (33,nn,()) [a]) g S=some (tb g.2.1 fun p => !ix Fa p):=by
 have hn:=ok.n;rw [zbR];unfold zaN;rw [zao (zoa ok),zao zmU];simp only [zhk,Int.reduceEq,decide_true,decide_false,Bool.false_eq_true,if_true,if_false];rw [ew,zvU ha];simp only [Option.bind_some];refine fill (N:=g.2.1) (by omega) (fin:=some) (fun t out t0 t1 ho => ?_) (fun out ho => ?_) (zgS (by omega))
 ·rw [zew];unfold za7;have h:t < (Fa.length:Int):=by omega
  rw [if_pos (decide_eq_true h),zao (by omega),zao (by omega),zao (by omega),zao (zaT (by omega) (by omega))]
 ·rw [zew];unfold za7;have h : ¬ g.2.1 < (Fa.length:Int):=by omega
  simp only [h,decide_false,Bool.false_eq_true,if_false]
theorem zxG (ok:GrOk g) {sg:Int} (hs:sg=38\/sg=124) {a b:Tr ND} {Fa Fb:List Bool} (ha:zaj a g S=some Fa) (hb:zaj b g S=some Fb) (hl:(Fa.length:Int)=g.2.1) (hm:(Fb.length:Int)=g.2.1):
  zaj (Tr.mk (sg,nn,()) [a,b]) g S=some (tb g.2.1 fun p=>if sg=124 then ix Fa p || ix Fb p else ix Fa p && ix Fb p):=by
 have hn:=ok.n;rw [zbR];unfold zaN;rw [zao (zoa ok),zao zmU];have h1 : ¬ sg=49:=by omega
 have h2 : ¬ sg=88:=by omega
 have h3 : ¬ sg=33:=by omega
 simp only [zhk,h1,h2,h3,decide_false,Bool.false_eq_true,if_false];have key:zaO zaj (Tr.mk (sg,nn,()) [a,b]) g S true=some (tb g.2.1 fun p=>if sg=124 then ix Fa p || ix Fb p else ix Fa p && ix Fb p):=by
  unfold zaO;simp only [if_true];rw [ew,pw_l ha,pw_r hb];simp only [Option.bind_some];have hr:=zgS (N:=g.2.1) (by omega)
  refine fill (N:=g.2.1) (by omega) (fin:=some) (fun t out t0 t1 ho => ?_) (fun out ho => ?_) hr
  ·rw [zex];unfold za8;have h:t < ((List.replicate g.2.1.toNat false).length:Int):=by omega
   have f1:fits (t+1):=zaT (by omega) (by omega)
   have q1:0<=t/\t < (Fa.length:Int):=by omega
   have q2:0<=t/\t < (Fb.length:Int):=by omega
   have q3:0<=t/\t < (out.length:Int):=by omega
   have q4:t.toNat < out.length:=by omega
   have q5:(Tr.mk (sg,(nn,())) [a,b]).isMk=true:=rfl;simp only [h,decide_true,if_true,zhk,zao q1,zao q2,zao q3,zao q4,zao q5,zao f1];by_cases c1:ix Fa t=true<;>by_cases c2:ix Fb t=true<;>by_cases c3:sg=124<;>simp [c1,c2,c3]
  ·rw [zex];unfold za8;have h : ¬ g.2.1 < ((List.replicate g.2.1.toNat false).length:Int):=by omega
   simp only [h,decide_false,Bool.false_eq_true,if_false]
 rcases hs with rfl | rfl
 ·simpa only [Int.reduceEq,decide_true,decide_false,if_true] using key
 ·simpa only [Int.reduceEq,decide_true,decide_false,Bool.false_eq_true,if_false] using key
def arS (sg nn:Int) (a:List Bool) (out:List Bool) (x:Arc):List Bool:=if x.2.1=nn/\ix a x.2.2.1=decide (sg=60) then out.set x.1.toNat (decide (sg=60)) else out
noncomputable def AR (g:Gr) (sg nn:Int) (a:List Bool):List Bool:=g.2.2.1.foldl (arS sg nn a) (tb g.2.1 fun _=>decide (sg=91))
theorem znv {sg nn:Int} {a out:List Bool} {x:Arc}:(arS sg nn a out x).length=out.length:=by
 unfold arS;split<;>simp
theorem zxm (ok:GrOk g) {sg:Int} {a:List Bool}:((AR g sg nn a).length:Int)=g.2.1:=by
 have hn:=ok.n;have:∀ (l:List Arc) (o:List Bool),(l.foldl (arS sg nn a) o).length=o.length:=fun l=>by
  induction l with
  | nil=>intro o;rfl
  | cons x l ih=>intro o;rw [List.foldl_cons,ih,znv]
 unfold AR;rw [this];exact zmL (by omega)
theorem zt9 {β:Type} {N:Int} {L:List Arc} {loop:Int->List Bool->Option β} {st:List Bool->Arc->List Bool} {fin:List Bool->Option β} (hst:∀ o x,(st o x).length=o.length)
  (hs:∀ (t:Int) out,0<=t->t < (L.length:Int)->(out.length:Int)=N->loop t out=loop (t+1) (st out (ix L t))) (hf:∀ out,(out.length:Int)=N->loop L.length out=fin out) {out:List Bool} (ho:(out.length:Int)=N):loop 0 out=fin (L.foldl st out):=by
 have key:∀ (m:Nat) (n:Nat) (o:List Bool),L.length - n=m->n<=L.length->(o.length:Int)=N->loop (n:Int) o=fin ((L.drop n).foldl st o):=by
  intro m
  induction m with
  | zero=>
   intro n o hm hn ho;have:n=L.length:=by omega
   subst this;rw [hf o ho,List.drop_length];rfl
  | succ m ih=>
   intro n o hm hn ho;have hlt:n < L.length:=by omega
   rw [hs n o (by omega) (by omega) ho,zmV (l:=L) (by omega) (by omega),List.drop_eq_getElem_cons hlt,List.foldl_cons]
   have:=ih (n+1) (st o L[n]) (by omega) (by omega) (by rw [hst];exact ho)
   rw [<- this];rfl
 have:=key _ 0 out rfl (by omega) ho
 rw [List.drop_zero] at this;exact this
theorem zxF (ok:GrOk g) {sg:Int} (hs:sg=60\/sg=91) {a:Tr ND} {Fa:List Bool} (ha:zaj a g S=some Fa) (hl:(Fa.length:Int)=g.2.1):zaj (Tr.mk (sg,nn,()) [a]) g S=some (AR g sg nn Fa):=by
 have hn:=ok.n;have hal:=ok.a;rw [zbR];unfold zaN;rw [zao (zoa ok),zao zmU];have h1 : ¬ sg=49:=by omega
 have h2 : ¬ sg=88:=by omega
 have h3 : ¬ sg=33:=by omega
 have h4 : ¬ sg=38:=by omega
 have h5 : ¬ sg=124:=by omega
 simp only [zhk,h1,h2,h3,h4,h5,decide_false,Bool.false_eq_true,if_false];unfold zaO;simp only [zhk,Bool.false_eq_true,if_false];have key:zaW zaj (Tr.mk (sg,nn,()) [a]) g S true=some (AR g sg nn Fa):=by
  unfold zaW;simp only [if_true];rw [ew,zvU ha];simp only [Option.bind_some];have hr:=zgS (N:=g.2.1) (by omega)
  have q5:(Tr.mk (sg,(nn,())) [a]).isMk=true:=rfl;refine (fill (N:=g.2.1) (by omega) (f:=fun _=>decide (sg=91)) (fin:=fun o=>zc4 (Tr.mk (sg,(nn,())) [a]) g Fa 0 o) (fun t out t0 t1 ho => ?_) (fun out ho => ?_) hr).trans ?_
  ·rw [zey];unfold za9;have h:t < ((List.replicate g.2.1.toNat false).length:Int):=by omega
   simp only [h,decide_true,if_true,zhk];rw [zao q5,zao (by omega),zao (by omega),zao (zaT (by omega) (by omega))]
   rfl
  ·rw [zey];unfold za9;have h : ¬ g.2.1 < ((List.replicate g.2.1.toNat false).length:Int):=by omega
   simp only [h,decide_false,Bool.false_eq_true,if_false]
  ·refine zt9 (N:=g.2.1) (st:=arS sg nn Fa) (fin:=some) (fun _ _=>znv) (fun t out t0 t1 ho => ?_) (fun out ho => ?_) (zmL (by omega))
   ·rw [zez];unfold zba;have hx:=ok.x _ (zqP (l:=g.2.2.1) t0 t1);have f1:fits (t+1):=zaT (by omega) (by omega)
    generalize hxx:ix g.2.2.1 t=x at hx;have q1:0<=t/\t < (g.2.2.1.length:Int):=by omega
    have q2:0<=x.2.2.1/\x.2.2.1 < (Fa.length:Int):=by omega
    have q3:0<=x.1/\x.1 < (out.length:Int):=by omega
    have q4:x.1.toNat < out.length:=by omega
    unfold zb8;rw [if_pos (decide_eq_true t1),zao q1];simp only [hxx,zhk,zao q2,zao q3,zao q4,zao q5,zao f1];unfold arS;rcases hs with rfl | rfl<;>by_cases c1:x.2.1=nn<;>cases hu:ix Fa x.2.2.1<;>simp [c1]
   ·rw [zez];unfold zba;simp only [Int.lt_irrefl,decide_false,Bool.false_eq_true,if_false]
 rcases hs with rfl | rfl
 ·simpa only [Int.reduceEq,decide_true,decide_false,if_true] using key
 ·simpa only [Int.reduceEq,decide_true,decide_false,Bool.false_eq_true,if_false] using key
theorem zwE (ok:GrOk g) {sg:Int} (hs:sg=109\/sg=110) {a:Tr ND}:zaj (Tr.mk (sg,nn,()) [a]) g S=zaA zaj (Tr.mk (sg,nn,()) [a]) g S (tb g.2.1 fun _=>decide (sg=110)):=by
 have hn:=ok.n;rw [zbR];unfold zaN;rw [zao (zoa ok),zao zmU];have h1 : ¬ sg=49:=by omega
 have h2 : ¬ sg=88:=by omega
 have h3 : ¬ sg=33:=by omega
 have h4 : ¬ sg=38:=by omega
 have h5 : ¬ sg=124:=by omega
 have h6 : ¬ sg=60:=by omega
 have h7 : ¬ sg=91:=by omega
 simp only [zhk,h1,h2,h3,h4,h5,decide_false,Bool.false_eq_true,if_false];unfold zaO zaW;simp only [zhk,h6,h7,decide_false,Bool.false_eq_true,if_false];have key:zbf zaj (Tr.mk (sg,nn,()) [a]) g S true=zaA zaj (Tr.mk (sg,nn,()) [a]) g S (tb g.2.1 fun _=>decide (sg=110)):=by
  unfold zbf;simp only [if_true];have hr:=zgS (N:=g.2.1) (by omega)
  have q5:(Tr.mk (sg,(nn,())) [a]).isMk=true:=rfl;refine fill (N:=g.2.1) (by omega) (f:=fun _=>decide (sg=110)) (fin:=fun o=>zaA zaj (Tr.mk (sg,(nn,())) [a]) g S o) (fun t out t0 t1 ho => ?_) (fun out ho => ?_) hr
  ·rw [zeA];unfold zbb;have h:t < ((List.replicate g.2.1.toNat false).length:Int):=by omega
   simp only [h,decide_true,if_true,zhk];rw [zao q5,zao (by omega),zao (by omega),zao (zaT (by omega) (by omega))]
   rfl
  ·rw [zeA];unfold zbb;have h : ¬ g.2.1 < ((List.replicate g.2.1.toNat false).length:Int):=by omega
   simp only [h,decide_false,Bool.false_eq_true,if_false]
 rcases hs with rfl | rfl
 ·simpa only [Int.reduceEq,decide_true,decide_false,if_true] using key
 ·simpa only [Int.reduceEq,decide_true,decide_false,Bool.false_eq_true,if_false] using key
theorem zwF (hS:S.length<=10) {sg:Int} {a:Tr ND} {F:List Bool->List Bool} {X:List Bool} (hX:X.length<=100) (hF:zaj a g (S++[X])=some (F X)) (hFl:(F X).length<=100):
  zaA zaj (Tr.mk (sg,nn,()) [a]) g S X=if F X=X then some X else zaA zaj (Tr.mk (sg,nn,()) [a]) g S (F X):=by
 rw [ziN];conv=>lhs;unfold zbN
 rw [zao zmU,zao ⟨by omega,by show (0:Int) < 1;omega⟩,zao ⟨rfl,by omega,by omega⟩,zv8,zao ⟨by simp,zhI (by simp;omega)⟩]
 show (zaj a g (S++[X])).bind _=_;rw [hF];simp only [Option.bind_some];rw [zu2 (by omega)]
 simp only [Option.bind_some,decide_eq_true_eq]
end
section
variable {g:Gr} {S:List (List Bool)} {l:L5} {k:Int}
theorem rw_48 (ok:GrOk g) (hk:0<=k/\k < (l.length:Int)) (hs:(ix l k).1=48):zaL g l k S=some (List.replicate g.2.1.toNat false):=by
 rw [zgE];unfold zcV;rw [zao hk,zao (zoa ok),if_pos (by simp [hs])]
theorem rw_49 (ok:GrOk g) (hk:0<=k/\k < (l.length:Int)) (hs:(ix l k).1=49):zaL g l k S=some (List.replicate g.2.1.toNat true):=by
 have hn:=ok.n;rw [zgE];unfold zcV;rw [zao hk,zao (zoa ok),if_neg (by simp [hs]),if_pos (by simp [hs])]
 have e:tb g.2.1 (fun _=>true)=List.replicate g.2.1.toNat true:=by
  unfold tb;rw [List.map_const',List.length_range]
 rw [<- e];refine fill (N:=g.2.1) (by omega) (fin:=some) (fun t out t0 t1 ho => ?_) (fun out ho => ?_) (zgS (by omega))
 ·rw [zjv];unfold zcF;rw [if_pos (decide_eq_true t1),zao (by omega),zao (by omega),zao (zaT (by omega) (by omega))]
 ·rw [zjv];unfold zcF;simp only [Int.lt_irrefl,decide_false,Bool.false_eq_true,if_false]
theorem rw_88 (ok:GrOk g) (hk:0<=k/\k < (l.length:Int)) (hs:(ix l k).1=88) {j:Nat} (hj:j < S.length) (hn:(ix l k).2.1=j) (hl:((S.getD j []).length:Int)=g.2.1):zaL g l k S=some (S.getD j []):=by
 rw [zgE];unfold zcV;rw [zao hk,zao (zoa ok),if_neg (by simp [hs]),if_neg (by simp [hs]),if_pos (by simp [hs]),hn,zao (by omega)]
 have e:ix S (j:Int)=S.getD j []:=by unfold ix;rw [Int.toNat_natCast];rfl
 rw [e,List.length_replicate,List.take_of_length_le (by omega),List.drop_of_length_le (by rw [List.length_replicate];omega),List.append_nil]
theorem zsK (ok:GrOk g) (hk:0<=k/\k < (l.length:Int)) (h1 : ¬ (ix l k).1=48) (h2 : ¬ (ix l k).1=49) (h3 : ¬ (ix l k).1=88):zaL g l k S=zb0 zaL g l k S (decide ((ix l k).1=109\/(ix l k).1=110)):=by
 rw [zgE];conv=>lhs;unfold zcV
 rw [zao hk,zao (zoa ok),if_neg (by simp [h1]),if_neg (by simp [h2]),if_neg (by simp [h3])]
 by_cases h:(ix l k).1=109
 ·simp [h]
 ·by_cases h':(ix l k).1=110
  ·simp [h']
  ·simp [h,h']
theorem rw_33 (ok:GrOk g) (hk:0<=k/\k < (l.length:Int)) (hs:(ix l k).1=33) {Fa:List Bool} (ha:zaL g l (xA (ix l k)) S=some Fa) (hl:(Fa.length:Int)=g.2.1):zaL g l k S=some (tb g.2.1 fun p => !ix Fa p):=by
 have hn:=ok.n;rw [zsK ok hk (by omega) (by omega) (by omega),decide_eq_false (by omega)]
 unfold zb0;simp only [Bool.false_eq_true,if_false];rw [ew];refine zgN ha ?_
 rw [if_pos (by simp [hs])]
 refine fill (N:=g.2.1) (by omega) (fin:=some) (fun t out t0 t1 ho => ?_) (fun out ho => ?_) (zgS (by omega))
 ·rw [zhQ];unfold zcy;rw [if_pos (decide_eq_true t1),zao (by omega),zao (by omega),zao (by omega),zao (zaT (by omega) (by omega))]
 ·rw [zhQ];unfold zcy;simp only [Int.lt_irrefl,decide_false,Bool.false_eq_true,if_false]
theorem zxO (ok:GrOk g) (hk:0<=k/\k < (l.length:Int)) (hs:(ix l k).1=38\/(ix l k).1=124) {Fa Fb:List Bool} (ha:zaL g l (xA (ix l k)) S=some Fa) (hb:zaL g l (xB (ix l k)) S=some Fb) (hl:(Fa.length:Int)=g.2.1) (hm:(Fb.length:Int)=g.2.1):
  zaL g l k S=some (tb g.2.1 fun p=>if (ix l k).1=124 then ix Fa p || ix Fb p else ix Fa p && ix Fb p):=by
 have hn:=ok.n;rw [zsK ok hk (by omega) (by omega) (by omega),decide_eq_false (by omega)]
 unfold zb0;simp only [Bool.false_eq_true,if_false];rw [ew];refine zgN ha ?_
 rw [if_neg (by simp;omega)]
 have key:zcC zaL g l k S Fa true=some (tb g.2.1 fun p=>if (ix l k).1=124 then ix Fa p || ix Fb p else ix Fa p && ix Fb p):=by
  unfold zcC;simp only [if_true];rw [ew];refine zgN hb ?_
  refine fill (N:=g.2.1) (by omega) (fin:=some) (fun t out t0 t1 ho => ?_) (fun out ho => ?_) (zgS (by omega))
  ·rw [zhR];unfold zcz zdj;have f1:fits (t+1):=zaT (by omega) (by omega)
   have q1:0<=t/\t < (Fa.length:Int):=by omega
   have q2:0<=t/\t < (Fb.length:Int):=by omega
   have q3:∀ v,0<=t/\t < ((out.set t.toNat v).length:Int):=fun v=>by simp;omega
   have q6:0<=t/\t < (out.length:Int):=by omega
   have q4:∀ v,t.toNat < (out.set t.toNat v).length:=fun v=>by simp;omega
   have q5:t.toNat < out.length:=by omega
   rw [if_pos (decide_eq_true t1)];simp only [zao q1,zao q2,zao q6,zao q5,zao (q3 _),zao (q4 _),zao f1,List.set_set];by_cases c3:(ix l k).1=124
   ·cases c1:ix Fa t<;>cases c2:ix Fb t<;>simp [c3,c1,c2]
   ·cases c1:ix Fa t<;>cases c2:ix Fb t<;>simp [c3,c1,c2]
  ·rw [zhR];unfold zcz;simp only [Int.lt_irrefl,decide_false,Bool.false_eq_true,if_false]
 by_cases h38:(ix l k).1=38
 ·rw [if_pos (by simp [h38])];exact key
 ·rw [if_neg (by simp [h38]),decide_eq_true (by omega:(ix l k).1=124)];exact key
theorem zxN (ok:GrOk g) (hk:0<=k/\k < (l.length:Int)) (hs:(ix l k).1=60\/(ix l k).1=91) {Fa:List Bool} (ha:zaL g l (xA (ix l k)) S=some Fa) (hl:(Fa.length:Int)=g.2.1):zaL g l k S=some (AR g (ix l k).1 (ix l k).2.1 Fa):=by
 have hn:=ok.n;have hal:=ok.a;rw [zsK ok hk (by omega) (by omega) (by omega),decide_eq_false (by omega)]
 unfold zb0;simp only [Bool.false_eq_true,if_false];rw [ew];refine zgN ha ?_
 rw [if_neg (by simp;omega),if_neg (by simp;omega),decide_eq_false (by omega)]
 unfold zcC;simp only [Bool.false_eq_true,if_false];refine (fill (N:=g.2.1) (by omega) (f:=fun _=>decide ((ix l k).1=91)) (fin:=fun o=>zfo g l k Fa 0 o) (fun t out t0 t1 ho => ?_) (fun out ho => ?_) (zgS (by omega))).trans ?_
 ·rw [zhS];unfold zcA;rw [if_pos (decide_eq_true t1),zao (by omega),zao (by omega),zao (zaT (by omega) (by omega))]
 ·rw [zhS];unfold zcA;simp only [Int.lt_irrefl,decide_false,Bool.false_eq_true,if_false]
 ·refine zt9 (N:=g.2.1) (st:=arS (ix l k).1 (ix l k).2.1 Fa) (fin:=some) (fun _ _=>znv) (fun t out t0 t1 ho => ?_) (fun out ho => ?_) (zmL (by omega))
  ·rw [zhT];unfold zcB;have hx:=ok.x _ (zqP (l:=g.2.2.1) t0 t1);have f1:fits (t+1):=zaT (by omega) (by omega)
   generalize hxx:ix g.2.2.1 t=x at hx;have q1:0<=t/\t < (g.2.2.1.length:Int):=by omega
   have q2:0<=x.2.2.1/\x.2.2.1 < (Fa.length:Int):=by omega
   have q3:0<=x.1/\x.1 < (out.length:Int):=by omega
   have q4:x.1.toNat < out.length:=by omega
   have q5:∀ v,0<=x.1/\x.1 < ((out.set x.1.toNat v).length:Int):=fun v=>by simp;omega
   have q6:∀ v,x.1.toNat < (out.set x.1.toNat v).length:=fun v=>by simp;omega
   unfold zdk zdl zdm;rw [if_pos (decide_eq_true t1),zao q1];simp only [hxx,zao q2,zao q3,zao q4,zao (q5 _),zao (q6 _),zao f1];unfold arS;have h60:(ix l k).1=60\/(ix l k).1=91:=hs;rcases h60 with h60 | h60<;>by_cases c1:x.2.1=(ix l k).2.1<;>cases hu:ix Fa x.2.2.1<;>simp [c1,h60]
  ·rw [zhT];unfold zcB;simp only [Int.lt_irrefl,decide_false,Bool.false_eq_true,if_false]
theorem zwM (ok:GrOk g) (hk:0<=k/\k < (l.length:Int)) (hs:(ix l k).1=109\/(ix l k).1=110):zaL g l k S=za6 zaL g l k S (tb g.2.1 fun _=>decide ((ix l k).1=110)):=by
 have hn:=ok.n;rw [zsK ok hk (by omega) (by omega) (by omega),decide_eq_true hs]
 unfold zb0;simp only [if_true];refine fill (N:=g.2.1) (by omega) (f:=fun _=>decide ((ix l k).1=110)) (fin:=fun o=>za6 zaL g l k S o) (fun t out t0 t1 ho => ?_) (fun out ho => ?_) (zgS (by omega))
 ·rw [zhP];unfold zcx;rw [if_pos (decide_eq_true t1),zao (by omega),zao (by omega),zao (zaT (by omega) (by omega))]
 ·rw [zhP];unfold zcx;simp only [Int.lt_irrefl,decide_false,Bool.false_eq_true,if_false]
theorem zwN (hS:S.length<=10) {F:List Bool->List Bool} {X:List Bool} (hX:X.length<=100) (hF:zaL g l (xA (ix l k)) (S++[X])=some (F X)) (hFl:(F X).length<=100):
  za6 zaL g l k S X=if F X=X then some X else za6 zaL g l k S (F X):=by
 rw [zm5];conv=>lhs;unfold zcO
 rw [zao (zhI (by simp;omega)),zao (zhI (by simp;omega)),List.nil_append,ew]
 refine zgN hF ?_
 rw [zse (by omega)]
 simp only [Option.bind_some,decide_eq_true_eq]
end
def Mn (g:Gr) (l:L5) (q:List Bool) (t:Tr ND) (k:Int):Prop:=∃ F:List (List Bool)->List Bool,(∀ S,SOk g.2.1 q S->zaj t g S=some (F S)/\zaL g l k S=some (F S)/\((F S).length:Int)=g.2.1)/\
 ∀ S T,SOk g.2.1 q S->SOk g.2.1 q T->Le g.2.1 q S T->Sub g.2.1 (F S) (F T)
theorem zvZ {g:Gr} (ok:GrOk g) {sg nn:Int} (hs:sg=60\/sg=91) {a b:List Bool} (h:Sub g.2.1 a b):Sub g.2.1 (AR g sg nn a) (AR g sg nn b):=by
 have hn:=ok.n;have key:∀ (L:List Arc),(∀ x∈L,x∈g.2.2.1)->∀ o o':List Bool,(o.length:Int)=g.2.1->(o'.length:Int)=g.2.1->Sub g.2.1 o o'->Sub g.2.1 (L.foldl (arS sg nn a) o) (L.foldl (arS sg nn b) o'):=by
  intro L
  induction L with
  | nil=>intro _ o o' _ _ ho;exact ho
  | cons x L ih=>
   intro hL o o' h1 h2 ho;have hx:=ok.x x (hL x (List.mem_cons_self ..));refine ih (fun y hy=>hL y (List.mem_cons_of_mem _ hy)) _ _ (by rw [znv];exact h1) (by rw [znv];exact h2) fun p p0 p1 hp => ?_
   have hab:=h x.2.2.1 (by omega) (by omega)
   unfold arS at hp ⊢;rcases hs with rfl | rfl
   ·simp only [decide_true] at hp ⊢;by_cases c1:x.2.1=nn/\ix a x.2.2.1=true
    ·have c2:x.2.1=nn/\ix b x.2.2.1=true:=⟨c1.1,hab c1.2⟩;rw [if_pos c1] at hp;rw [if_pos c2];by_cases e:x.1=p
     ·subst e;exact zfN p0 (by omega)
     ·rw [zi1 (by omega) p0 e] at hp ⊢;exact ho p p0 p1 hp
    ·rw [if_neg c1] at hp;have hq:=ho p p0 p1 hp;by_cases c2:x.2.1=nn/\ix b x.2.2.1=true
     ·rw [if_pos c2];by_cases e:x.1=p
      ·subst e;exact zfN p0 (by omega)
      ·rw [zi1 (by omega) p0 e];exact hq
     ·rw [if_neg c2];exact hq
   ·simp only [Int.reduceEq,decide_false] at hp ⊢;by_cases c2:x.2.1=nn/\ix b x.2.2.1=false
    ·have c1:x.2.1=nn/\ix a x.2.2.1=false:=⟨c2.1,by
      cases e:ix a x.2.2.1
      ·rfl
      ·rw [hab e] at c2;exact absurd c2.2 (by decide)⟩
     rw [if_pos c1] at hp;rw [if_pos c2];by_cases e:x.1=p
     ·subst e;rw [zfN p0 (by omega)] at hp;cases hp
     ·rw [zi1 (by omega) p0 e] at hp ⊢;exact ho p p0 p1 hp
    ·rw [if_neg c2];by_cases c1:x.2.1=nn/\ix a x.2.2.1=false
     ·rw [if_pos c1] at hp;by_cases e:x.1=p
      ·subst e;rw [zfN p0 (by omega)] at hp;cases hp
      ·rw [zi1 (by omega) p0 e] at hp;exact ho p p0 p1 hp
     ·rw [if_neg c1] at hp;exact ho p p0 p1 hp
 have hl:=zmL (N:=g.2.1) (f:=fun _=>decide (sg=91)) (by omega)
 exact key _ (fun _ h=>h) _ _ hl hl (Sub.refl _ _)
section
variable {g:Gr} {l:L5}
theorem zxE (ok:GrOk g) {q:List Bool} {k:Int} {a:Tr ND} (hk:0<=k/\k < (l.length:Int)) (hs:(ix l k).1=109\/(ix l k).1=110) (hq:q.length < 3) (ha:Mn g l (q++[false]) a (xA (ix l k))):Mn g l q (Tr.mk (vT (ix l k)) [a]) k:=by
 have hn:=ok.n;obtain ⟨Fa,h1,h2⟩:=ha;have hF:∀ {S},SOk g.2.1 q S->∀ X:List Bool,(X.length:Int)=g.2.1->((Fa (S++[X])).length:Int)=g.2.1:=fun hS X hX=>(h1 _ (hS.snoc hX)).2.2
 have hM:∀ {S T},SOk g.2.1 q S->SOk g.2.1 q T->Le g.2.1 q S T->∀ X Y:List Bool,(X.length:Int)=g.2.1->(Y.length:Int)=g.2.1->Sub g.2.1 X Y->Sub g.2.1 (Fa (S++[X])) (Fa (T++[Y])):=fun hS hT hle X Y hX hY hXY=>h2 _ _ (hS.snoc hX) (hT.snoc hY) (hle.snoc hS.n hT.n hXY)
 have hlp:∀ {S},SOk g.2.1 q S->∀ X:List Bool,(X.length:Int)=g.2.1->zaA zaj (Tr.mk (vT (ix l k)) [a]) g S X=if Fa (S++[X])=X then some X else zaA zaj (Tr.mk (vT (ix l k)) [a]) g S (Fa (S++[X])):=fun {S} hS X hX=>by
  have:=hF hS X hX;have h3:=hS.n;exact zwF (F:=fun X=>Fa (S++[X])) (by omega) (by omega) (h1 _ (hS.snoc hX)).1 (by show (Fa (S++[X])).length<=100;omega)
 have hlr:∀ {S},SOk g.2.1 q S->∀ X:List Bool,(X.length:Int)=g.2.1->za6 zaL g l k S X=if Fa (S++[X])=X then some X else za6 zaL g l k S (Fa (S++[X])):=fun {S} hS X hX=>by
  have:=hF hS X hX;have h3:=hS.n;exact zwN (F:=fun X=>Fa (S++[X])) (by omega) (by omega) (h1 _ (hS.snoc hX)).2.1 (by show (Fa (S++[X])).length<=100;omega)
 have hX0:((tb g.2.1 fun _=>decide ((ix l k).1=110)).length:Int)=g.2.1:=zmL (by omega)
 have hp0:∀ S,zaj (Tr.mk (vT (ix l k)) [a]) g S=zaA zaj (Tr.mk (vT (ix l k)) [a]) g S (tb g.2.1 fun _=>decide ((ix l k).1=110)):=fun S=>zwE ok hs
 have hr0:∀ S,zaL g l k S=za6 zaL g l k S (tb g.2.1 fun _=>decide ((ix l k).1=110)):=fun S=>zwM ok hk hs
 by_cases h110:(ix l k).1=110
 ·-- the greatest
  rw [h110] at hX0 hp0 hr0;have ex:∀ S,SOk g.2.1 q S->∃ R,zaj (Tr.mk (vT (ix l k)) [a]) g S=some R/\zaL g l k S=some R/\(R.length:Int)=g.2.1/\Fa (S++[R])=R/\∀ Y:List Bool,(Y.length:Int)=g.2.1->Sub g.2.1 Y (Fa (S++[Y]))->Sub g.2.1 Y R:=by
   intro S hS;have hpre:∀ X:List Bool,(X.length:Int)=g.2.1->(Sub g.2.1 (Fa (S++[X])) X/\∀ Y:List Bool,(Y.length:Int)=g.2.1->Sub g.2.1 Y (Fa (S++[Y]))->Sub g.2.1 Y X)->(Sub g.2.1 (Fa (S++[Fa (S++[X])])) (Fa (S++[X]))/\∀ Y:List Bool,(Y.length:Int)=g.2.1->Sub g.2.1 Y (Fa (S++[Y]))->Sub g.2.1 Y (Fa (S++[X])))/\∀ p,0<=p->p < g.2.1->ix (Fa (S++[X])) p=true->ix X p=true:=
    fun X hX ⟨k1,k2⟩=>⟨⟨hM hS hS (Le.refl _ _ _) _ _ (hF hS X hX) hX k1,fun Y hY hYY=>hYY.trans (hM hS hS (Le.refl _ _ _) _ _ hY hX (k2 Y hY hYY))⟩,k1⟩
   have h0:Sub g.2.1 (Fa (S++[tb g.2.1 fun _=>decide ((110:Int)=110)])) (tb g.2.1 fun _=>decide ((110:Int)=110))/\∀ Y:List Bool,(Y.length:Int)=g.2.1->Sub g.2.1 Y (Fa (S++[Y]))->Sub g.2.1 Y (tb g.2.1 fun _=>decide ((110:Int)=110)):=
    ⟨fun p p0 p1 _=>by rw [zuj p0 p1];rfl,fun _ _ _ p p0 p1 _=>by rw [zuj p0 p1];rfl⟩
   obtain ⟨R,e1,l1,⟨m1,m2⟩,f1⟩:=zol (F:=fun X=>Fa (S++[X])) (hlp hS) (hF hS) hpre hX0 h0
   obtain ⟨R',e2,l2,⟨m3,m4⟩,f2⟩:=zol (F:=fun X=>Fa (S++[X])) (hlr hS) (hF hS) hpre hX0 h0
   have f1:Fa (S++[R])=R:=f1;have f2:Fa (S++[R'])=R':=f2;have:R=R':=Sub.antisymm l1 l2 (m4 R l1 (by rw [f1];exact Sub.refl _ _)) (m2 R' l2 (by rw [f2];exact Sub.refl _ _))
   subst this;exact ⟨R,(hp0 S).trans e1,(hr0 S).trans e2,l1,f1,m2⟩
  refine ⟨fun S=>(zaj (Tr.mk (vT (ix l k)) [a]) g S).getD [],fun S hS => ?_,fun S T hS hT hle => ?_⟩
  ·obtain ⟨R,e1,e2,l1,_⟩:=ex S hS;show _=some ((zaj (Tr.mk (vT (ix l k)) [a]) g S).getD [])/\_=some ((zaj (Tr.mk (vT (ix l k)) [a]) g S).getD [])/\(((zaj (Tr.mk (vT (ix l k)) [a]) g S).getD []).length:Int)=_;rw [e1];exact ⟨rfl,e2,l1⟩
  ·obtain ⟨R,e1,_,l1,f1,_⟩:=ex S hS;obtain ⟨R',e2,_,l2,f2,m2⟩:=ex T hT;show Sub g.2.1 ((zaj (Tr.mk (vT (ix l k)) [a]) g S).getD []) ((zaj (Tr.mk (vT (ix l k)) [a]) g T).getD []);rw [e1,e2];refine m2 R l1 ?_
   have:=hM hS hT hle R R l1 l1 (Sub.refl _ _)
   rwa [f1] at this
 ·-- the least
  have ex:∀ S,SOk g.2.1 q S->∃ R,zaj (Tr.mk (vT (ix l k)) [a]) g S=some R/\zaL g l k S=some R/\(R.length:Int)=g.2.1/\Fa (S++[R])=R/\∀ Y:List Bool,(Y.length:Int)=g.2.1->Sub g.2.1 (Fa (S++[Y])) Y->Sub g.2.1 R Y:=by
   intro S hS;have hpre:∀ X:List Bool,(X.length:Int)=g.2.1->(Sub g.2.1 X (Fa (S++[X]))/\∀ Y:List Bool,(Y.length:Int)=g.2.1->Sub g.2.1 (Fa (S++[Y])) Y->Sub g.2.1 X Y)->(Sub g.2.1 (Fa (S++[X])) (Fa (S++[Fa (S++[X])]))/\∀ Y:List Bool,(Y.length:Int)=g.2.1->Sub g.2.1 (Fa (S++[Y])) Y->Sub g.2.1 (Fa (S++[X])) Y)/\∀ p,0<=p->p < g.2.1->ix X p=true->ix (Fa (S++[X])) p=true:=
    fun X hX ⟨k1,k2⟩=>⟨⟨hM hS hS (Le.refl _ _ _) _ _ hX (hF hS X hX) k1,fun Y hY hYY=>(hM hS hS (Le.refl _ _ _) _ _ hX hY (k2 Y hY hYY)).trans hYY⟩,k1⟩
   have hz:∀ p,0<=p->p < g.2.1 -> ¬ ix (tb g.2.1 fun _=>decide ((ix l k).1=110)) p=true:=fun p p0 p1=>by rw [zuj p0 p1,decide_eq_false h110];decide
   have h0:Sub g.2.1 (tb g.2.1 fun _=>decide ((ix l k).1=110)) (Fa (S++[tb g.2.1 fun _=>decide ((ix l k).1=110)]))/\∀ Y:List Bool,(Y.length:Int)=g.2.1->Sub g.2.1 (Fa (S++[Y])) Y->Sub g.2.1 (tb g.2.1 fun _=>decide ((ix l k).1=110)) Y:=
    ⟨fun p p0 p1 h=>absurd h (hz p p0 p1),fun _ _ _ p p0 p1 h=>absurd h (hz p p0 p1)⟩
   obtain ⟨R,e1,l1,⟨m1,m2⟩,f1⟩:=zq7 (F:=fun X=>Fa (S++[X])) (hlp hS) (hF hS) hpre hX0 h0
   obtain ⟨R',e2,l2,⟨m3,m4⟩,f2⟩:=zq7 (F:=fun X=>Fa (S++[X])) (hlr hS) (hF hS) hpre hX0 h0
   have f1:Fa (S++[R])=R:=f1;have f2:Fa (S++[R'])=R':=f2;have:R=R':=Sub.antisymm l1 l2 (m2 R' l2 (by rw [f2];exact Sub.refl _ _)) (m4 R l1 (by rw [f1];exact Sub.refl _ _))
   subst this;exact ⟨R,(hp0 S).trans e1,(hr0 S).trans e2,l1,f1,m2⟩
  refine ⟨fun S=>(zaj (Tr.mk (vT (ix l k)) [a]) g S).getD [],fun S hS => ?_,fun S T hS hT hle => ?_⟩
  ·obtain ⟨R,e1,e2,l1,_⟩:=ex S hS;show _=some ((zaj (Tr.mk (vT (ix l k)) [a]) g S).getD [])/\_=some ((zaj (Tr.mk (vT (ix l k)) [a]) g S).getD [])/\(((zaj (Tr.mk (vT (ix l k)) [a]) g S).getD []).length:Int)=_;rw [e1];exact ⟨rfl,e2,l1⟩
  ·obtain ⟨R,e1,_,l1,f1,m1⟩:=ex S hS;obtain ⟨R',e2,_,l2,f2,_⟩:=ex T hT;show Sub g.2.1 ((zaj (Tr.mk (vT (ix l k)) [a]) g S).getD []) ((zaj (Tr.mk (vT (ix l k)) [a]) g T).getD []);rw [e1,e2];refine m1 R' l2 ?_
   have:=hM hS hT hle R' R' l2 l2 (Sub.refl _ _)
   rwa [f2] at this
theorem zxD (ok:GrOk g) {q:List Bool} {t:Tr ND} {k:Int} (h:Stn l q t k):Mn g l q t k:=by
 have hn:=ok.n
 induction h with
 | leaf q k h0 h1 hs=>
  rcases hs with hs | hs
  ·refine ⟨fun _=>List.replicate g.2.1.toNat false,fun S hS=>⟨?_,rw_48 ok ⟨h0,h1⟩ hs,zgS (by omega)⟩,fun _ _ _ _ _=>Sub.refl _ _⟩
   unfold vT;rw [hs];exact pw_48 ok
  ·refine ⟨fun _=>List.replicate g.2.1.toNat true,fun S hS=>⟨?_,rw_49 ok ⟨h0,h1⟩ hs,by simp;omega⟩,fun _ _ _ _ _=>Sub.refl _ _⟩
   unfold vT;rw [hs];exact pw_49 ok
 | name q k j h0 h1 hs hnm hj=>
  have hjq:j < q.length:=(List.getElem?_eq_some_iff.1 hj).1;have hl:∀ S,SOk g.2.1 q S->((S.getD j []).length:Int)=g.2.1:=fun S hS=>by
   have hjS:j < S.length:=by rw [hS.n];exact hjq
   rw [List.getD_eq_getElem?_getD,List.getElem?_eq_getElem hjS];exact hS.l _ (List.getElem_mem hjS)
  refine ⟨fun S=>S.getD j [],fun S hS=>⟨?_,rw_88 ok ⟨h0,h1⟩ hs (by rw [hS.n];exact hjq) hnm (hl S hS),hl S hS⟩,fun S T hS hT hle=>((hle j hjq).1 (by rw [List.getD_eq_getElem?_getD,hj];rfl))⟩
  unfold vT;rw [hs,hnm];exact pw_88 ok (by rw [hS.n];exact hjq)
 | no q k a h0 h1 hs ha iha=>
  obtain ⟨Fa,f1,f2⟩:=iha;refine ⟨fun S=>tb g.2.1 fun p => !ix (Fa S) p,fun S hS => ?_,fun S T hS hT hle=>Sub.tb fun p p0 p1 hp => ?_⟩
  ·obtain ⟨a1,a2,a3⟩:=f1 S hS.neg;refine ⟨?_,rw_33 ok ⟨h0,h1⟩ hs a2 a3,zmL (by omega)⟩
   unfold vT;rw [hs];exact pw_33 ok a1 a3
  ·have:=f2 T S hT.neg hS.neg hle.neg p p0 p1
   cases e:ix (Fa T) p
   ·rfl
   ·rw [this e] at hp;cases hp
 | arrow q k a h0 h1 hs ha iha=>
  obtain ⟨Fa,f1,f2⟩:=iha;refine ⟨fun S=>AR g (ix l k).1 (ix l k).2.1 (Fa S),fun S hS => ?_,fun S T hS hT hle=>zvZ ok hs (f2 S T hS hT hle)⟩
  obtain ⟨a1,a2,a3⟩:=f1 S hS;exact ⟨zxF ok hs a1 a3,zxN ok ⟨h0,h1⟩ hs a2 a3,zxm ok⟩
 | fix q k a h0 h1 hs hnm hq ha iha=>exact zxE ok ⟨h0,h1⟩ hs hq iha
 | two q k a b h0 h1 hs ha hb iha ihb=>
  obtain ⟨Fa,f1,f2⟩:=iha;obtain ⟨Fb,g1,g2⟩:=ihb;refine ⟨fun S=>tb g.2.1 fun p=>if (ix l k).1=124 then ix (Fa S) p || ix (Fb S) p else ix (Fa S) p && ix (Fb S) p,fun S hS => ?_,fun S T hS hT hle=>Sub.tb fun p p0 p1 hp => ?_⟩
  ·obtain ⟨a1,a2,a3⟩:=f1 S hS;obtain ⟨b1,b2,b3⟩:=g1 S hS;exact ⟨zxG ok hs a1 b1 a3 b3,zxO ok ⟨h0,h1⟩ hs a2 b2 a3 b3,zmL (by omega)⟩
  ·have u:=f2 S T hS hT hle p p0 p1;have v:=g2 S T hS hT hle p p0 p1;by_cases c:(ix l k).1=124
   ·rw [if_pos c] at hp ⊢;rcases Bool.or_eq_true_iff.1 hp with h | h
    ·rw [u h];rfl
    ·rw [v h];simp
   ·rw [if_neg c] at hp ⊢;obtain ⟨h,h'⟩:=Bool.and_eq_true_iff.1 hp;rw [u h,v h'];rfl
end
theorem law_true (g:Gr) (c:List UInt8):zi3 g c=some true:=by
 unfold zi3 znV;rw [ew,zop,zoL];simp only [Option.bind_some];by_cases h0:grE g=0
 ·have ok:=zvg h0;have hn:=ok.n;rw [h0];rcases zo6 c with ⟨a,b,l,e1,e2,hl,hs⟩ | ⟨a,cd,pl,e1,e2,hcd⟩
  ·obtain ⟨F,hF,_⟩:=zxD ok hs;obtain ⟨e3,e4,hR⟩:=hF [] ⟨rfl,fun s hs=>by cases hs⟩
   generalize F []=R at e3 e4 hR;simp only [e1,e2,e3,Option.bind_some,not_true_eq_false,decide_false,decide_true,Bool.false_eq_true,if_false,if_true];rw [zu0 (by omega)]
   unfold zcL zcM;simp only [Option.bind_some,not_true_eq_false,decide_false,decide_true,Bool.false_eq_true,if_false,if_true];rw [ew,e4];simp only [Option.bind_some];rw [zse (by omega)]
   simp
  ·simp only [e1,e2,hcd,Option.bind_some,not_true_eq_false,not_false_eq_true,decide_false,decide_true,Bool.false_eq_true,if_false,if_true];unfold zcL zcM;simp
 ·simp only [h0,Option.bind_some,not_false_eq_true,decide_false,decide_true,Bool.false_eq_true,if_false,if_true];rcases zo6 c with ⟨a,b,l,e1,e2,hl,hs⟩ | ⟨a,cd,pl,e1,e2,hcd⟩
  ·simp only [e2,Option.bind_some];unfold zcL zcM;simp [h0]
  ·simp only [e2,Option.bind_some];unfold zcL zcM;simp [h0]
end Go.Proofs.Ytiiljakjbifdjaa.fixHoldsW
