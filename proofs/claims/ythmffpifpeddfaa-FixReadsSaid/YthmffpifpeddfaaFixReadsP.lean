import Derived.Test.YthmffpifpeddfaaFixReadsD
set_option maxHeartbeats 1000000
set_option maxRecDepth 20000
set_option linter.unusedSimpArgs false
set_option linter.unusedVariables false
set_option linter.unusedSectionVars false
namespace Go.Proofs.Ythmffpifpeddfaa.fixReadsW
open Go Go.Ab
abbrev ND:=Int×Int×Unit
abbrev NR:=Int×Int×Int×Int×Unit
abbrev L5:=List NR
abbrev PS:=List (UInt8×Bool)
def nsP (ps:PS):FxNm:=ps.map fun p=>((p.1.toNat:Int),p.2,())
def nmR (ps:PS):List UInt8:=ps.map (·.1)
def trR (ps:PS):List Bool:=ps.map (·.2)
def trn (ps:PS):PS:=ps.map fun p=>(p.1,!p.2)
theorem zlx (ps:PS):(trn ps).length=ps.length:=List.length_map _
theorem zrS (ps:PS):trn (trn ps)=ps:=by
 unfold trn;rw [List.map_map];conv=>rhs;rw [<- List.map_id ps]
 congr 1;funext p;simp
theorem zfA (ps:PS):(nsP ps).length=ps.length:=List.length_map _
theorem zbF (ps:PS):(nmR ps).length=ps.length:=List.length_map _
theorem zbL (ps:PS):(trR ps).length=ps.length:=List.length_map _
theorem zps (ps:PS):nmR (trn ps)=nmR ps:=by unfold nmR trn;rw [List.map_map];rfl
theorem znb (ps:PS):trR (trn ps)=(trR ps).map not:=by unfold trR trn;rw [List.map_map,List.map_map];rfl
def negP (x:Int×(Bool×Unit)):Int×(Bool×Unit):=(x.1,(!x.2.1,x.2.2))
theorem zri (ps:PS):nsP (trn ps)=(nsP ps).map negP:=by unfold nsP trn;rw [List.map_map,List.map_map];rfl
def nowT (c:List UInt8) (i:Int):Int:=if i < c.length then bAt c i else 0
theorem zff {c:List UInt8} {i:Int} (h:nowT c i≠0):i < c.length:=by
 unfold nowT at h;by_cases h1:i < c.length
 ·exact h1
 ·rw [if_neg h1] at h;exact absurd rfl h
theorem znL {α:Type} (g:α->α) (l:List α) (k:Nat) (x:α) (h:l[k]? =some x):(l.set k (g x)).take (k+1)++((l.set k (g x)).drop (k+1)).map g=l.take k++(l.drop k).map g:=by
 have hk:k < l.length:=(List.getElem?_eq_some_iff.1 h).1;have hx:l[k]=x:=(List.getElem?_eq_some_iff.1 h).2;rw [List.take_add_one,List.take_set_of_le (Nat.le_refl k),List.getElem?_set_self hk,List.drop_set_of_lt (Nat.lt_succ_self k),List.drop_eq_getElem_cons hk,hx];simp
section
variable {c nm:List UInt8} {i n s f a:Int} {l:L5} {ns:FxNm} {tr:List Bool}
theorem zoe (h0:0<=i):zby (c,(i,(s,(n,(ns,())))))=some (nowT c i):=by
 unfold zby nowT;by_cases h:i < (c.length:Int)
 ·rw [if_pos (by simp [h]),zaH ⟨h0,h⟩,if_pos h]
 ·simp [h]
theorem ziJ {k:Int}:za0 (c,(i,(s,(n,(ns,()))))) k=some (.inr (k,i)):=rfl
theorem zjO (h0:0<=i):zbz (c,(i,(s,(n,(nm,(tr,(l,((f,(a,())),()))))))))=some (nowT c i):=by
 unfold zbz nowT;by_cases h:(c.length:Int)<=i
 ·have : ¬ i < (c.length:Int):=by omega
  simp [h,this]
 ·have h2:i < c.length:=by omega
  simp only [h,decide_false,Bool.false_eq_true,if_false,if_pos h2];exact zaH ⟨h0,h2⟩
theorem r_ok:zcT (c,(i,(s,(n,(nm,(tr,(l,((f,(a,())),()))))))))=some (decide (f=0)):=rfl
theorem zeV {k:Int}:zaG k c i s n nm f a tr l=if f=0 then some (c,i,s,n,nm,tr,l,k,i) else some (c,i,s,n,nm,tr,l,f,a):=by
 unfold zaG;by_cases h:f=0<;>simp [h]
theorem zfg (hn:0<=n/\n<=30):zaI c i s n ns=if 30 < n+1 then some (.inr (7,i)) else some (.inl (c,i,s,n+1,ns)):=by
 unfold zaI;rw [zaH (zbA (by omega) (by omega))]
 by_cases h:(30:Int) < n+1
 ·simp [h,ziJ,zaE]
 ·simp only [h,decide_false,Bool.false_eq_true,if_false]
theorem zet (h0:0<=i) (h1:i<=5000) (hn:0<=n/\n<=40):
  zaC c i s n nm 0 0 tr l=if 30 < n+1 then some (c,i+1,s,n+1,nm,tr,l,7,i) else some (c,i+1,s,n+1,nm,tr,l,0,0):=by
 have f3:fits (i+1):=zbA (by omega) (by omega)
 unfold zaC;rw [zaH (zbA (by omega) (by omega))]
 by_cases h:(30:Int) < n+1
 ·simp [h,zeV,zaH f3]
 ·simp [h,zaH f3]
theorem zfl (h:l.length<=1000) {k v x y:Int}:zbf (k,(v,(x,(y,())))) c i s n nm f a tr l=some ((l.length:Int),c,i,s,n,nm,tr,l++[(k,v,x,y,())],f,a):=by
 unfold zbf;have e:(((l++[(k,(v,(x,(y,()))))]).length:Int) - 1)=(l.length:Int):=by simp
 rw [zaH (zjQ (by simp;omega))]
 simp only [e];rw [zaH (zbA (by omega) (by omega))]
theorem zpy {k:Int} (h0:0<=i/\i<=5000):zbD k c i s n ns=if nowT c i=k then some (.inl (c,i+1,s,n,ns)) else some (.inr (4,i)):=by
 have f2:fits (i+1):=zbA (by omega) (by omega)
 unfold zbD;rw [zoe h0.1];by_cases h:nowT c i=k
 ·simp [h,zaH f2]
 ·simp [h,ziJ,zaE]
theorem znF {k:Int} (h0:0<=i/\i<=5000):za2 k c i s n nm 0 0 tr l=if nowT c i=k then some (c,i+1,s,n,nm,tr,l,0,0) else some (c,i+1,s,n,nm,tr,l,4,i):=by
 have f2:fits (i+1):=zbA (by omega) (by omega)
 unfold za2;rw [zjO h0.1];by_cases h:nowT c i=k
 ·simp [h,zaH f2]
 ·simp [h,zeV,zaH f2]
theorem znn {k:Int} (hf:f≠0) (h0:0<=i/\i<=5000):za2 k c i s n nm f a tr l=some (c,i+1,s,n,nm,tr,l,f,a):=by
 have f2:fits (i+1):=zbA (by omega) (by omega)
 unfold za2;rw [zjO h0.1];by_cases h:nowT c i=k
 ·simp [h,zaH f2]
 ·simp [h,zeV,hf,zaH f2]
theorem zkh (hf:f≠0):zah c i s n nm f a tr l=some (0,c,i,s,n,nm,tr,l,f,a):=by
 rw [zeO];unfold zbv;rw [r_ok];simp [hf]
theorem zk8 (hf:f≠0) (h0:0<=i) (x:Int):zaW zah x c i s n nm f a tr l=some (x,c,i,s,n,nm,tr,l,f,a):=by
 rw [zdn];unfold zaS;rw [zjO h0];simp only [Option.bind_some];rw [r_ok];simp [hf]
theorem zr4 (hf:f≠0) (h0:0<=i):za1 zah c i s n nm f a tr l=some (0,c,i,s,n,nm,tr,l,f,a):=by
 unfold za1;rw [zkh hf];simp only [Option.bind_some];exact zk8 hf h0 0
theorem zk9 (hf:f≠0) (h0:0<=i) (x:Int):zaN zah x c i s n nm f a tr l=some (x,c,i,s,n,nm,tr,l,f,a):=by
 rw [zc5];unfold zaO;rw [zjO h0];simp only [Option.bind_some];rw [r_ok];simp [hf]
theorem zrj (l0:FxNm) (hl:l0.length<=1000):∀ (m:Nat) (k:Nat) (l1:FxNm),l1.length=l0.length->l0.length - k=m->zch l0 (k:Int) c i s n l1=some (c,i,s,n,l1.take k++(l1.drop k).map negP):=by
 intro m
 induction m with
 | zero=>
  intro k l1 h1 hm;rw [zdj];unfold zaR;have : ¬ (k:Int) < (l0.length:Int):=by omega
  simp only [this,decide_false,Bool.false_eq_true,if_false];rw [List.take_of_length_le (by omega),List.drop_of_length_le (by omega)];simp
 | succ m ih=>
  intro k l1 h1 hm;rw [zdj];unfold zaR;have hk:(k:Int) < (l0.length:Int):=by omega
  have hk1:k < l1.length:=by omega
  have e:ix l1 (k:Int)=l1[k]:=by rw [zqa (by omega) (by omega)];rfl
  simp only [hk,decide_true,if_true];rw [zaH (by omega),zaH (by simpa using hk1),zaH (by omega),zaH (by simpa using hk1),zaH (zbA (by omega) (by omega)),Int.toNat_natCast,e]
  have:=ih (k+1) (l1.set k (negP l1[k])) (by simpa using h1) (by omega)
  rw [znL negP l1 k l1[k] (List.getElem?_eq_getElem hk1)] at this;rw [<- this];rfl
theorem zqK {ps:PS} (h:ps.length<=10):zcm c i s n (nsP ps)=some (c,i,s,n,nsP (trn ps)):=by
 unfold zcm;have:=zrj (c:=c) (i:=i) (s:=s) (n:=n) (nsP ps) (by rw [zfA];omega) _ 0 (nsP ps) rfl rfl
 rw [show ((0:Nat):Int)=0 from rfl] at this;rw [this,zri];rfl
theorem zrn:∀ (m:Nat) (k:Nat) (tr:List Bool),tr.length<=1000->tr.length - k=m->zcj (k:Int) c i s n nm f a tr l=some (c,i,s,n,nm,tr.take k++(tr.drop k).map not,l,f,a):=by
 intro m
 induction m with
 | zero=>
  intro k tr h1 hm;rw [zdo];unfold zaT;have : ¬ (k:Int) < (tr.length:Int):=by omega
  simp only [this,decide_false,Bool.false_eq_true,if_false];rw [List.take_of_length_le (by omega),List.drop_of_length_le (by omega)];simp
 | succ m ih=>
  intro k tr h1 hm;rw [zdo];unfold zaT;have hk:(k:Int) < (tr.length:Int):=by omega
  have hk1:k < tr.length:=by omega
  have e:ix tr (k:Int)=tr[k]:=by rw [zqa (l:=tr) (by omega) (by omega)];rfl
  simp only [hk,decide_true,if_true];rw [zaH ⟨by omega,trivial⟩,zaH (by simpa using hk1),zaH ⟨by omega,trivial⟩,zaH (by simpa using hk1),zaH (zbA (by omega) (by omega)),Int.toNat_natCast,e]
  have:=ih (k+1) (tr.set k (!tr[k])) (by simpa using h1) (by simp;omega)
  rw [znL not tr k tr[k] (List.getElem?_eq_getElem hk1)] at this;rw [<- this];rfl
theorem zmc (h:tr.length<=10):zcp c i s n nm f a tr l=some (c,i,s,n,nm,tr.map not,l,f,a):=by
 unfold zcp;have:=zrn (c:=c) (i:=i) (s:=s) (n:=n) (nm:=nm) (f:=f) (a:=a) (l:=l) _ 0 tr (by omega) rfl
 rw [show ((0:Nat):Int)=0 from rfl] at this;rw [this];rfl
end
def vT (x:NR):ND:=(x.1,x.2.1,())
def xA (x:NR):Int:=x.2.2.1
def xB (x:NR):Int:=x.2.2.2.1
inductive Stn (l:L5):List Bool->Tr ND->Int->Prop
 | leaf (q:List Bool) (k:Int) (h0:0<=k) (h1:k < l.length) (hs:(ix l k).1=48\/(ix l k).1=49):Stn l q (Tr.mk (vT (ix l k)) []) k
 | name (q:List Bool) (k:Int) (j:Nat) (h0:0<=k) (h1:k < l.length) (hs:(ix l k).1=88) (hn:(ix l k).2.1=j) (hj:q[j]? =some false):Stn l q (Tr.mk (vT (ix l k)) []) k
 | no (q:List Bool) (k:Int) (a:Tr ND) (h0:0<=k) (h1:k < l.length) (hs:(ix l k).1=33) (ha:Stn l (q.map not) a (xA (ix l k))):Stn l q (Tr.mk (vT (ix l k)) [a]) k
 | arrow (q:List Bool) (k:Int) (a:Tr ND) (h0:0<=k) (h1:k < l.length) (hs:(ix l k).1=60\/(ix l k).1=91) (ha:Stn l q a (xA (ix l k))):Stn l q (Tr.mk (vT (ix l k)) [a]) k
 | fix (q:List Bool) (k:Int) (a:Tr ND) (h0:0<=k) (h1:k < l.length) (hs:(ix l k).1=109\/(ix l k).1=110) (hn:(ix l k).2.1=q.length) (hq:q.length < 3) (ha:Stn l (q++[false]) a (xA (ix l k))):Stn l q (Tr.mk (vT (ix l k)) [a]) k
 | two (q:List Bool) (k:Int) (a b:Tr ND) (h0:0<=k) (h1:k < l.length) (hs:(ix l k).1=38\/(ix l k).1=124) (ha:Stn l q a (xA (ix l k))) (hb:Stn l q b (xB (ix l k))):Stn l q (Tr.mk (vT (ix l k)) [a,b]) k
theorem Stn.mono {l m:L5} {q:List Bool} {t:Tr ND} {k:Int} (h:Stn l q t k):Stn (l++m) q t k:=by
 induction h with
 | leaf q k h0 h1 hs=>
  have e:ix (l++m) k=ix l k:=zce h0 h1;rw [<- e] at hs ⊢;exact .leaf q k h0 (by simp;omega) hs
 | name q k j h0 h1 hs hn hj=>
  have e:ix (l++m) k=ix l k:=zce h0 h1;rw [<- e] at hs hn ⊢;exact .name q k j h0 (by simp;omega) hs hn hj
 | no q k a h0 h1 hs ha iha=>
  have e:ix (l++m) k=ix l k:=zce h0 h1;rw [<- e] at hs iha ⊢;exact .no q k a h0 (by simp;omega) hs iha
 | arrow q k a h0 h1 hs ha iha=>
  have e:ix (l++m) k=ix l k:=zce h0 h1;rw [<- e] at hs iha ⊢;exact .arrow q k a h0 (by simp;omega) hs iha
 | fix q k a h0 h1 hs hn hq ha iha=>
  have e:ix (l++m) k=ix l k:=zce h0 h1;rw [<- e] at hs iha hn ⊢;exact .fix q k a h0 (by simp;omega) hs hn hq iha
 | two q k a b h0 h1 hs ha hb iha ihb=>
  have e:ix (l++m) k=ix l k:=zce h0 h1;rw [<- e] at hs iha ihb ⊢;exact .two q k a b h0 (by simp;omega) hs iha ihb
section
variable {l:L5} {x:NR} {q:List Bool} {a b:Tr ND}
theorem Stn.put_leaf (hs:x.1=48\/x.1=49):Stn (l++[x]) q (Tr.mk (vT x) []) l.length:=by
 have e:ix (l++[x]) (l.length:Int)=x:=zcd;have:=Stn.leaf (l:=l++[x]) q l.length (by omega) (by simp;omega) (by rw [e];exact hs)
 rw [e] at this;exact this
theorem Stn.put_name (j:Nat) (hs:x.1=88) (hn:x.2.1=j) (hj:q[j]? =some false):Stn (l++[x]) q (Tr.mk (vT x) []) l.length:=by
 have e:ix (l++[x]) (l.length:Int)=x:=zcd;have:=Stn.name (l:=l++[x]) q l.length j (by omega) (by simp;omega) (by rw [e];exact hs) (by rw [e];exact hn) hj
 rw [e] at this;exact this
theorem Stn.put_no (hs:x.1=33) (ha:Stn l (q.map not) a (xA x)):Stn (l++[x]) q (Tr.mk (vT x) [a]) l.length:=by
 have e:ix (l++[x]) (l.length:Int)=x:=zcd;have:=Stn.no (l:=l++[x]) q l.length a (by omega) (by simp;omega) (by rw [e];exact hs) (by rw [e];exact ha.mono)
 rw [e] at this;exact this
theorem Stn.put_arrow (hs:x.1=60\/x.1=91) (ha:Stn l q a (xA x)):Stn (l++[x]) q (Tr.mk (vT x) [a]) l.length:=by
 have e:ix (l++[x]) (l.length:Int)=x:=zcd;have:=Stn.arrow (l:=l++[x]) q l.length a (by omega) (by simp;omega) (by rw [e];exact hs) (by rw [e];exact ha.mono)
 rw [e] at this;exact this
theorem Stn.put_fix (hs:x.1=109\/x.1=110) (hn:x.2.1=q.length) (hq:q.length < 3) (ha:Stn l (q++[false]) a (xA x)):Stn (l++[x]) q (Tr.mk (vT x) [a]) l.length:=by
 have e:ix (l++[x]) (l.length:Int)=x:=zcd;have:=Stn.fix (l:=l++[x]) q l.length a (by omega) (by simp;omega) (by rw [e];exact hs) (by rw [e];exact hn) hq (by rw [e];exact ha.mono)
 rw [e] at this;exact this
theorem Stn.put_two (hs:x.1=38\/x.1=124) (ha:Stn l q a (xA x)) (hb:Stn l q b (xB x)):Stn (l++[x]) q (Tr.mk (vT x) [a,b]) l.length:=by
 have e:ix (l++[x]) (l.length:Int)=x:=zcd;have:=Stn.two (l:=l++[x]) q l.length a b (by omega) (by simp;omega) (by rw [e];exact hs) (by rw [e];exact ha.mono) (by rw [e];exact hb.mono)
 rw [e] at this;exact this
end
def Ext (l l':L5):Prop:=∃ m,l'=l++m
theorem Ext.refl (l:L5):Ext l l:=⟨[],by simp⟩
theorem Ext.trans {l l' l2:L5} (h:Ext l l') (h2:Ext l' l2):Ext l l2:=by
 obtain ⟨m,rfl⟩:=h;obtain ⟨m',rfl⟩:=h2;exact ⟨m++m',by simp⟩
theorem Ext.snoc (l:L5) (x:NR):Ext l (l++[x]):=⟨[x],rfl⟩
theorem Ext.put {l l':L5} (h:Ext l l') (x:NR):Ext l (l'++[x]):=h.trans (Ext.snoc l' x)
theorem Ext.stn {l l':L5} (h:Ext l l') {q:List Bool} {t:Tr ND} {k:Int} (h2:Stn l q t k):Stn l' q t k:=by
 obtain ⟨m,rfl⟩:=h;exact h2.mono
structure Pre (c:List UInt8) (i n s:Int) (ps:PS) (l:L5):Prop where
 i0:0<=i
 i1:i<=c.length
 c1:c.length<=4000
 n0:0<=n
 n1:n<=30
 s0:0<=s
 s1:s<=40
 l1:(l.length:Int)<=n
 p1:ps.length<=3
abbrev OP:=Option ((Tr ND×List UInt8×Int×Int×Int×FxNm)⊕(Int×Int))
abbrev OR:=Option (Int×List UInt8×Int×Int×Int×List UInt8×List Bool×L5×Int×Int)
def Sm (c:List UInt8) (i n s:Int) (ps:PS) (l:L5) (o:OP) (r:OR):Prop:=
 (∃ a b i' n' l',o=some (.inl (a,c,i',s,n',nsP ps))/\r=some (b,c,i',s,n',nmR ps,trR ps,l',0,0)/\i<=i'/\i'<=c.length/\n<=n'/\n'<=30/\(l'.length:Int)+n<=l.length+n'/\Ext l l'/\Stn l' (trR ps) a b)
 \/(∃ cd pl b i' n' nm' tr' l',o=some (.inr (cd,pl))/\r=some (b,c,i',s,n',nm',tr',l',cd,pl)/\cd≠0/\0<=i'/\i'<=c.length+4 * (41 - s)/\n'<=31/\(l'.length:Int)+n<=l.length+n'/\nm'.length=ps.length/\tr'.length=ps.length)
def Part (c:List UInt8) (m:Nat):Prop:=∀ i n s ps l,Pre c i n s ps l->((c.length:Int) - i).toNat<=m->Sm c i n s ps l (zar c i s n (nsP ps)) (zah c i s n (nmR ps) 0 0 (trR ps) l)
def Term (c:List UInt8) (m:Nat):Prop:=∀ i n s ps l,Pre c i n s ps l->((c.length:Int) - i).toNat<=m->Sm c i n s ps l (zbC zar c i s n (nsP ps)) (za1 zah c i s n (nmR ps) 0 0 (trR ps) l)
def zqP (c:List UInt8) (m:Nat):Prop:=∀ i n s ps l,Pre c i n s ps l->((c.length:Int) - i).toNat<=m->Sm c i n s ps l (zaP zar c i s n (nsP ps)) (zaQ zah c i s n (nmR ps) 0 0 (trR ps) l)
theorem zpK {c:List UInt8}:∀ m:Nat,(∀ m' < m,Part c m')->∀ a b i n s ps l,Pre c i n s ps l->Stn l (trR ps) a b->((c.length:Int) - i).toNat<=m->
  Sm c i n s ps l (zbj zar a c i s n (nsP ps)) (zaW zah b c i s n (nmR ps) 0 0 (trR ps) l):=by
 intro m
 induction m using Nat.strongRecOn with
 | ind m ih=>
  intro hP a b i n s ps l hp hab hm;obtain ⟨i0,i1,c1,n0,n1,s0,s1,q1,p1⟩:=hp;rw [zgi,zdn];unfold zbn zaS;rw [zoe i0,zjO i0];simp only [Option.bind_some];rw [r_ok];by_cases hb:nowT c i=38
  ·have hlt:i < c.length:=zff (by rw [hb];decide)
   have fi:fits (i+1):=zbA (by omega) (by omega)
   simp only [hb,Option.bind_some,decide_true,not_true_eq_false,decide_false,Bool.not_true,Bool.false_eq_true,if_true,if_false];rw [zfg ⟨n0,n1⟩,zet i0 (by omega) ⟨n0,by omega⟩]
   by_cases hbad:30 < n+1
   ·simp only [hbad,if_true,zaE,Option.bind_some];rw [zkh (by decide)]
    simp only [Option.bind_some];rw [zfl (by omega)]
    simp only [Option.bind_some];rw [zk8 (by decide) (by omega)]
    exact .inr ⟨7,i,_,_,_,_,_,_,rfl,rfl,by decide,by omega,by omega,by omega,by (first | omega | (simp only [List.length_append,List.length_cons,List.length_nil] at *; omega) | (simp;done) | (simp;omega)),zbF _,zbL _⟩
   ·simp only [hbad,if_false,zbq,Option.bind_some,zaH fi];rcases hP (((c.length:Int) - (i+1)).toNat) (by omega) (i+1) (n+1) s ps l ⟨by omega,by omega,c1,by omega,by omega,s0,s1,by omega,p1⟩ (Nat.le_refl _) with
     ⟨a1,b1,i',n',l',e1,e2,g1,g2,g3,g4,g5,g6,g7⟩ | ⟨cd,pl,b1,i',n',nm',tr',l',e1,e2,g1,g2,g3,g4,g5,g6,g7⟩
    ·simp only [e1,e2,zbq,Option.bind_some];rw [zfl (by omega)]
     simp only [Option.bind_some];rcases ih (((c.length:Int) - i').toNat) (by omega) (fun m' hm'=>hP m' (by omega)) (Tr.mk (38,(0,())) [a,a1]) (l'.length:Int) i' n' s ps (l'++[(38,0,b,b1,())])
      ⟨by omega,g2,c1,by omega,g4,s0,s1,by (first | omega | (simp only [List.length_append,List.length_cons,List.length_nil] at *; omega) | (simp;done) | (simp;omega)),p1⟩ (Stn.put_two (x:=(38,0,b,b1,())) (.inl rfl) (g6.stn hab) g7) (Nat.le_refl _) with
      ⟨a2,b2,i2,n2,l3,w1,w2,w3,w4,w5,w6,w7,w8,w9⟩ | ⟨cd,pl,b2,i2,n2,nm2,tr2,l3,w1,w2,w3,w4,w5,w6,w7,w8,w9⟩
     ·exact .inl ⟨a2,b2,i2,n2,l3,w1,w2,by omega,w4,by omega,w6,by (first | omega | (simp only [List.length_append,List.length_cons,List.length_nil] at *; omega) | (simp;done) | (simp;omega)),Ext.trans (g6.put _) w8,w9⟩
     ·exact .inr ⟨cd,pl,b2,i2,n2,nm2,tr2,l3,w1,w2,w3,w4,w5,w6,by (first | omega | (simp only [List.length_append,List.length_cons,List.length_nil] at *; omega) | (simp;done) | (simp;omega)),w8,w9⟩
    ·simp only [e1,e2,zaE,Option.bind_some];rw [zfl (by omega)]
     simp only [Option.bind_some];rw [zk8 g1 g2];exact .inr ⟨cd,pl,_,_,_,_,_,_,rfl,rfl,g1,g2,g3,g4,by (first | omega | (simp only [List.length_append,List.length_cons,List.length_nil] at *; omega) | (simp;done) | (simp;omega)),g6,g7⟩
  ·simp only [hb,Option.bind_some,decide_true,not_false_eq_true,decide_false,Bool.not_true,Bool.false_eq_true,if_true,if_false];exact .inl ⟨a,b,i,n,l,rfl,rfl,by omega,i1,by omega,n1,by omega,Ext.refl _,hab⟩
theorem zrQ {c:List UInt8} {m:Nat} (hP:∀ m' ≤ m,Part c m'):Term c m:=by
 intro i n s ps l hp hm;have hp':=hp;obtain ⟨i0,i1,c1,n0,n1,s0,s1,q1,p1⟩:=hp;unfold zbC za1;rcases hP m (Nat.le_refl _) i n s ps l hp' hm with
  ⟨a1,b1,i',n',l',e1,e2,g1,g2,g3,g4,g5,g6,g7⟩ | ⟨cd,pl,b1,i',n',nm',tr',l',e1,e2,g1,g2,g3,g4,g5,g6,g7⟩
 ·simp only [e1,e2,zbq,Option.bind_some];rcases zpK m (fun m' hm'=>hP m' (by omega)) a1 b1 i' n' s ps l' ⟨by omega,g2,c1,by omega,g4,s0,s1,by omega,p1⟩ g7 (by omega) with
   ⟨a2,b2,i2,n2,l3,w1,w2,w3,w4,w5,w6,w7,w8,w9⟩ | ⟨cd,pl,b2,i2,n2,nm2,tr2,l3,w1,w2,w3,w4,w5,w6,w7,w8,w9⟩
  ·exact .inl ⟨a2,b2,i2,n2,l3,w1,w2,by omega,w4,by omega,w6,by omega,g6.trans w8,w9⟩
  ·exact .inr ⟨cd,pl,b2,i2,n2,nm2,tr2,l3,w1,w2,w3,w4,w5,w6,by omega,w8,w9⟩
 ·simp only [e1,e2,zaE,Option.bind_some];rw [zk8 g1 g2];exact .inr ⟨cd,pl,_,_,_,_,_,_,rfl,rfl,g1,g2,g3,g4,g5,g6,g7⟩
theorem zoo {c:List UInt8}:∀ m:Nat,(∀ m' < m,Term c m')->∀ a b i n s ps l,Pre c i n s ps l->Stn l (trR ps) a b->((c.length:Int) - i).toNat<=m->
  Sm c i n s ps l (za9 zar a c i s n (nsP ps)) (zaN zah b c i s n (nmR ps) 0 0 (trR ps) l):=by
 intro m
 induction m using Nat.strongRecOn with
 | ind m ih=>
  intro hP a b i n s ps l hp hab hm;obtain ⟨i0,i1,c1,n0,n1,s0,s1,q1,p1⟩:=hp;rw [zfW,zc5];unfold zbd zaO;rw [zoe i0,zjO i0];simp only [Option.bind_some];rw [r_ok];by_cases hb:nowT c i=124
  ·have hlt:i < c.length:=zff (by rw [hb];decide)
   have fi:fits (i+1):=zbA (by omega) (by omega)
   simp only [hb,Option.bind_some,decide_true,not_true_eq_false,decide_false,Bool.not_true,Bool.false_eq_true,if_true,if_false];rw [zfg ⟨n0,n1⟩,zet i0 (by omega) ⟨n0,by omega⟩]
   by_cases hbad:30 < n+1
   ·simp only [hbad,if_true,zaE,Option.bind_some];rw [zr4 (by decide) (by omega)]
    simp only [Option.bind_some];rw [zfl (by omega)]
    simp only [Option.bind_some];rw [zk9 (by decide) (by omega)]
    exact .inr ⟨7,i,_,_,_,_,_,_,rfl,rfl,by decide,by omega,by omega,by omega,by (first | omega | (simp only [List.length_append,List.length_cons,List.length_nil] at *; omega) | (simp;done) | (simp;omega)),zbF _,zbL _⟩
   ·simp only [hbad,if_false,zbq,Option.bind_some,zaH fi];rcases hP (((c.length:Int) - (i+1)).toNat) (by omega) (i+1) (n+1) s ps l ⟨by omega,by omega,c1,by omega,by omega,s0,s1,by omega,p1⟩ (Nat.le_refl _) with
     ⟨a1,b1,i',n',l',e1,e2,g1,g2,g3,g4,g5,g6,g7⟩ | ⟨cd,pl,b1,i',n',nm',tr',l',e1,e2,g1,g2,g3,g4,g5,g6,g7⟩
    ·simp only [e1,e2,zbq,Option.bind_some];rw [zfl (by omega)]
     simp only [Option.bind_some];rcases ih (((c.length:Int) - i').toNat) (by omega) (fun m' hm'=>hP m' (by omega)) (Tr.mk (124,(0,())) [a,a1]) (l'.length:Int) i' n' s ps (l'++[(124,0,b,b1,())])
      ⟨by omega,g2,c1,by omega,g4,s0,s1,by (first | omega | (simp only [List.length_append,List.length_cons,List.length_nil] at *; omega) | (simp;done) | (simp;omega)),p1⟩ (Stn.put_two (x:=(124,0,b,b1,())) (.inr rfl) (g6.stn hab) g7) (Nat.le_refl _) with
      ⟨a2,b2,i2,n2,l3,w1,w2,w3,w4,w5,w6,w7,w8,w9⟩ | ⟨cd,pl,b2,i2,n2,nm2,tr2,l3,w1,w2,w3,w4,w5,w6,w7,w8,w9⟩
     ·exact .inl ⟨a2,b2,i2,n2,l3,w1,w2,by omega,w4,by omega,w6,by (first | omega | (simp only [List.length_append,List.length_cons,List.length_nil] at *; omega) | (simp;done) | (simp;omega)),Ext.trans (g6.put _) w8,w9⟩
     ·exact .inr ⟨cd,pl,b2,i2,n2,nm2,tr2,l3,w1,w2,w3,w4,w5,w6,by (first | omega | (simp only [List.length_append,List.length_cons,List.length_nil] at *; omega) | (simp;done) | (simp;omega)),w8,w9⟩
    ·simp only [e1,e2,zaE,Option.bind_some];rw [zfl (by omega)]
     simp only [Option.bind_some];rw [zk9 g1 g2];exact .inr ⟨cd,pl,_,_,_,_,_,_,rfl,rfl,g1,g2,g3,g4,by (first | omega | (simp only [List.length_append,List.length_cons,List.length_nil] at *; omega) | (simp;done) | (simp;omega)),g6,g7⟩
  ·simp only [hb,Option.bind_some,decide_true,not_false_eq_true,decide_false,Bool.not_true,Bool.false_eq_true,if_true,if_false];exact .inl ⟨a,b,i,n,l,rfl,rfl,by omega,i1,by omega,n1,by omega,Ext.refl _,hab⟩
theorem zqv {c:List UInt8} {m:Nat} (hP:∀ m' ≤ m,Term c m'):zqP c m:=by
 intro i n s ps l hp hm;have hp':=hp;obtain ⟨i0,i1,c1,n0,n1,s0,s1,q1,p1⟩:=hp;unfold zaP zaQ;rcases hP m (Nat.le_refl _) i n s ps l hp' hm with
  ⟨a1,b1,i',n',l',e1,e2,g1,g2,g3,g4,g5,g6,g7⟩ | ⟨cd,pl,b1,i',n',nm',tr',l',e1,e2,g1,g2,g3,g4,g5,g6,g7⟩
 ·simp only [e1,e2,zbq,Option.bind_some];rcases zoo m (fun m' hm'=>hP m' (by omega)) a1 b1 i' n' s ps l' ⟨by omega,g2,c1,by omega,g4,s0,s1,by omega,p1⟩ g7 (by omega) with
   ⟨a2,b2,i2,n2,l3,w1,w2,w3,w4,w5,w6,w7,w8,w9⟩ | ⟨cd,pl,b2,i2,n2,nm2,tr2,l3,w1,w2,w3,w4,w5,w6,w7,w8,w9⟩
  ·exact .inl ⟨a2,b2,i2,n2,l3,w1,w2,by omega,w4,by omega,w6,by omega,g6.trans w8,w9⟩
  ·exact .inr ⟨cd,pl,b2,i2,n2,nm2,tr2,l3,w1,w2,w3,w4,w5,w6,by omega,w8,w9⟩
 ·simp only [e1,e2,zaE,Option.bind_some];rw [zk9 g1 g2];exact .inr ⟨cd,pl,_,_,_,_,_,_,rfl,rfl,g1,g2,g3,g4,g5,g6,g7⟩
theorem zqJ {c:List UInt8} {i:Int}:0<=nowT c i/\nowT c i<=255:=by
 unfold nowT bAt
 split
 ·have:=(c.getD i.toNat 0).toNat_lt;omega
 ·omega
theorem zqI (ps:PS) (k:Nat) (h:k < ps.length):(nmP (nsP ps)).getD k (0,false)=((ps[k].1.toNat:Int),ps[k].2):=by
 unfold nmP nsP;rw [List.map_map,List.getD_eq_getElem?_getD,List.getElem?_map,List.getElem?_eq_getElem h];rfl
theorem zl5 {ns:List (Int×Bool)} {c:Int} {j:Nat} {b:Bool}:∀ {k:Nat},zcH ns c k=some (j,b)->j < k/\(ns.getD j (0,false)).2=b
 | 0,h=>by cases h
 | k+1,h=>by
  unfold zcH at h;by_cases hc:(ns.getD k (0,false)).1=c
  ·rw [if_pos hc] at h;cases h;exact ⟨by omega,rfl⟩
  ·rw [if_neg hc] at h;have:=zl5 h;exact ⟨by omega,this.2⟩
def namR (ch:Int) (c:List UInt8) (i s n:Int) (ps:PS) (l:L5) (q:Option (Nat×Bool)):OR:=match q with
 | some (j,false)=>if 30 < n+1 then some (l.length,c,i+1,s,n+1,nmR ps,trR ps,l++[(88,(j:Int),0,0,())],7,i) else some (l.length,c,i+1,s,n+1,nmR ps,trR ps,l++[(88,(j:Int),0,0,())],0,0)
 | _=>some (0,c,i,s,n,nmR ps,trR ps,l,5,i)
theorem znE {ch:Int} {c:List UInt8} {i s n:Int} {ps:PS} {l:L5} (hi:0<=i/\i<=5000) (hn:0<=n/\n<=40) (hl:l.length<=900) (hp:ps.length<=10):∀ k:Nat,k<=ps.length->zb8 ch c i s n (nmR ps) 0 0 (trR ps) l ((k:Int) - 1)=namR ch c i s n ps l (zcH (nmP (nsP ps)) ch k)
 | 0,_=>by
  rw [zc4];unfold zaM;have h : ¬ (0:Int)<=((0:Nat):Int) - 1:=by omega
  simp only [h,decide_false,Bool.false_eq_true,if_false];unfold zb7;rw [zeV,if_pos rfl];rfl
 | k+1,hk=>by
  rw [zc4];unfold zaM;have e:((k+1:Nat):Int) - 1=(k:Int):=by omega
  rw [e];have h:(0:Int)<=(k:Int):=by omega
  simp only [h,decide_true,if_true];have hkn:k < (nmR ps).length:=by rw [zbF];omega
  have hkt:k < (trR ps).length:=by rw [zbL];omega
  have eb:bAt (nmR ps) (k:Int)=(ps[k].1.toNat:Int):=by
   unfold bAt nmR;rw [Int.toNat_natCast,List.getD_eq_getElem?_getD,List.getElem?_map,List.getElem?_eq_getElem (by omega)];rfl
  have et:ix (trR ps) (k:Int)=ps[k].2:=by
   rw [zqa (l:=trR ps) (by omega) (by omega)]
   simp only [Int.toNat_natCast];unfold trR;rw [List.getElem_map]
  rw [zaH ⟨trivial,by omega⟩,eb,et]
  unfold zcH;rw [zqI ps k (by omega)]
  by_cases hc:(ps[k].1.toNat:Int)=ch
  ·simp only [hc,decide_true,if_true];rw [zaH ⟨trivial,by omega⟩,zaH (by simpa using hkt)]
   cases hb:ps[k].2 with
   | true=>
    simp only [if_true];unfold zb7;rw [zeV,if_pos rfl];rfl
   | false=>
    simp only [Bool.false_eq_true,if_false];rw [zet hi.1 hi.2 hn];unfold namR;by_cases h3:30 < n+1
    ·simp only [h3,if_true,Option.bind_some];rw [zfl (by omega)];rfl
    ·simp only [h3,if_false,Option.bind_some];rw [zfl (by omega)];rfl
  ·simp only [hc,decide_false,Bool.false_eq_true,if_false];rw [zaH (zbA (by omega) (by omega))]
   exact znE hi hn hl hp k (by omega)
theorem zqf {c:List UInt8} {ch:Int} {i n s:Int} {ps:PS} {l:L5} (hp:Pre c i n s ps l) (hlt:i < c.length):Sm c i n s ps l (zaU ch c i s n (nsP ps)) (zcz ch c i s n (nmR ps) 0 0 (trR ps) l):=by
 obtain ⟨i0,i1,c1,n0,n1,s0,s1,q1,p1⟩:=hp;unfold zaU zcz;have hL:=znE (ch:=ch) (c:=c) (i:=i) (s:=s) (n:=n) (l:=l) (ps:=ps) ⟨i0,by omega⟩ ⟨n0,by omega⟩ (by omega) (by omega) ps.length (Nat.le_refl _)
 rw [zbF,zaH (zbA (by omega) (by omega)),hL,zaH ⟨i0,by omega⟩,zaH ⟨n0,by omega⟩,zaH (by rw [zfA];omega),zfA]
 cases hq:zcH (nmP (nsP ps)) ch ps.length with
 | none=>exact .inr ⟨5,i,_,_,_,_,_,_,rfl,rfl,by decide,i0,by omega,by omega,by omega,zbF _,zbL _⟩
 | some jb=>
  obtain ⟨j,b⟩:=jb
  cases b with
  | true=>exact .inr ⟨5,i,_,_,_,_,_,_,rfl,rfl,by decide,i0,by omega,by omega,by omega,zbF _,zbL _⟩
  | false=>
   obtain ⟨hj,hj2⟩:=zl5 hq;unfold namR;by_cases h3:30 < n+1
   ·simp only [h3,if_true];exact .inr ⟨7,i,_,_,_,_,_,_,rfl,rfl,by decide,by omega,by omega,by omega,by (first | omega | (simp only [List.length_append,List.length_cons,List.length_nil] at *; omega) | (simp;done) | (simp;omega)),zbF _,zbL _⟩
   ·simp only [h3,if_false];refine .inl ⟨_,_,_,_,_,rfl,rfl,by omega,by omega,by omega,by omega,by (first | omega | (simp only [List.length_append,List.length_cons,List.length_nil] at *; omega) | (simp;done) | (simp;omega)),Ext.snoc _ _,Stn.put_name (x:=(88,(j:Int),0,0,())) j rfl rfl ?_⟩
    rw [zqI ps j hj] at hj2;unfold trR;rw [List.getElem?_map,List.getElem?_eq_getElem hj];exact congrArg some hj2
theorem zpN {n:Nat} (h:n < 9223372036854775808):IntKind.wrap .i64 (n:Int)=n:=by
 unfold IntKind.wrap;simp [IntKind.bits,IntKind.signed];omega
theorem wr64 {x:Int} (h0:0<=x) (h1:x<=1000):IntKind.wrap .i64 x=x:=by
 obtain ⟨n,rfl⟩:=Int.eq_ofNat_of_zero_le h0;exact zpN (by omega)
theorem wru8 {x:Int} (h0:0<=x) (h1:x<=100):IntKind.wrap .i64 (IntKind.wrap .u8 x)=x:=by
 have e:IntKind.wrap .u8 x=x:=by
  unfold IntKind.wrap;simp [IntKind.bits,IntKind.signed];omega
 rw [e];exact wr64 h0 (by omega)
section
variable {c nm:List UInt8} {i n s f a y ch:Int} {l:L5} {tr:List Bool}
theorem zjt (hf:f≠0) (hy:0<=y/\y<=255) (hl:l.length<=900):∃ b x,zaF zah ch y c i s n nm f a tr l=some (b,c,i,s,n,nm,tr,l++[x],f,a):=by
 unfold zaF;rw [zkh hf];simp only [Option.bind_some];rw [wr64 hy.1 (by omega),zaH (zbA (by omega) (by omega)),zfl (by omega)]
 exact ⟨_,_,rfl⟩
theorem zjs (hf:f≠0) (hi:0<=i/\i<=4900) (hy:0<=y/\y<=255) (hl:l.length<=900):∃ b x,zaK zah ch y c i s n nm f a tr l=some (b,c,i+1+1,s,n,nm,tr,l++[x],f,a):=by
 unfold zaK;rw [zaH (zbA (by omega) (by omega)),znn hf (by omega),znn hf (by omega)]
 simp only [Option.bind_some]
 split
 ·exact zjt hf hy hl
 ·exact zjt hf hy hl
theorem zo5 (hf:f≠0) (hi:0<=i/\i<=4900) (hy:0<=y/\y<=255) (hl:l.length<=900) (t:Bool):∃ b x,zaB zah ch c i s n nm tr l f a y t=some (b,c,i+1+1,s,n,nm,tr,l++[x],f,a):=by
 unfold zaB;rw [zeV,if_neg hf];simp only [Option.bind_some]
 split
 ·exact zjs hf hi hy hl
 ·exact zjs hf hi hy hl
end
theorem zpQ {c:List UInt8} {m:Nat} {ch:Int} (hch:ch=60\/ch=91) (hP:∀ m' < m,Part c m') {i n s:Int} {ps:PS} {l:L5} (hp:Pre c i n s ps l) (hlt:i < c.length) (hm:((c.length:Int) - i).toNat<=m):
  Sm c i n s ps l (zbJ zar ch c i s n (nsP ps)) (zbK zah ch c i s n (nmR ps) 0 0 (trR ps) l):=by
 obtain ⟨i0,i1,c1,n0,n1,s0,s1,q1,p1⟩:=hp;unfold zbJ zbK;have fi:fits (i+1):=zbA (by omega) (by omega)
 have fj:fits (i+1+1):=zbA (by omega) (by omega)
 have hy:=zqJ (c:=c) (i:=i+1);rw [zfg ⟨n0,n1⟩,zet i0 (by omega) ⟨n0,by omega⟩]
 by_cases hbad:30 < n+1
 ·simp only [hbad,if_true,zaE,Option.bind_some];rw [zjO (by omega)]
  simp only [Option.bind_some];have key:∀ t,Sm c i n s ps l (some (.inr (7,i))) (zaB zah ch c (i+1) s (n+1) (nmR ps) (trR ps) l 7 i (nowT c (i+1)) t):=fun t=>by
   obtain ⟨b,x,e⟩:=zo5 (c:=c) (nm:=nmR ps) (i:=i+1) (n:=n+1) (s:=s) (f:=7) (a:=i) (y:=nowT c (i+1)) (ch:=ch) (l:=l) (tr:=trR ps) (by decide) (by omega) hy (by omega) t
   rw [e];exact .inr ⟨7,i,_,_,_,_,_,_,rfl,rfl,by decide,by omega,by omega,by omega,by (first | omega | (simp only [List.length_append,List.length_cons,List.length_nil] at *; omega) | (simp;done) | (simp;omega)),zbF _,zbL _⟩
  split
  ·exact key _
  ·exact key _
 ·simp only [hbad,if_false,zbq,Option.bind_some,zaH fi];rw [zoe (by omega),zjO (by omega)]
  simp only [Option.bind_some];have key:∀ t,(t=false->97<=nowT c (i+1)/\nowT c (i+1)<=100)->Sm c i n s ps l (za3 zar ch c i s (n+1) (nsP ps) (nowT c (i+1)) t) (zaB zah ch c (i+1) s (n+1) (nmR ps) (trR ps) l 0 0 (nowT c (i+1)) t):=by
   intro t ht;unfold za3 zaB
   cases t with
   | true=>
    simp only [if_true,ziJ,zaE,zeV,Option.bind_some];obtain ⟨b,x,e⟩:=zjs (c:=c) (nm:=nmR ps) (i:=i+1) (n:=n+1) (s:=s) (f:=4) (a:=i+1) (y:=nowT c (i+1)) (ch:=ch) (l:=l) (tr:=trR ps) (by decide) (by omega) hy (by omega)
    rw [e];exact .inr ⟨4,i+1,_,_,_,_,_,_,rfl,rfl,by decide,by omega,by omega,by omega,by (first | omega | (simp only [List.length_append,List.length_cons,List.length_nil] at *; omega) | (simp;done) | (simp;omega)),zbF _,zbL _⟩
   | false=>
    obtain ⟨h1,h2⟩:=ht rfl;have hlt1:i+1 < c.length:=zff (by omega)
    simp only [Bool.false_eq_true,if_false];unfold zbs zaK;rw [zaH fj,zaH fj];have go:∀ k:Int,k≠0->Sm c i n s ps l (pbind (zbD k c (i+1+1) s (n+1) (nsP ps)) (fun y'=>za4 zar ch (nowT c (i+1)) y'.1 y'.2.1 y'.2.2.1 y'.2.2.2.1 y'.2.2.2.2) (fun p=>some (.inr (p.1,p.2))))
      ((za2 k c (i+1+1) s (n+1) (nmR ps) 0 0 (trR ps) l).bind fun y'=>zaF zah ch (nowT c (i+1)) y'.1 y'.2.1 y'.2.2.1 y'.2.2.2.1 y'.2.2.2.2.1 y'.2.2.2.2.2.2.2.1 y'.2.2.2.2.2.2.2.2 y'.2.2.2.2.2.1 y'.2.2.2.2.2.2.1):=by
     intro k hk;rw [zpy (by omega),znF (by omega)]
     by_cases hw:nowT c (i+1+1)=k
     ·have hlt2:i+1+1 < c.length:=zff (by rw [hw];exact hk)
      simp only [hw,if_true,zbq,Option.bind_some];unfold za4 zaF;rcases hP (((c.length:Int) - (i+1+1+1)).toNat) (by omega) (i+1+1+1) (n+1) s ps l ⟨by omega,by omega,c1,by omega,by omega,s0,s1,by omega,p1⟩ (Nat.le_refl _) with
       ⟨a1,b1,i',n',l',e1,e2,g1,g2,g3,g4,g5,g6,g7⟩ | ⟨cd,pl,b1,i',n',nm',tr',l',e1,e2,g1,g2,g3,g4,g5,g6,g7⟩
      ·simp only [e1,e2,zbq,Option.bind_some];rw [wr64 (x:=nowT c (i+1)) (by omega) (by omega),zaH (zbA (by omega) (by omega)),zfl (by omega),wru8 (x:=nowT c (i+1) - 97) (by omega) (by omega)]
       simp only [Option.bind_some];exact .inl ⟨_,_,_,_,_,rfl,rfl,by omega,g2,by omega,g4,by (first | omega | (simp only [List.length_append,List.length_cons,List.length_nil] at *; omega) | (simp;done) | (simp;omega)),g6.put _,Stn.put_arrow (x:=(ch,nowT c (i+1) - 97,b1,0,())) hch g7⟩
      ·simp only [e1,e2,zaE,Option.bind_some];rw [wr64 (x:=nowT c (i+1)) (by omega) (by omega),zaH (zbA (by omega) (by omega)),zfl (by omega)]
       simp only [Option.bind_some];exact .inr ⟨cd,pl,_,_,_,_,_,_,rfl,rfl,g1,g2,g3,g4,by (first | omega | (simp only [List.length_append,List.length_cons,List.length_nil] at *; omega) | (simp;done) | (simp;omega)),g6,g7⟩
     ·simp only [hw,if_false,zaE,Option.bind_some];obtain ⟨b,x,e⟩:=zjt (c:=c) (nm:=nmR ps) (i:=i+1+1+1) (n:=n+1) (s:=s) (f:=4) (a:=i+1+1) (y:=nowT c (i+1)) (ch:=ch) (l:=l) (tr:=trR ps) (by decide) hy (by omega)
      rw [e];exact .inr ⟨4,i+1+1,_,_,_,_,_,_,rfl,rfl,by decide,by omega,by omega,by omega,by (first | omega | (simp only [List.length_append,List.length_cons,List.length_nil] at *; omega) | (simp;done) | (simp;omega)),zbF _,zbL _⟩
    rcases hch with rfl | rfl
    ·simp only [decide_true,if_true];exact go 62 (by decide)
    ·simp only [Int.reduceEq,decide_false,Bool.false_eq_true,if_false];exact go 93 (by decide)
  by_cases h97:nowT c (i+1) < 97
  ·simp only [h97,decide_true,if_true];exact key true (fun h=>by cases h)
  ·simp only [h97,decide_false,Bool.false_eq_true,if_false];exact key _ (fun h=>⟨by omega,by have:=of_decide_eq_false h;omega⟩)
theorem zrm (ps:PS) {y:Int} (h0:0<=y) (h1:y<=255):nsP (ps++[(UInt8.ofNat y.toNat,false)])=nsP ps++[(y,(false,()))]/\nmR (ps++[(UInt8.ofNat y.toNat,false)])=nmR ps++bstr [y]/\trR (ps++[(UInt8.ofNat y.toNat,false)])=trR ps++[false]:=by
 unfold nsP nmR trR bstr;simp only [List.map_append,List.map_cons,List.map_nil];refine ⟨?_,trivial,trivial⟩
 have:((UInt8.ofNat y.toNat).toNat:Int)=y:=by
  rw [UInt8.toNat_ofNat'];omega
 rw [this]
section
variable {c nm:List UInt8} {i n s f a y ch:Int} {l:L5} {tr:List Bool}
theorem zk7 (hf:f≠0) (hi:0<=i/\i<=4900) (hl:l.length<=900) (h1:nm.length<=10) (h2:tr.length=nm.length):∃ b x,zaJ zah ch y c i s n nm f a tr l=some (b,c,i+1+1,s,n,nm,tr,l++[x],f,a):=by
 unfold zaJ;rw [zaH (zbA (by omega) (by omega)),znn hf (by omega)]
 simp only [Option.bind_some];rw [zaH (by unfold bstr;simp;omega),zaH (zjQ (by simp;omega)),zkh hf]
 simp only [Option.bind_some];rw [zaH ⟨by omega,by omega,by simp;omega⟩,zaH ⟨by omega,by simp;omega⟩,zfl (by omega)]
 refine ⟨l.length,(ch,nm.length,0,0,()),?_⟩
 simp only [Option.bind_some];rw [ziZ,Int.toNat_natCast,List.take_left' rfl,List.take_left' h2]
theorem zpX (hf:f≠0) (hi:0<=i/\i<=4900) (hl:l.length<=900) (h1:nm.length<=10) (h2:tr.length=nm.length) (t:Bool):∃ b x,zaD zah ch c i s n nm tr l f a y t=some (b,c,i+1+1,s,n,nm,tr,l++[x],f,a):=by
 unfold zaD;rw [zeV,if_neg hf];simp only [Option.bind_some]
 split
 ·exact zk7 hf hi hl h1 h2
 ·exact zk7 hf hi hl h1 h2
end
theorem zre {c:List UInt8} {m:Nat} {ch:Int} (hch:ch=109\/ch=110) (hP:∀ m' < m,Part c m') {i n s:Int} {ps:PS} {l:L5} (hp:Pre c i n s ps l) (hlt:i < c.length) (hm:((c.length:Int) - i).toNat<=m):
  Sm c i n s ps l (zbU zar ch c i s n (nsP ps)) (zbV zah ch c i s n (nmR ps) 0 0 (trR ps) l):=by
 obtain ⟨i0,i1,c1,n0,n1,s0,s1,q1,p1⟩:=hp;unfold zbU zbV;rw [zfA,zbF];have fi:fits (i+1):=zbA (by omega) (by omega)
 have fj:fits (i+1+1):=zbA (by omega) (by omega)
 have hy:=zqJ (c:=c) (i:=i+1);by_cases h3:(ps.length:Int)=3
 ·simp only [h3,decide_true,if_true,ziJ,zaE,zeV,Option.bind_some];exact .inr ⟨7,i,_,_,_,_,_,_,rfl,rfl,by decide,by omega,by omega,by omega,by omega,zbF _,zbL _⟩
 simp only [h3,decide_false,Bool.false_eq_true,if_false];unfold zbH;rw [zfg ⟨n0,n1⟩,zet i0 (by omega) ⟨n0,by omega⟩]
 have hlm:(trR ps).length=(nmR ps).length:=by rw [zbL,zbF]
 have hnm:(nmR ps).length<=10:=by rw [zbF];omega
 by_cases hbad:30 < n+1
 ·simp only [hbad,if_true,zaE,Option.bind_some];rw [zjO (by omega)]
  simp only [Option.bind_some];have key:∀ t,Sm c i n s ps l (some (.inr (7,i))) (zaD zah ch c (i+1) s (n+1) (nmR ps) (trR ps) l 7 i (nowT c (i+1)) t):=fun t=>by
   obtain ⟨b,x,e⟩:=zpX (c:=c) (nm:=nmR ps) (i:=i+1) (n:=n+1) (s:=s) (f:=7) (a:=i) (y:=nowT c (i+1)) (ch:=ch) (l:=l) (tr:=trR ps) (by decide) (by omega) (by omega) hnm hlm t
   rw [e];exact .inr ⟨7,i,_,_,_,_,_,_,rfl,rfl,by decide,by omega,by omega,by omega,by (first | omega | (simp only [List.length_append,List.length_cons,List.length_nil] at *; omega) | (simp;done) | (simp;omega)),zbF _,zbL _⟩
  split
  ·exact key _
  ·exact key _
 ·simp only [hbad,if_false,zbq,Option.bind_some,zaH fi];rw [zoe (by omega),zjO (by omega)]
  simp only [Option.bind_some];have key:∀ t,(t=false->88<=nowT c (i+1)/\nowT c (i+1)<=90)->Sm c i n s ps l (zbh zar ch c i s (n+1) (nsP ps) (nowT c (i+1)) t) (zaD zah ch c (i+1) s (n+1) (nmR ps) (trR ps) l 0 0 (nowT c (i+1)) t):=by
   intro t ht;unfold zbh zaD
   cases t with
   | true=>
    simp only [if_true,ziJ,zaE,zeV,Option.bind_some];obtain ⟨b,x,e⟩:=zk7 (c:=c) (nm:=nmR ps) (i:=i+1) (n:=n+1) (s:=s) (f:=4) (a:=i+1) (y:=nowT c (i+1)) (ch:=ch) (l:=l) (tr:=trR ps) (by decide) (by omega) (by omega) hnm hlm
    rw [e];exact .inr ⟨4,i+1,_,_,_,_,_,_,rfl,rfl,by decide,by omega,by omega,by omega,by (first | omega | (simp only [List.length_append,List.length_cons,List.length_nil] at *; omega) | (simp;done) | (simp;omega)),zbF _,zbL _⟩
   | false=>
    obtain ⟨h1,h2⟩:=ht rfl;have hlt1:i+1 < c.length:=zff (by omega)
    simp only [Bool.false_eq_true,if_false];unfold zbI;rw [zaH fj,zpy (by omega)]
    by_cases hw:nowT c (i+1+1)=46
    ·have hlt2:i+1+1 < c.length:=zff (by rw [hw];decide)
     unfold zaJ;rw [zaH fj,znF (by omega)]
     simp only [hw,if_true,zbq,Option.bind_some];obtain ⟨z1,z2,z3⟩:=zrm ps hy.1 hy.2;rw [zaH (zjQ (by rw [zfA];simp;omega)),zaH (by unfold bstr;simp;omega),zaH (zjQ (by rw [hlm];simp;omega)),<- z1,<- z2,<- z3]
     rcases hP (((c.length:Int) - (i+1+1+1)).toNat) (by omega) (i+1+1+1) (n+1) s (ps++[(UInt8.ofNat (nowT c (i+1)).toNat,false)]) l ⟨by omega,by omega,c1,by omega,by omega,s0,s1,by omega,by simp;omega⟩ (Nat.le_refl _) with
      ⟨a1,b1,i',n',l',e1,e2,g1,g2,g3,g4,g5,g6,g7⟩ | ⟨cd,pl,b1,i',n',nm',tr',l',e1,e2,g1,g2,g3,g4,g5,g6,g7⟩
     ·simp only [e1,e2,zbq,Option.bind_some];have k1:((nsP (ps++[(UInt8.ofNat (nowT c (i+1)).toNat,false)])).length:Int) - 1=ps.length:=by rw [zfA];simp
      have k2:(nsP (ps++[(UInt8.ofNat (nowT c (i+1)).toNat,false)])).take ps.length=nsP ps:=by rw [z1];exact List.take_left' (zfA ps)
      have k3:(nmR (ps++[(UInt8.ofNat (nowT c (i+1)).toNat,false)])).take ps.length=nmR ps:=by rw [z2];exact List.take_left' (zbF ps)
      have k4:(trR (ps++[(UInt8.ofNat (nowT c (i+1)).toNat,false)])).take ps.length=trR ps:=by rw [z3];exact List.take_left' (zbL ps)
      rw [k1,zaH (zbA (by omega) (by omega)),zbF,zaH ⟨by omega,by rw [zfA];simp;omega⟩,Int.toNat_natCast,k2,zfA,zaH ⟨by omega,by omega,by rw [zbF];simp;omega⟩,zaH ⟨by omega,by rw [zbL];simp;omega⟩,k4,ziZ,Int.toNat_natCast,k3,zfl (by omega)]
      simp only [Option.bind_some];exact .inl ⟨_,_,_,_,_,rfl,rfl,by omega,g2,by omega,g4,by (first | omega | (simp only [List.length_append,List.length_cons,List.length_nil] at *; omega) | (simp;done) | (simp;omega)),g6.put _,Stn.put_fix (x:=(ch,(ps.length:Int),b1,0,())) hch (by rw [zbL]) (by rw [zbL];omega) (by rw [<- z3];exact g7)⟩
     ·simp only [e1,e2,zaE,Option.bind_some];have g6:nm'.length=ps.length+1:=by rw [g6];simp
      have g7:tr'.length=ps.length+1:=by rw [g7];simp
      rw [zbF,zaH ⟨by omega,by omega,by omega⟩,zaH ⟨by omega,by omega⟩,zfl (by omega),ziZ,Int.toNat_natCast]
      simp only [Option.bind_some];exact .inr ⟨cd,pl,_,_,_,_,_,_,rfl,rfl,g1,g2,g3,g4,by (first | omega | (simp only [List.length_append,List.length_cons,List.length_nil] at *; omega) | (simp;done) | (simp;omega)),by rw [List.length_take];omega,by rw [List.length_take];omega⟩
    ·simp only [hw,if_false,zaE];unfold zaJ;rw [zaH fj,znF (by omega),if_neg hw]
     simp only [Option.bind_some];rw [zaH (by unfold bstr;simp;omega),zaH (zjQ (by rw [hlm];simp;omega)),zkh (by decide)]
     simp only [Option.bind_some];rw [zaH ⟨by omega,by omega,by simp;omega⟩,zaH ⟨by omega,by simp;omega⟩,zfl (by omega)]
     simp only [Option.bind_some];rw [ziZ,Int.toNat_natCast,List.take_left' rfl,List.take_left' hlm];exact .inr ⟨4,i+1+1,_,_,_,_,_,_,rfl,rfl,by decide,by omega,by omega,by omega,by (first | omega | (simp only [List.length_append,List.length_cons,List.length_nil] at *; omega) | (simp;done) | (simp;omega)),zbF _,zbL _⟩
  by_cases h88:nowT c (i+1) < 88
  ·simp only [h88,decide_true,if_true];exact key true (fun h=>by cases h)
  ·simp only [h88,decide_false,Bool.false_eq_true,if_false];exact key _ (fun h=>⟨by omega,by have:=of_decide_eq_false h;omega⟩)
theorem Sm.wrap {c:List UInt8} {i n s:Int} {ps:PS} {l:L5} {o:OP} {r:OR} (h:Sm c i n s ps l o r):Sm c i n s ps l (pbind o (fun y=>some (.inl (y.1,y.2.1,y.2.2.1,y.2.2.2.1,y.2.2.2.2.1,y.2.2.2.2.2))) (fun p=>some (.inr (p.1,p.2))))
  (r.bind fun y=>some (y.1,y.2.1,y.2.2.1,y.2.2.2.1,y.2.2.2.2.1,y.2.2.2.2.2.1,y.2.2.2.2.2.2.1,y.2.2.2.2.2.2.2.1,y.2.2.2.2.2.2.2.2.1,y.2.2.2.2.2.2.2.2.2)):=by
 rcases h with ⟨a1,b1,i',n',l',e1,e2,g⟩ | ⟨cd,pl,b1,i',n',nm',tr',l',e1,e2,g⟩
 ·subst e1 e2;exact .inl ⟨a1,b1,i',n',l',rfl,rfl,g⟩
 ·subst e1 e2;exact .inr ⟨cd,pl,b1,i',n',nm',tr',l',rfl,rfl,g⟩
theorem zrk {c:List UInt8} {m:Nat} (hP:∀ m' < m,Part c m') (hW:∀ m' < m,zqP c m'):Part c m:=by
 intro i n s ps l hp hm;have hp':=hp;obtain ⟨i0,i1,c1,n0,n1,s0,s1,q1,p1⟩:=hp;rw [zhM,zeO];unfold zbR zbv;rw [zoe i0,r_ok];simp only [Option.bind_some,decide_true,Bool.not_true,Bool.false_eq_true,if_false];rw [zjO i0];simp only [Option.bind_some];have fi:fits (i+1):=zbA (by omega) (by omega)
 have es:s+1 - 1=s:=by omega
 have fs:fits s:=zbA (by omega) (by omega)
 have fs1:fits (s+1):=zbA (by omega) (by omega)
 have htr:(trR ps).length<=10:=by rw [zbL];omega
 have j2:∀ t,(t=true->nowT c i=48\/nowT c i=49)->Sm c i n s ps l (zbi zar c i s n (nsP ps) (nowT c i) t) (zbm zah c i s n (nmR ps) 0 0 (trR ps) l (nowT c i) t):=by
  intro t ht;unfold zbi zbm
  cases t with
  | true=>
   have hk:=ht rfl;have hlt:i < c.length:=zff (by omega)
   simp only [if_true];rw [zfg ⟨n0,n1⟩,zet i0 (by omega) ⟨n0,by omega⟩]
   by_cases hbad:30 < n+1
   ·simp only [hbad,if_true,zaE,Option.bind_some];rw [zfl (by omega)]
    simp only [Option.bind_some];exact .inr ⟨7,i,_,_,_,_,_,_,rfl,rfl,by decide,by omega,by omega,by omega,by (first | omega | (simp only [List.length_append,List.length_cons,List.length_nil] at *; omega) | (simp;done) | (simp;omega)),zbF _,zbL _⟩
   ·simp only [hbad,if_false,zbq,Option.bind_some,zaH fi];rw [zfl (by omega)]
    simp only [Option.bind_some];exact .inl ⟨_,_,_,_,_,rfl,rfl,by omega,by omega,by omega,by omega,by (first | omega | (simp only [List.length_append,List.length_cons,List.length_nil] at *; omega) | (simp;done) | (simp;omega)),Ext.snoc _ _,Stn.put_leaf (x:=(nowT c i,0,0,0,())) hk⟩
  | false=>
   simp only [Bool.false_eq_true,if_false];by_cases h33:nowT c i=33
   ·have hlt:i < c.length:=zff (by rw [h33];decide)
    simp only [h33,decide_true,if_true];rw [zfg ⟨n0,n1⟩,zet i0 (by omega) ⟨n0,by omega⟩]
    by_cases hbad:30 < n+1
    ·simp only [hbad,if_true,zaE,Option.bind_some];rw [zmc htr];simp only [Option.bind_some];rw [zkh (by decide)]
     simp only [Option.bind_some];rw [zmc (by rw [List.length_map];exact htr)]
     simp only [Option.bind_some];rw [zfl (by omega)]
     simp only [Option.bind_some];exact .inr ⟨7,i,_,_,_,_,_,_,rfl,rfl,by decide,by omega,by omega,by omega,by (first | omega | (simp only [List.length_append,List.length_cons,List.length_nil] at *; omega) | (simp;done) | (simp;omega)),zbF _,by rw [List.length_map,List.length_map];exact zbL _⟩
    ·simp only [hbad,if_false,zbq,Option.bind_some,zaH fi];rw [zqK (by omega),zmc htr]
     simp only [Option.bind_some];rw [<- znb,<- zps ps];rcases hP (((c.length:Int) - (i+1)).toNat) (by omega) (i+1) (n+1) s (trn ps) l ⟨by omega,by omega,c1,by omega,by omega,s0,s1,by omega,by rw [zlx];exact p1⟩ (Nat.le_refl _) with
      ⟨a1,b1,i',n',l',e1,e2,g1,g2,g3,g4,g5,g6,g7⟩ | ⟨cd,pl,b1,i',n',nm',tr',l',e1,e2,g1,g2,g3,g4,g5,g6,g7⟩
     ·simp only [e1,e2,zbq,Option.bind_some];rw [zqK (by rw [zlx];omega),zmc (by rw [zbL,zlx];omega)]
      simp only [Option.bind_some];rw [zfl (by omega),<- znb,zrS,zps]
      simp only [Option.bind_some];exact .inl ⟨_,_,_,_,_,rfl,rfl,by omega,g2,by omega,g4,by (first | omega | (simp only [List.length_append,List.length_cons,List.length_nil] at *; omega) | (simp;done) | (simp;omega)),g6.put _,Stn.put_no (x:=(33,0,b1,0,())) rfl (by rw [<- znb];exact g7)⟩
     ·simp only [e1,e2,zaE,Option.bind_some];rw [zlx] at g6 g7;rw [zmc (by omega)]
      simp only [Option.bind_some];rw [zfl (by omega)]
      simp only [Option.bind_some];exact .inr ⟨cd,pl,_,_,_,_,_,_,rfl,rfl,g1,g2,g3,g4,by (first | omega | (simp only [List.length_append,List.length_cons,List.length_nil] at *; omega) | (simp;done) | (simp;omega)),g6,by rw [List.length_map];exact g7⟩
   ·simp only [h33,decide_false,Bool.false_eq_true,if_false];have j13:∀ t,(t=true->nowT c i=60\/nowT c i=91)->Sm c i n s ps l (za5 zar c i s n (nsP ps) (nowT c i) t) (zba zah c i s n (nmR ps) 0 0 (trR ps) l (nowT c i) t):=by
     intro t ht;unfold za5 zba
     cases t with
     | true=>
      have hk:=ht rfl;simp only [if_true];exact (zpQ hk hP hp' (zff (by omega)) hm).wrap
     | false=>
      simp only [Bool.false_eq_true,if_false];have j15:∀ t,(t=true->nowT c i=109\/nowT c i=110)->Sm c i n s ps l (za6 zar c i s n (nsP ps) (nowT c i) t) (zbb zah c i s n (nmR ps) 0 0 (trR ps) l (nowT c i) t):=by
       intro t ht;unfold za6 zbb
       cases t with
       | true=>
        have hk:=ht rfl;simp only [if_true];exact (zre hk hP hp' (zff (by omega)) hm).wrap
       | false=>
        simp only [Bool.false_eq_true,if_false];have j17:∀ t,(t=true->nowT c i≠0)->Sm c i n s ps l (za7 zar c i s n (nsP ps) (nowT c i) t) (zav zah c i s n (nmR ps) 0 0 (trR ps) l (nowT c i) t):=by
         intro t ht;unfold za7 zav
         cases t with
         | true=>
          simp only [if_true];exact (zqf hp' (zff (ht rfl))).wrap
         | false=>
          simp only [Bool.false_eq_true,if_false];by_cases h40:nowT c i=40
          ·have hlt:i < c.length:=zff (by rw [h40];decide)
           simp only [h40,not_true_eq_false,decide_false,Bool.false_eq_true,if_false];by_cases hs:s=40
           ·simp only [hs,decide_true,if_true,ziJ,zaE,zeV,Option.bind_some];exact .inr ⟨7,i,_,_,_,_,_,_,rfl,rfl,by decide,by omega,by omega,by omega,by omega,zbF _,zbL _⟩
           ·simp only [hs,decide_false,Bool.false_eq_true,if_false];unfold za8;rw [zaH fs1,zaH fi,zaH fs1,zaH fi];rcases hW (((c.length:Int) - (i+1)).toNat) (by omega) (i+1) n (s+1) ps l ⟨by omega,by omega,c1,by omega,by omega,by omega,by omega,by omega,p1⟩ (Nat.le_refl _) with
             ⟨a1,b1,i',n',l',e1,e2,g1,g2,g3,g4,g5,g6,g7⟩ | ⟨cd,pl,b1,i',n',nm',tr',l',e1,e2,g1,g2,g3,g4,g5,g6,g7⟩
            ·simp only [e1,e2,zbq,Option.bind_some];rw [zpy (by omega),znF (by omega)]
             by_cases h41:nowT c i'=41
             ·have hlt3:i' < c.length:=zff (by rw [h41];decide)
              simp only [h41,if_true,zbq,Option.bind_some,es,zaH fs];exact .inl ⟨_,_,_,_,_,rfl,rfl,by omega,by omega,by omega,g4,by omega,g6,g7⟩
             ·simp only [h41,if_false,zaE,Option.bind_some,es,zaH fs];exact .inr ⟨4,i',_,_,_,_,_,_,rfl,rfl,by decide,by omega,by omega,by omega,by omega,zbF _,zbL _⟩
            ·simp only [e1,e2,zaE,Option.bind_some];rw [znn g1 (by omega)]
             simp only [Option.bind_some,es,zaH fs];exact .inr ⟨cd,pl,_,_,_,_,_,_,rfl,rfl,g1,by omega,by omega,g4,by omega,g6,g7⟩
          ·simp only [h40,not_false_eq_true,decide_true,if_true,ziJ,zaE,zeV,Option.bind_some];exact .inr ⟨4,i,_,_,_,_,_,_,rfl,rfl,by decide,by omega,by omega,by omega,by omega,zbF _,zbL _⟩
        have hJ:=fun t=>j17 t
        by_cases a1:88<=nowT c i
        ·by_cases a2:nowT c i<=90
         ·have h:=j17 true (fun _=>by omega)
          have hR:(if decide (nowT c i=88)=true then zav zah c i s n (nmR ps) 0 0 (trR ps) l (nowT c i) (decide (nowT c i=88)) else if decide (nowT c i=89)=true then zav zah c i s n (nmR ps) 0 0 (trR ps) l (nowT c i) (decide (nowT c i=89)) else zav zah c i s n (nmR ps) 0 0 (trR ps) l (nowT c i) (decide (nowT c i=90)))=zav zah c i s n (nmR ps) 0 0 (trR ps) l (nowT c i) true:=by
           by_cases b1:nowT c i=88
           ·simp [b1]
           ·by_cases b2:nowT c i=89
            ·simp [b2]
            ·have b3:nowT c i=90:=by omega
             simp [b3]
          rw [hR];simpa only [a1,a2,decide_true,if_true] using h
         ·have h:=j17 false (fun h=>by cases h)
          have b1 : ¬ nowT c i=88:=by omega
          have b2 : ¬ nowT c i=89:=by omega
          have b3 : ¬ nowT c i=90:=by omega
          simpa only [a1,a2,b1,b2,b3,decide_true,decide_false,Bool.false_eq_true,if_true,if_false] using h
        ·have h:=j17 false (fun h=>by cases h)
         have b1 : ¬ nowT c i=88:=by omega
         have b2 : ¬ nowT c i=89:=by omega
         have b3 : ¬ nowT c i=90:=by omega
         simpa only [a1,b1,b2,b3,decide_false,Bool.false_eq_true,if_false] using h
      by_cases h109:nowT c i=109
      ·have:=j15 true (fun _ => .inl h109)
       simpa [h109] using this
      ·have:=j15 (decide (nowT c i=110)) (fun h => .inr (of_decide_eq_true h))
       simpa [h109] using this
    by_cases h60:nowT c i=60
    ·have:=j13 true (fun _ => .inl h60)
     simpa [h60] using this
    ·have:=j13 (decide (nowT c i=91)) (fun h => .inr (of_decide_eq_true h))
     simpa [h60] using this
 by_cases h48:nowT c i=48
 ·have:=j2 true (fun _ => .inl h48)
  simpa [h48] using this
 ·have:=j2 (decide (nowT c i=49)) (fun h => .inr (of_decide_eq_true h))
  simpa [h48] using this
theorem zrY {c:List UInt8}:∀ m:Nat,Part c m/\zqP c m:=by
 intro m
 induction m using Nat.strongRecOn with
 | ind m ih=>
  have hP:Part c m:=zrk (fun m' h=>(ih m' h).1) (fun m' h=>(ih m' h).2)
  have hP':∀ m' ≤ m,Part c m':=fun m' h=>by
   rcases Nat.lt_or_eq_of_le h with h | rfl
   ·exact (ih m' h).1
   ·exact hP
  have hT:∀ m' ≤ m,Term c m':=fun m' h=>zrQ fun m'' h'=>hP' m'' (Nat.le_trans h' h)
  exact ⟨hP,zqv hT⟩
theorem zof (c:List UInt8):(∃ a b l,zgb c=some (a,(0,(0,())))/\zgx c=some (b,(0,(0,())),l)/\(l.length:Int)<=30/\Stn l [] a b)
  \/(∃ a cd pl,zgb c=some (a,(cd,(pl,())))/\zgx c=some (0,(cd,(pl,())),[])/\cd≠0):=by
 unfold zgb zgx;by_cases hc:(4000:Int) < c.length
 ·simp only [hc,decide_true,if_true,Option.bind_some];exact .inr ⟨_,1,0,rfl,rfl,by decide⟩
 ·simp only [hc,decide_false,Bool.false_eq_true,if_false];unfold zeI zeU;rcases (zrY (c:=c) (((c.length:Int) - 0).toNat)).2 0 0 0 [] [] ⟨by omega,by omega,by omega,by omega,by omega,by omega,by omega,by simp,by simp⟩ (Nat.le_refl _) with
   ⟨a1,b1,i',n',l',e1,e2,g1,g2,g3,g4,g5,g6,g7⟩ | ⟨cd,pl,b1,i',n',nm',tr',l',e1,e2,g1,g2,g3,g4,g5,g6,g7⟩
  ·have e1:zaP zar c 0 0 0 []=_:=e1;have e2:zaQ zah c 0 0 0 [] 0 0 [] []=_:=e2;simp only [e1,e2,zbq,Option.bind_some];by_cases hi:i' < (c.length:Int)
   ·simp only [hi,decide_true,if_true,ziJ,zaE,zeV,Option.bind_some,Int.reduceEq,not_false_eq_true];exact .inr ⟨_,4,i',rfl,rfl,by decide⟩
   ·simp only [hi,decide_false,Bool.false_eq_true,if_false,not_true_eq_false,Option.bind_some];exact .inl ⟨_,_,_,rfl,rfl,by simp at g5;omega,g7⟩
  ·have e1:zaP zar c 0 0 0 []=_:=e1;have e2:zaQ zah c 0 0 0 [] 0 0 [] []=_:=e2;simp only [e1,e2,zaE,Option.bind_some];by_cases hi:i' < (c.length:Int)
   ·simp only [hi,decide_true,if_true,zeV,g1,if_false,not_false_eq_true,Option.bind_some];exact .inr ⟨_,cd,pl,rfl,rfl,g1⟩
   ·simp only [hi,decide_false,Bool.false_eq_true,if_false,g1,not_false_eq_true,decide_true,if_true,Option.bind_some];exact .inr ⟨_,cd,pl,rfl,rfl,g1⟩
theorem zlL (f a:Int):eqB (f,(a,())) (f,(a,()))=true:=by simp [eqB]
theorem law_true (c:List UInt8):zgp c=some true:=by
 unfold zgp zjv;rcases zof c with ⟨a,b,l,e1,e2,_,_⟩ | ⟨a,cd,pl,e1,e2,_⟩
 ·simp only [e1,e2,Option.bind_some,zlL]
 ·simp only [e1,e2,Option.bind_some,zlL]
end Go.Proofs.Ythmffpifpeddfaa.fixReadsW
