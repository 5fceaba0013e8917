import Derived.Test.YtheahfijmfffcaaRegularDetD
set_option maxHeartbeats 1000000
set_option maxRecDepth 20000
set_option linter.unusedSimpArgs false
set_option linter.unusedVariables false
set_option linter.unusedSectionVars false
namespace Go.Proofs.Ytheahfijmfffcaa.regularDetW
open Go Go.Ab
noncomputable section
theorem ztA {n:Nat} (h:n < 9223372036854775808):IntKind.wrap .i64 (n:Int)=n:=by
 unfold IntKind.wrap;simp [IntKind.bits,IntKind.signed];omega
theorem znk (m:Nat):BitVec.ofInt 64 (m:Int)=BitVec.ofNat 64 m:=by
 apply BitVec.eq_of_toNat_eq;simp
theorem zs2 {m n:Nat} (hm:m < 9223372036854775808) (hn:n < 9223372036854775808):iand .i64 (m:Int) (n:Int)=((m &&& n:Nat):Int):=by
 unfold iand;have h:(BitVec.ofInt IntKind.i64.bits (m:Int) &&& BitVec.ofInt IntKind.i64.bits (n:Int)).toNat=m &&& n:=by
  show (BitVec.ofInt 64 (m:Int) &&& BitVec.ofInt 64 (n:Int)).toNat=m &&& n;rw [znk,znk,BitVec.toNat_and,BitVec.toNat_ofNat,BitVec.toNat_ofNat,Nat.mod_eq_of_lt (by omega),Nat.mod_eq_of_lt (by omega)]
 rw [h,ztA (Nat.lt_of_le_of_lt Nat.and_le_left hm)]
theorem zyc {m n:Nat} (hm:m < 9223372036854775808) (hn:n < 9223372036854775808):ior .i64 (m:Int) (n:Int)=((m ||| n:Nat):Int):=by
 unfold ior;have h:(BitVec.ofInt IntKind.i64.bits (m:Int) ||| BitVec.ofInt IntKind.i64.bits (n:Int)).toNat=m ||| n:=by
  show (BitVec.ofInt 64 (m:Int) ||| BitVec.ofInt 64 (n:Int)).toNat=m ||| n
  rw [znk,znk,BitVec.toNat_or,BitVec.toNat_ofNat,BitVec.toNat_ofNat,Nat.mod_eq_of_lt (by omega),Nat.mod_eq_of_lt (by omega)]
 rw [h,ztA (Nat.or_lt_two_pow (n:=63) hm hn)]
theorem zs4 {m k:Nat} (hk:k < 63) (h:m * 2 ^ k < 9223372036854775808):ishl .i64 (m:Int) (k:Int)=((m <<< k:Nat):Int):=by
 unfold ishl;have e:min ((k:Int).toNat) IntKind.i64.bits=k:=by
  show min ((k:Int).toNat) 64=k;omega
 rw [e,Nat.shiftLeft_eq];have:(m:Int) * 2 ^ k=((m * 2 ^ k:Nat):Int):=by push_cast;rfl
 rw [this,ztA h]
theorem zpK {m k:Nat} (hk:k<=64):ishr .i64 (m:Int) (k:Int)=((m >>> k:Nat):Int):=by
 unfold ishr;have e:min ((k:Int).toNat) IntKind.i64.bits=k:=by
  show min ((k:Int).toNat) 64=k;omega
 rw [e,Nat.shiftRight_eq_div_pow,Int.fdiv_eq_ediv_of_nonneg _ (by exact_mod_cast Nat.zero_le _)]
 push_cast;rfl
theorem zAF {m q:Nat} (hm:m < 4611686018427387904) (hq:q < 62):ior .i64 (m:Int) (ishl .i64 1 (q:Int))=((m ||| 2 ^ q:Nat):Int)/\m ||| 2 ^ q < 4611686018427387904:=by
 have h2:2 ^ q < 4611686018427387904:=Nat.pow_lt_pow_right (a:=2) (n:=62) (by omega) hq
 have h1:ishl .i64 1 (q:Int)=((2 ^ q:Nat):Int):=by
  have:=zs4 (m:=1) (k:=q) (by omega) (by omega)
  rw [Nat.shiftLeft_eq,Nat.one_mul] at this;exact this
 rw [h1,zyc (by omega) (by omega)]
 exact ⟨rfl,Nat.or_lt_two_pow (n:=62) hm h2⟩
def bitP (s q:Int):Prop:=iand .i64 (ishr .i64 s q) 1=1
instance (s q:Int):Decidable (bitP s q):=by unfold bitP;infer_instance
theorem zdx {m:Nat} (hm:m < 2048) {q:Nat} (hq:q<=11):bitP (m:Int) (q:Int)↔m.testBit q=true:=by
 have hs:m >>> q<=m:=Nat.shiftRight_le m q;unfold bitP;rw [zpK (by omega),show (1:Int)=((1:Nat):Int) from rfl,zs2 (by omega) (by omega),Nat.and_one_is_mod,Nat.testBit]
 rw [show (1 &&& m >>> q)=(m >>> q) % 2 by rw [Nat.and_comm,Nat.and_one_is_mod]]
 simp only [bne_iff_ne,ne_eq];omega
def SetP (s:Int):Prop:=∃ m:Nat,s=m/\m < 2048
theorem zus {s q:Int} (hs:SetP s) (q0:0<=q) (q1:q < 11):SetP (ior .i64 s (ishl .i64 1 q))/\∀ r:Int,0<=r->r < 11->(bitP (ior .i64 s (ishl .i64 1 q)) r↔bitP s r\/r=q):=by
 obtain ⟨m,rfl,hm⟩:=hs;obtain ⟨k,rfl⟩:∃ k:Nat,q=k:=⟨q.toNat,by omega⟩
 obtain ⟨b1,b2⟩:=zAF (m:=m) (q:=k) (by omega) (by omega)
 have h2:2 ^ k < 2 ^ 11:=Nat.pow_lt_pow_right (by omega) (by omega)
 have hlt:m ||| 2 ^ k < 2048:=Nat.or_lt_two_pow (n:=11) hm h2
 rw [b1];refine ⟨⟨_,rfl,hlt⟩,fun r r0 r1 => ?_⟩
 obtain ⟨j,rfl⟩:∃ j:Nat,r=j:=⟨r.toNat,by omega⟩
 rw [zdx hlt (by omega),zdx hm (by omega),Nat.testBit_or,Bool.or_eq_true,Nat.testBit_two_pow,decide_eq_true_iff]
 exact or_congr Iff.rfl (by omega)
theorem zbY:SetP 0/\∀ r:Int,0<=r->r < 11 -> ¬ bitP 0 r:=by
 refine ⟨⟨0,rfl,by omega⟩,fun r r0 r1 => ?_⟩
 obtain ⟨j,rfl⟩:∃ j:Nat,r=j:=⟨r.toNat,by omega⟩
 have:=zdx (m:=0) (by omega) (q:=j) (by omega)
 rw [show ((0:Nat):Int)=0 from rfl] at this;rw [this];simp
theorem zzN {s f:Int} (hs:SetP s) (hf:SetP f):0<=iand .i64 s f/\(¬ iand .i64 s f=0↔∃ r:Int,0<=r/\r < 11/\bitP s r/\bitP f r):=by
 obtain ⟨m,rfl,hm⟩:=hs;obtain ⟨k,rfl,hk⟩:=hf;rw [zs2 (by omega) (by omega)]
 refine ⟨by omega,?_⟩
 constructor
 ·intro h;have hne:m &&& k≠0:=by omega
  obtain ⟨j,hj⟩:=Nat.exists_testBit_of_ne_zero hne;have hle:m &&& k<=m:=Nat.and_le_left;have hj8:j < 11:=by
   refine Nat.lt_of_not_le fun h8 => ?_
   have:m &&& k < 2 ^ j:=Nat.lt_of_lt_of_le (by omega:m &&& k < 2 ^ 11) (Nat.pow_le_pow_right (by omega) h8)
   rw [Nat.testBit_lt_two_pow this] at hj;cases hj
  rw [Nat.testBit_and,Bool.and_eq_true] at hj;exact ⟨j,by omega,by omega,(zdx hm (by omega)).2 hj.1,(zdx hk (by omega)).2 hj.2⟩
 ·rintro ⟨r,r0,r1,h1,h2⟩ h;obtain ⟨j,rfl⟩:∃ j:Nat,r=j:=⟨r.toNat,by omega⟩
  have hz:m &&& k=0:=by omega
  have:(m &&& k).testBit j=true:=by rw [Nat.testBit_and,(zdx hm (by omega)).1 h1,(zdx hk (by omega)).1 h2];rfl
  rw [hz] at this;simp at this
def bitsF (l:List Int):Nat->Int
 | 0=>0
 | k+1=>ior .i64 (bitsF l k) (ishl .i64 1 (ix l (k:Int)))
theorem zdR {s f:Int} (hs:SetP s) (hf:SetP f):SetP (ior .i64 s f)/\∀ r:Int,0<=r->r < 11->(bitP (ior .i64 s f) r↔bitP s r\/bitP f r):=by
 obtain ⟨m,rfl,hm⟩:=hs;obtain ⟨k,rfl,hk⟩:=hf;have hlt:m ||| k < 2048:=Nat.or_lt_two_pow (n:=11) hm hk
 rw [zyc (by omega) (by omega)]
 refine ⟨⟨_,rfl,hlt⟩,fun r r0 r1 => ?_⟩
 obtain ⟨j,rfl⟩:∃ j:Nat,r=j:=⟨r.toNat,by omega⟩
 rw [zdx hlt (by omega),zdx hm (by omega),zdx hk (by omega),Nat.testBit_or,Bool.or_eq_true]
theorem zyR {q:Int} (q0:0<=q) (q1:q < 11):SetP (ishl .i64 1 q)/\∀ r:Int,0<=r->r < 11->(bitP (ishl .i64 1 q) r↔r=q):=by
 obtain ⟨k,rfl⟩:∃ k:Nat,q=k:=⟨q.toNat,by omega⟩
 have h2:2 ^ k < 2 ^ 11:=Nat.pow_lt_pow_right (by omega) (by omega)
 have e:ishl .i64 1 (k:Int)=((2 ^ k:Nat):Int):=by
  have:=zs4 (m:=1) (k:=k) (by omega) (by rw [Nat.one_mul];exact Nat.lt_trans h2 (by decide))
  rw [show ((1:Nat):Int)=1 from rfl] at this;rw [this,Nat.one_shiftLeft]
 rw [e];refine ⟨⟨_,rfl,h2⟩,fun r r0 r1 => ?_⟩
 obtain ⟨j,rfl⟩:∃ j:Nat,r=j:=⟨r.toNat,by omega⟩
 rw [zdx h2 (by omega),Nat.testBit_two_pow,decide_eq_true_iff]
 omega
def bl (x:Int):List Int:=((List.range 11).map (fun (j:Nat)=>(j:Int))).filter (fun q=>decide (bitP x q))
theorem zgn {x q:Int}:q∈bl x↔0<=q/\q < 11/\bitP x q:=by
 unfold bl;rw [List.mem_filter,List.mem_map];constructor
 ·rintro ⟨⟨j,hj,rfl⟩,h⟩;rw [List.mem_range] at hj;exact ⟨by omega,by omega,by simpa using h⟩
 ·rintro ⟨h0,h1,h⟩;exact ⟨⟨q.toNat,List.mem_range.2 (by omega),by omega⟩,by simpa using h⟩
theorem zmp:bl 0=[]:=by
 refine List.eq_nil_iff_forall_not_mem.2 fun q hq => ?_
 obtain ⟨h0,h1,h⟩:=zgn.1 hq;exact zbY.2 q h0 h1 h
section
variable {α C:Type} [Inhabited α]
theorem zoe {l:List α} {P:α->Prop}:(∃ x∈l,P x)↔∃ i:Int,0<=i/\i < l.length/\P (ix l i):=by
 constructor
 ·rintro ⟨x,hx,hp⟩;obtain ⟨i,hi,rfl⟩:=List.mem_iff_getElem.1 hx;refine ⟨i,by omega,by omega,?_⟩
  rwa [zhf (by omega) (by omega)]
 ·rintro ⟨i,h0,h1,hp⟩;exact ⟨_,zb9 h0 h1,hp⟩
end
theorem scan_to {R:Type} {len:Int} {L:Int->Option R} {bad:Int->Prop} {x:Option R} {lo:Int} (h0:lo<=len)
  (hs:∀ t,lo<=t->t < len->(bad t->L t=x)/\(¬ bad t->L t=L (t+1))) (hf:(∀ t,lo<=t->t < len -> ¬ bad t)->L len=x):L lo=x:=by
 have key:∀ (n:Nat) (t:Int),lo<=t->t<=len->(len - t).toNat=n->(∀ j,lo<=j->j < t -> ¬ bad j)->L t=x:=by
  intro n
  induction n with
  | zero=>
   intro t h1 h2 hn h;obtain rfl:t=len:=by omega
   exact hf h
  | succ n ih=>
   intro t h1 h2 hn h;by_cases hb:bad t
   ·exact (hs t h1 (by omega)).1 hb
   ·rw [(hs t h1 (by omega)).2 hb]
    refine ih (t+1) (by omega) (by omega) (by omega) fun j a b => ?_
    by_cases e:j=t
    ·rw [e];exact hb
    ·exact h j a (by omega)
 exact key _ lo (Int.le_refl _) h0 rfl (fun j a b=>by omega)
theorem zva {R S:Type} {len:Int} {L:Int->S->Option R} {f:Int->S->S} {lo:Int} {I:Int->S->Prop} {s:S} (h0:lo<=len) (hI:I lo s)
  (hs:∀ t s,lo<=t->t < len->I t s->L t s=L (t+1) (f t s)/\I (t+1) (f t s)):∃ s',I len s'/\L lo s=L len s':=by
 have key:∀ (n:Nat) (t:Int) (s:S),lo<=t->t<=len->(len - t).toNat=n->I t s->∃ s',I len s'/\L t s=L len s':=by
  intro n
  induction n with
  | zero=>
   intro t s h1 h2 hn h;obtain rfl:t=len:=by omega
   exact ⟨s,h,rfl⟩
  | succ n ih=>
   intro t s h1 h2 hn h;obtain ⟨e,h3⟩:=hs t s h1 (by omega) h
   obtain ⟨s',h4,h5⟩:=ih (t+1) _ (by omega) (by omega) (by omega) h3
   exact ⟨s',h4,e.trans h5⟩
 exact key _ lo s (Int.le_refl _) h0 rfl hI
theorem zfJ {s:List Int} (hs:s.length * 8<=140737488355328):za5 s=some s:=by
 have hr:G (room ([]:List Int) s 8) (some (([]:List Int)++s))=some s:=by
  rw [zak (zk4 (by simpa using hs))];rfl
 unfold za5;refine zAG (fun h => ?_) (fun h=>hr)
 obtain rfl:s=[]:=List.length_eq_zero_iff.1 h;rw [hr];exact zpY (ts:=[(.list (.int .i64))]) (some ([]:List Int))
def stp (N:List (List Int)) (q a:Int):Int:=ix (ix N q) a
def wlk (N:List (List Int)) (q:Int) (w:List Int):Int:=w.foldl (stp N) q
structure Tab (L:Int) (N:List (List Int)):Prop where
 row:∀ r∈N,(r.length:Int)=L
 to:∀ r∈N,∀ q∈r,0<=q/\q < N.length
theorem Tab.stpb {L:Int} {N:List (List Int)} (h:Tab L N) {q a:Int} (q0:0<=q) (q1:q < N.length) (a0:0<=a) (a1:a < L):0<=stp N q a/\stp N q a < N.length:=by
 have h1:=zb9 q0 q1;have h2:=h.row _ h1;exact h.to _ h1 _ (zb9 a0 (by omega))
theorem Tab.rowlen {L:Int} {N:List (List Int)} (h:Tab L N) {q:Int} (q0:0<=q) (q1:q < N.length):((ix N q).length:Int)=L:=h.row _ (zb9 q0 q1)
theorem Tab.wlkb {L:Int} {N:List (List Int)} (h:Tab L N):∀ {w:List Int} {q:Int},0<=q->q < N.length->(∀ a∈w,0<=a/\a < L)->0<=wlk N q w/\wlk N q w < N.length
 | [],q,q0,q1,_=>⟨q0,q1⟩
 | a::w,q,q0,q1,hw=>by
  have:=h.stpb q0 q1 (hw a (by simp)).1 (hw a (by simp)).2
  exact Tab.wlkb h (q:=stp N q a) (w:=w) this.1 this.2 (fun b hb=>hw b (by simp [hb]))
theorem ztp {d:Int×Int×List (List Int)×List Int×Unit} {L:Int} (h:Tab L d.2.2.1) {w:List Int} (hw:∀ a∈w,0<=a/\a < L) (hl:w.length<=1000000) {q:Int} (q0:0<=q) (q1:q < d.2.2.1.length):zto d q w=some (wlk d.2.2.1 q w):=by
 have key:∀ (n:Nat) (t q:Int),(w.length - t).toNat=n->0<=t->t<=w.length->0<=q->q < d.2.2.1.length->zjs d w q t=some (wlk d.2.2.1 q (w.drop t.toNat)):=by
  intro n
  induction n with
  | zero=>
   intro t q hn h0 h1 q0 q1;rw [zmc];unfold zdc
   (try dsimp only);(repeat' first | (with_reducible refine G_to ?_ ?_;focus (first | omega | (unfold fits;omega) | (unfold room;(try simp only [List.length_append,List.length_cons,List.length_nil]);omega))) | (with_reducible refine zgh ?_ ?_) | (with_reducible refine zqq ?_) | (with_reducible refine zqo ?_) | (with_reducible refine zt5 (fun _ => ?_) (fun _ => ?_)))<;>try (exfalso;omega)
   rw [List.drop_of_length_le (by omega)];rfl
  | succ n ih=>
   intro t q hn h0 h1 q0 q1;have ha:=hw _ (zb9 h0 (by omega:t < w.length))
   have hr:=h.rowlen q0 q1;have hs:=h.stpb q0 q1 ha.1 ha.2;rw [zmc];unfold zdc
   (try dsimp only);(repeat' first | (with_reducible refine G_to ?_ ?_;focus (first | omega | (unfold fits;omega) | (unfold room;(try simp only [List.length_append,List.length_cons,List.length_nil]);omega))) | (with_reducible refine zgh ?_ ?_) | (with_reducible refine zqq ?_) | (with_reducible refine zqo ?_) | (with_reducible refine zt5 (fun _ => ?_) (fun _ => ?_)))<;>try (exfalso;omega)
   rw [zAI h0 (by omega)]
   exact ih (t+1) _ (by omega) (by omega) (by omega) hs.1 hs.2
 exact key _ 0 q rfl (by omega) (by omega) q0 q1
theorem zbD {α:Type}:∀ {ks:List α} {x:α},zbo ks x=none↔x∉ks
 | [],x=>by simp [zbo]
 | y::ys,x=>by
  unfold zbo;by_cases h:y=x
  ·rw [if_pos h];simp [h]
  ·rw [if_neg h,Option.map_eq_none_iff,zbD];simp [Ne.symm h]
theorem zqD {α:Type} {ks:List α} {x:α} (h:x∉ks):zni ks x=ks++[x]:=by
 unfold zni;rw [zbD.2 h]
theorem zv8 {α:Type} [DecidableEq α]:∀ {l U:List α},l.Nodup->(∀ x∈l,x∈U)->l.length<=U.length
 | [],_,_,_=>Nat.zero_le _
 | a::l,U,hn,hs=>by
  have ha:=hs a (by simp)
  obtain ⟨h1,h2⟩:=List.nodup_cons.1 hn;have:=zv8 (U:=U.erase a) h2 (fun x hx=>(List.mem_erase_of_ne (by rintro rfl;exact h1 hx)).2 (hs x (by simp [hx])))
  rw [List.length_erase_of_mem ha] at this;have hp:0 < U.length:=List.length_pos_of_mem ha;rw [List.length_cons];omega
theorem zr3 {l:List Int} {n:Nat} (h:l.Nodup) (hb:∀ x∈l,0<=x/\x < n):l.length<=n:=by
 have:=zv8 (U:=(List.range n).map Int.ofNat) h (fun x hx=>by
  have:=hb x hx;exact List.mem_map.2 ⟨x.toNat,List.mem_range.2 (by omega),by show ((x.toNat:Nat):Int)=x;omega⟩)
 simpa using this
theorem zuf {α:Type} {ks:List α} {x:α} (h:x∈ks):∃ j,zbo ks x=some j:=by
 cases e:zbo ks x with
 | none=>exact absurd h (zbD.1 e)
 | some j=>exact ⟨j,rfl⟩
theorem zjm {α:Type} (ks:List α) (x:α):zbo (x::ks) x=some 0:=by unfold zbo;rw [if_pos rfl]
theorem zng {α:Type} {ks:List α} {x y:α} (h:y≠x):zbo (y::ks) x=(zbo ks x).map (·+1):=by
 rw [zbo,if_neg h]
theorem zne {α:Type}:∀ {ks:List α} {x:α} {j:Nat} (l:List α),zbo ks x=some j->zbo (ks++l) x=some j
 | [],_,_,_,h=>by cases h
 | y::ks,x,j,l,h=>by
  rw [List.cons_append];by_cases e:y=x
  ·subst e;rw [zjm] at h ⊢;exact h
  ·rw [zng e] at h ⊢
   cases hm:zbo ks x with
   | none=>rw [hm] at h;cases h
   | some i=>rw [hm] at h;rw [zne l hm];exact h
theorem znf {α:Type}:∀ {ks:List α} {x:α},x∉ks->zbo (ks++[x]) x=some ks.length
 | [],x,_=>zjm _ _
 | y::ks,x,h=>by
  have hy:y≠x:=by rintro rfl;exact h (by simp)
  rw [List.cons_append,zng hy,znf (fun hh=>h (by simp [hh]))];rfl
theorem ztd {α:Type}:∀ {ks:List α} {x:α} {k:Nat},ks[k]? =some x->(∀ j,j < k->ks[j]? ≠some x)->zbo ks x=some k
 | [],_,_,h,_=>by simp at h
 | y::ks,x,k,h,hf=>by
  cases k with
  | zero=>
   have:y=x:=by simpa using h
   subst this;exact zjm _ _
  | succ k=>
   have hy:y≠x:=by have:=hf 0 (by omega);simpa using this
   rw [zng hy,ztd (k:=k) (by simpa using h) (fun j hj=>by have:=hf (j+1) (by omega);simpa using this)];rfl
theorem zyv {α:Type} {ks:List α} {x y:α} {j:Nat} (h:zbo ks x=some j) (k:zbo ks y=some j):x=y:=by
 have:=zgR h;rw [zgR k] at this;injection this with this;exact this.symm
theorem zvf {α:Type} {ks:List α} (hn:ks.Nodup) {j:Nat} (hj:j < ks.length):zbo ks ks[j]=some j:=
 ztd (by simp) fun i hi e=>by
  have hi':i < ks.length:=by omega
  rw [List.getElem?_eq_getElem hi'] at e;exact List.pairwise_iff_getElem.1 hn i j hi' hj hi (Option.some.inj e)
theorem zqA {α β:Type} (f:α->β):∀ {ks:List α} {x:α},(∀ y∈ks,f y=f x->y=x)->zbo (ks.map f) (f x)=zbo ks x
 | [],_,_=>rfl
 | y::ks,x,h=>by
  have ih:=zqA f (ks:=ks) (x:=x) (fun z hz=>h z (by simp [hz]))
  rw [List.map_cons];by_cases e:y=x
  ·subst e;rw [zjm,zjm]
  ·rw [zng e,zng (fun hh=>e (h y (by simp) hh)),ih]
def iota (n:Nat):List Int:=(List.range n).map fun j:Nat=>(j:Int)
theorem zvS (n:Nat):(iota n).length=n:=by simp [iota]
theorem zyd (n:Nat):iota (n+1)=iota n++[(n:Int)]:=by simp [iota,List.range_succ]
theorem zqB {α:Type} {ks:List α} {x:α} {j:Nat} (h:zbo ks x=some j):mget ks (iota ks.length) x 0=j:=by
 have:=zjn h;unfold mget;rw [h];simp [iota,this]
theorem zpM {α:Type} {ks:List α} {x:α}:mhas ks x=true↔x∈ks:=by
 unfold mhas
 cases e:zbo ks x with
 | none=>simp [zbD.1 e]
 | some j=>
  have:=zgR e;simp [List.mem_of_getElem? this]
theorem zoj {α:Type} {ks:List α} {x:α} (h:x∉ks):znj ks (iota ks.length) x ks.length=iota (ks++[x]).length:=by
 unfold znj;rw [zbD.2 h,List.length_append,List.length_singleton,zyd]
theorem zp5 {α:Type} [DecidableEq α]:∀ {l U:List α},U.Nodup->(∀ x∈U,x∈l)->l.length<=U.length->l.Nodup
 | [],_,_,_,_=>List.nodup_nil
 | a::l,U,hU,hs,hl=>by
  have ha:a∉l:=fun ha=>by
   have:=zv8 (l:=U) (U:=l) hU (fun x hx=>by
    rcases List.mem_cons.1 (hs x hx) with rfl | h
    ·exact ha
    ·exact h)
   rw [List.length_cons] at hl;omega
  refine List.nodup_cons.2 ⟨ha,?_⟩
  refine zp5 (U:=U.erase a) (hU.erase a) (fun x hx => ?_) ?_
  ·have hne:x≠a:=((List.Nodup.mem_erase_iff hU).1 hx).1;rcases List.mem_cons.1 (hs x (List.mem_of_mem_erase hx)) with h | h
   ·exact absurd h hne
   ·exact h
  ·have:U.length - 1<=(U.erase a).length:=by
    by_cases h:a∈U
    ·rw [List.length_erase_of_mem h];omega
    ·rw [List.erase_of_not_mem h];omega
   rw [List.length_cons] at hl;omega
def keyL (l:List Int):List Int:=l.flatMap fun x=>[IntKind.wrap .u8 x,IntKind.wrap .u8 (ishr .i64 x 8)]
def keyB (l:List Int):List UInt8:=bstr (keyL l)
theorem zBv (x:Int):IntKind.wrap .u8 x=x % 256:=by
 unfold IntKind.wrap;simp [IntKind.bits,IntKind.signed]
theorem zm6 (x:Int) (l:List Int):keyB (x::l)=UInt8.ofNat (x % 256).toNat::UInt8.ofNat (ishr .i64 x 8 % 256).toNat::keyB l:=by
 unfold keyB keyL bstr;simp [zBv]
theorem zAb {a b:Int} (h:UInt8.ofNat (a % 256).toNat=UInt8.ofNat (b % 256).toNat):a % 256=b % 256:=by
 have:=congrArg UInt8.toNat h;simp only [UInt8.toNat_ofNat'] at this;omega
theorem zvW:∀ {l k:List Int},(∀ x∈l,0<=x/\x < 65536)->(∀ x∈k,0<=x/\x < 65536)->keyB l=keyB k->l=k
 | [],[],_,_,_=>rfl
 | [],y::k,_,_,h=>by rw [zm6] at h;cases h
 | x::l,[],_,_,h=>by rw [zm6] at h;cases h
 | x::l,y::k,hl,hk,h=>by
  rw [zm6,zm6] at h;injection h with h1 h
  injection h with h2 h
  have hx:=hl x (by simp)
  have hy:=hk y (by simp)
  have e1:=zAb h1;have e2:=zAb h2;obtain ⟨a,rfl⟩:∃ a:Nat,x=a:=⟨x.toNat,by omega⟩
  obtain ⟨b,rfl⟩:∃ b:Nat,y=b:=⟨y.toNat,by omega⟩
  rw [show (8:Int)=((8:Nat):Int) from rfl,zpK (by omega),zpK (by omega),Nat.shiftRight_eq_div_pow,Nat.shiftRight_eq_div_pow] at e2
  have:a=b:=by omega
  rw [this,zvW (fun z hz=>hl z (by simp [hz])) (fun z hz=>hk z (by simp [hz])) h]
theorem zzs (l:List Int):(keyL l).length=2 * l.length:=by
 induction l with
 | nil=>rfl
 | cons x l ih=>unfold keyL at *; rw [List.flatMap_cons,List.length_append,ih];simp;omega
def mkR (n:Nat) (g:Int->Int):List Int:=(List.range n).map fun a:Nat=>g a
theorem zyw (n:Nat) (g:Int->Int):(mkR n g).length=n:=by simp [mkR]
theorem zBM {n:Nat} {g:Int->Int} {a:Int} (h0:0<=a) (h1:a < n):ix (mkR n g) a=g a:=by
 rw [zhf h0 (by rw [zyw];exact h1)]
 simp [mkR,Int.toNat_of_nonneg h0]
theorem zrw {letters:Int} {w:List Int} (hL:1<=letters/\letters<=4) (hw:w.length<=(60:Int)):∀ (n:Nat) (i:Int),0<=i->i<=w.length->(w.length - i).toNat=n->(∀ j:Int,0<=j->j < i->0<=ix w j/\ix w j < letters)->znt letters w i=some (mayE letters w):=by
 intro n
 induction n with
 | zero=>
  intro i h0 h1 hn h;rw [zo6];unfold zep
  (try dsimp only);(repeat' first | (with_reducible refine G_to ?_ ?_;focus (first | omega | (unfold fits;omega) | (unfold room;(try simp only [List.length_append,List.length_cons,List.length_nil]);omega))) | (with_reducible refine zgh ?_ ?_) | (with_reducible refine zqq ?_) | (with_reducible refine zqo ?_) | (with_reducible refine zt5 (fun _ => ?_) (fun _ => ?_)))<;>try (exfalso;omega)
  ·rw [zAM hL hw (fun j a b=>h j a (by omega))]
 | succ n ih=>
  intro i h0 h1 hn h;rw [zo6];unfold zep
  (try dsimp only);(repeat' first | (with_reducible refine G_to ?_ ?_;focus (first | omega | (unfold fits;omega) | (unfold room;(try simp only [List.length_append,List.length_cons,List.length_nil]);omega))) | (with_reducible refine zgh ?_ ?_) | (with_reducible refine zqq ?_) | (with_reducible refine zqo ?_) | (with_reducible refine zt5 (fun _ => ?_) (fun _ => ?_)))<;>try (exfalso;omega)
  ·rw [zv0 hL hw (i:=i) (by omega) (by omega)]
  ·rw [zv0 hL hw (i:=i) (by omega) (by omega)]
  ·exact ih _ (by omega) (by omega) (by omega) (zwq h (by omega))
theorem zvl {letters:Int} {w:List Int}:zwb letters w=some (mayE letters w):=by
 unfold zwb
 (try dsimp only);(repeat' first | (with_reducible refine G_to ?_ ?_;focus (first | omega | (unfold fits;omega) | (unfold room;(try simp only [List.length_append,List.length_cons,List.length_nil]);omega))) | (with_reducible refine zgh ?_ ?_) | (with_reducible refine zqq ?_) | (with_reducible refine zqo ?_) | (with_reducible refine zt5 (fun _ => ?_) (fun _ => ?_)))<;>try (exfalso;omega)
 ·rw [zrX (by omega)]
 ·rw [zrX (by omega)]
 ·rw [zys (by omega) (by omega)]
 ·exact zrw (by omega) (by omega) _ 0 (by omega) (by omega) rfl (fun j a b=>by omega)
abbrev Dt:=Int×Int×(List (List Int))×(List Int)×Unit
structure DOk (mx:Int) (mb:Int->Prop) (d:Dt):Prop where
 let1:1<=d.1/\d.1<=4
 n1:1<=d.2.2.1.length/\(d.2.2.1.length:Int)<=mx
 st:0<=d.2.1/\d.2.1 < d.2.2.1.length
 mkl:(d.2.2.2.1.length:Int)=d.2.2.1.length
 mok:∀ s∈d.2.2.2.1,¬ mb s
 tab:Tab d.1 d.2.2.1
section
variable {d:Dt} {mb:Int->Prop}
def sigC (d:Dt) (c:List Int) (q:Int):Int×List Int:=(ix c q,(ix d.2.2.1 q).map (ix c))
def ksC (d:Dt) (c:List Int):Nat->List (Int×List Int)
 | 0=>[]
 | t+1=>if sigC d c (t:Int)∈ksC d c t then ksC d c t else ksC d c t++[sigC d c (t:Int)]
def idxC (d:Dt) (c:List Int) (q:Nat):Nat:=(zbo (ksC d c (q+1)) (sigC d c (q:Int))).getD 0
def rfC (d:Dt) (c:List Int):List Int:=mkR d.2.2.1.length fun q=>(idxC d c q.toNat:Int)
theorem zeS (c:List Int) (t:Nat):ksC d c (t+1)=if sigC d c (t:Int)∈ksC d c t then ksC d c t else ksC d c t++[sigC d c (t:Int)]:=rfl
theorem zAJ (c:List Int):∀ t,∃ x,ksC d c (t+1)=ksC d c t++x:=fun t=>by
 rw [zeS];by_cases h:sigC d c (t:Int)∈ksC d c t
 ·exact ⟨[],by rw [if_pos h,List.append_nil]⟩
 ·exact ⟨_,by rw [if_neg h]⟩
theorem zog (c:List Int):∀ t q:Nat,q < t->sigC d c (q:Int)∈ksC d c t
 | t+1,q,h=>by
  rw [zeS];by_cases e:q=t
  ·subst e;by_cases h:sigC d c (q:Int)∈ksC d c q
   ·rw [if_pos h];exact h
   ·rw [if_neg h];simp
  ·have:=zog c t q (by omega)
   by_cases h:sigC d c (t:Int)∈ksC d c t
   ·rw [if_pos h];exact this
   ·rw [if_neg h];simp [this]
theorem zt8 (c:List Int):∀ (t:Nat),∀ k∈ksC d c t,∃ q:Nat,q < t/\k=sigC d c (q:Int)
 | 0,k,h=>by cases h
 | t+1,k,h=>by
  rw [zeS] at h;by_cases e:sigC d c (t:Int)∈ksC d c t
  ·rw [if_pos e] at h;obtain ⟨q,h1,h2⟩:=zt8 c t k h;exact ⟨q,by omega,h2⟩
  ·rw [if_neg e] at h;rcases List.mem_append.1 h with h | h
   ·obtain ⟨q,h1,h2⟩:=zt8 c t k h;exact ⟨q,by omega,h2⟩
   ·exact ⟨t,by omega,List.mem_singleton.1 h⟩
theorem zqu (c:List Int):∀ t,(ksC d c t).Nodup
 | 0=>List.nodup_nil
 | t+1=>by
  rw [zeS];by_cases h:sigC d c (t:Int)∈ksC d c t
  ·rw [if_pos h];exact zqu c t
  ·rw [if_neg h,List.nodup_append];exact ⟨zqu c t,by simp,fun a ha b hb=>by rw [List.mem_singleton.1 hb];rintro rfl;exact h ha⟩
theorem zyk (c:List Int):∀ t,(ksC d c t).length<=t
 | 0=>Nat.le_refl _
 | t+1=>by
  have:=zyk c t;rw [zeS]
  split
  ·omega
  ·rw [List.length_append,List.length_singleton];omega
theorem zkA (c:List Int) (q:Nat):∀ t,q < t->zbo (ksC d c t) (sigC d c (q:Int))=some (idxC d c q)
 | t+1,h=>by
  by_cases e:q=t
  ·subst e;obtain ⟨j,hj⟩:=zuf (zog (d:=d) c (q+1) q (by omega))
   unfold idxC;rw [hj];rfl
  ·obtain ⟨x,hx⟩:=zAJ (d:=d) c t;rw [hx];exact zne x (zkA c q t (by omega))
theorem zzo (c:List Int) {q r:Nat}:idxC d c q=idxC d c r↔sigC d c (q:Int)=sigC d c (r:Int):=by
 have h1:=zkA (d:=d) c q (max q r+1) (by omega)
 have h2:=zkA (d:=d) c r (max q r+1) (by omega)
 constructor
 ·intro e;rw [<- e] at h2;exact zyv h1 h2
 ·intro e;rw [e,h2] at h1;exact (Option.some.inj h1).symm
theorem zAD (c:List Int) {q t:Nat} (h:q < t):idxC d c q < (ksC d c t).length:=zjn (zkA c q t h)
theorem zzp (c:List Int) {t j:Nat} (h:j < (ksC d c t).length):∃ q,q < t/\idxC d c q=j:=by
 obtain ⟨q,hq,e⟩:=zt8 c t _ (List.getElem_mem h);refine ⟨q,hq,?_⟩
 have h1:=zkA (d:=d) c q t hq;rw [<- e,zvf (zqu c t) h] at h1;exact (Option.some.inj h1).symm
structure ClsOk (d:Dt) (c:List Int):Prop where
 len:c.length=d.2.2.1.length
 b:∀ q:Int,0<=q->q < c.length->0<=ix c q/\ix c q < 65536
theorem zq9 (c:List Int):(rfC d c).length=d.2.2.1.length:=zyw _ _
theorem zse (c:List Int) {q:Int} (h0:0<=q) (h1:q < d.2.2.1.length):ix (rfC d c) q=idxC d c q.toNat:=zBM h0 h1
theorem ztw (h:DOk 3000 mb d) (c:List Int) {q:Int} (h0:0<=q) (h1:q < d.2.2.1.length):((sigC d c q).2.length:Int)=d.1:=by
 unfold sigC;rw [List.length_map];exact h.tab.rowlen h0 h1
theorem zwi (h:DOk 3000 mb d) {c:List Int} (hc:ClsOk d c) {q:Int} (h0:0<=q) (h1:q < d.2.2.1.length):∀ x∈(sigC d c q).2,0<=x/\x < 65536:=by
 intro x hx;unfold sigC at hx;obtain ⟨y,hy,rfl⟩:=List.mem_map.1 hx;have:=h.tab.to _ (zb9 h0 h1) y hy;exact hc.b y this.1 (by rw [hc.len];exact this.2)
theorem znS (h:DOk 3000 mb d) (c:List Int) {q a:Int} (h0:0<=q) (h1:q < d.2.2.1.length) (a0:0<=a) (a1:a < d.1):ix (sigC d c q).2 a=ix c (ix (ix d.2.2.1 q) a):=by
 have:=h.tab.rowlen h0 h1;unfold sigC;exact zyi _ a0 (by omega)
theorem ztv (h:DOk 3000 mb d) (c:List Int) {p q:Int} (p0:0<=p) (p1:p < d.2.2.1.length) (q0:0<=q) (q1:q < d.2.2.1.length):sigC d c p=sigC d c q↔ix c p=ix c q/\∀ a:Int,0<=a->a < d.1->ix c (ix (ix d.2.2.1 p) a)=ix c (ix (ix d.2.2.1 q) a):=by
 have l1:=ztw h c p0 p1;have l2:=ztw h c q0 q1;constructor
 ·intro e;refine ⟨congrArg Prod.fst e,fun a a0 a1 => ?_⟩
  rw [<- znS h c p0 p1 a0 a1,<- znS h c q0 q1 a0 a1,e]
 ·rintro ⟨e1,e2⟩;refine Prod.ext e1 (zqs (by omega) fun a a0 a1 => ?_)
  rw [znS h c p0 p1 a0 (by omega),znS h c q0 q1 a0 (by omega)]
  exact e2 a a0 (by omega)
def encK (k:Int×List Int):Int×List UInt8×Unit:=(k.1,keyB k.2,())
theorem zvI {k l:Int×List Int} (hk:∀ x∈k.2,0<=x/\x < 65536) (hl:∀ x∈l.2,0<=x/\x < 65536) (e:encK k=encK l):k=l:=by
 unfold encK at e;injection e with e1 e2
 injection e2 with e2 e3
 exact Prod.ext e1 (zvW hk hl e2)
theorem zp7 (h:DOk 3000 mb d) {c:List Int} (hc:ClsOk d c) {t:Nat} (ht:t < d.2.2.1.length) {number:List (Int×List UInt8×Unit)} {number_1 next':List Int} {r6}:
  zbx d c t number number_1 next' r6 0 []=if mhas number (encK (sigC d c t))=true then zbw c t next' r6 (keyL (sigC d c t).2) number number_1
   else zbw c t next' r6 (keyL (sigC d c t).2) (zni number (encK (sigC d c t))) (znj number number_1 (encK (sigC d c t)) (number.length:Int)):=by
 have hrl:=h.tab.rowlen (q:=(t:Int)) (by omega) (by omega)
 have hlt:=h.let1;have hcl:=hc.len;have key:∀ (n:Nat) (a:Int),((ix d.2.2.1 (t:Int)).length - a).toNat=n->0<=a->a<=(ix d.2.2.1 (t:Int)).length->
   zbx d c t number number_1 next' r6 a (keyL ((sigC d c t).2.take a.toNat))=zbx d c t number number_1 next' r6 (ix d.2.2.1 (t:Int)).length (keyL (sigC d c t).2):=by
  intro n
  induction n with
  | zero=>
   intro a hn a0 a1;obtain rfl:a=(ix d.2.2.1 (t:Int)).length:=by omega
   rw [List.take_of_length_le (by unfold sigC;rw [List.length_map];omega)]
  | succ n ih=>
   intro a hn a0 a1;have hst:=h.tab.stpb (q:=(t:Int)) (a:=a) (by omega) (by omega) a0 (by omega)
   unfold stp at hst;rw [<- ih (a+1) (by omega) (by omega) (by omega)]
   conv=>lhs;rw [zhu];unfold zbJ
   have hk:=zzs ((sigC d c t).2.take a.toNat);rw [List.length_take] at hk;have hsl:=ztw h c (q:=(t:Int)) (by omega) (by omega)
   rw [if_pos (by simp;omega)]
   refine G_to (by omega) (G_to (by omega) (G_to (by omega) (G_to (by omega) (G_to (by omega) (G_to (by omega) (G_to (by unfold room;simp;omega) (G_to (by unfold fits;omega) ?_)))))))
   congr 1
   rw [zqt a0 (by omega),znS h c (q:=(t:Int)) (by omega) (by omega) a0 (by omega)]
   unfold keyL;rw [List.flatMap_append];rfl
 refine (key _ 0 rfl (by omega) (by omega)).trans ?_
 rw [zhu];unfold zbJ;rw [if_neg (by simp)]
 refine G_to (by omega) (G_to (by omega) ?_)
 rw [show (ix c (t:Int),bstr (keyL (sigC d c t).2),())=encK (sigC d c t) from rfl];by_cases c1:mhas number (encK (sigC d c t))=true
 ·rw [if_neg (by simp [c1]),if_pos c1]
 ·rw [if_pos (by simpa using c1),if_neg c1]
theorem zpo (h:DOk 3000 mb d) {c:List Int} (hc:ClsOk d c) {count:Int} {r3}:∀ (n t:Nat) (next':List Int),d.2.2.1.length - t=n->t<=d.2.2.1.length->next'.length=d.2.2.1.length->(∀ j:Int,0<=j->j < t->ix next' j=ix (rfC d c) j)->
  zce d count c r3 t ((ksC d c t).map encK) (iota (ksC d c t).length) next'=if ((ksC d c d.2.2.1.length).length:Int)=count then some (rfC d c) else r3 ((ksC d c d.2.2.1.length).length:Int) (rfC d c):=by
 have hn:=h.n1;intro n
 induction n with
 | zero=>
  intro t next' hn2 ht hl hj;obtain rfl:t=d.2.2.1.length:=by omega
  have:next'=rfC d c:=zqs (by rw [zq9];exact hl) fun j j0 j1=>hj j j0 (by omega)
  rw [zim];unfold zbZ;rw [if_neg (by simp),List.length_map,this]
  by_cases e:((ksC d c d.2.2.1.length).length:Int)=count
  ·rw [if_pos (decide_eq_true e),if_pos e]
  ·rw [if_neg (by simpa using e),if_neg e]
 | succ n ih=>
  intro t next' hn2 ht hl hj;rw [zim];unfold zbZ;rw [if_pos (by simp;omega)]
  refine G_to (by omega) ?_
  rw [zp7 h hc (by omega)]
  have inj:∀ y∈ksC d c t,encK y=encK (sigC d c t)->y=sigC d c t:=fun y hy e=>by
   obtain ⟨q,hq,rfl⟩:=zt8 c t y hy;exact zvI (zwi h hc (by omega) (by omega)) (zwi h hc (by omega) (by omega)) e
  have hmem:encK (sigC d c t)∈(ksC d c t).map encK↔sigC d c t∈ksC d c t:=by
   rw [List.mem_map];exact ⟨fun ⟨y,hy,e⟩=>inj y hy e ▸ hy,fun hy=>⟨_,hy,rfl⟩⟩
  have hat:=zkA (d:=d) c t (t+1) (by omega)
  have inj':∀ y∈ksC d c (t+1),encK y=encK (sigC d c t)->y=sigC d c t:=fun y hy e=>by
   obtain ⟨q,hq,rfl⟩:=zt8 c (t+1) y hy;exact zvI (zwi h hc (by omega) (by omega)) (zwi h hc (by omega) (by omega)) e
  have hget:mget ((ksC d c (t+1)).map encK) (iota (ksC d c (t+1)).length) (encK (sigC d c t)) 0=idxC d c t:=by
   have h1:zbo ((ksC d c (t+1)).map encK) (encK (sigC d c t))=some (idxC d c t):=by rw [zqA encK inj',hat]
   have:=zqB h1
   rwa [List.length_map] at this
  have fin:zbw c t next' (zce d count c r3) (keyL (sigC d c t).2) ((ksC d c (t+1)).map encK) (iota (ksC d c (t+1)).length)=if ((ksC d c d.2.2.1.length).length:Int)=count then some (rfC d c) else r3 ((ksC d c d.2.2.1.length).length:Int) (rfC d c):=by
   unfold zbw;refine G_to (by omega) (G_to (by omega) (G_to (by unfold fits;omega) ?_))
   rw [show (ix c (t:Int),bstr (keyL (sigC d c t).2),())=encK (sigC d c t) from rfl,hget];refine ih (t+1) _ (by omega) (by omega) (by rw [List.length_set];exact hl) (fun j j0 j1 => ?_)
   by_cases e:j=t
   ·subst e;rw [zaI j0 (by omega),zse c j0 (by omega)];simp
   ·rw [za9 (by omega) j0 (Ne.symm e)];exact hj j j0 (by omega)
  by_cases e:sigC d c t∈ksC d c t
  ·rw [if_pos (zpM.2 (hmem.2 e))];rw [zeS,if_pos e] at fin;exact fin
  ·have hne:=fun hh=>e (hmem.1 hh)
   rw [if_neg (fun hh=>hne (zpM.1 hh)),zqD hne]
   have hv:=zoj hne;rw [List.length_map] at hv;rw [List.length_map,hv];rw [zeS,if_neg e] at fin;rw [List.map_append] at fin;rw [List.length_append,List.length_map];rw [List.length_append] at fin;exact fin
theorem zmF (h:DOk 3000 mb d) {c:List Int} (hc:ClsOk d c) {n q:Int} {next' first:List Int} {r7 k r10} (q0:0<=q) (q1:q < d.2.2.1.length) (p0:0<=ix first k) (p1:ix first k < d.2.2.1.length) (hk:0<=k/\k<=100000):∀ (f:Nat) (same:Bool) (a:Int),(d.1 - a).toNat=f->0<=a->a<=d.1->
  (same=true↔ix c (ix first k)=ix c q/\∀ b:Int,0<=b->b < a->ix c (ix (ix d.2.2.1 (ix first k)) b)=ix c (ix (ix d.2.2.1 q) b))\/(same=false/\sigC d c (ix first k)≠sigC d c q)->
  zcl d c n q next' first r7 k r10 same a=if sigC d c (ix first k)=sigC d c q then zbQ n q next' first r7 k else r10 (k+1):=by
 have hlt:=h.let1;have hcl:=hc.len;have bad:∀ a:Int,a<=d.1->sigC d c (ix first k)≠sigC d c q->zcl d c n q next' first r7 k r10 false a=if sigC d c (ix first k)=sigC d c q then zbQ n q next' first r7 k else r10 (k+1):=fun a _ hne=>by
  rw [if_neg hne,zfH];unfold zbG zck;simp only [Bool.false_eq_true,if_false,ite_self];exact G_to (by unfold fits;omega) rfl
 intro f
 induction f with
 | zero=>
  intro same a hf a0 a1 hs;obtain rfl:a=d.1:=by omega
  rcases hs with hs | ⟨rfl,hs⟩
  ·rw [<- ztv h c p0 p1 q0 q1] at hs
   cases same with
   | false=>exact bad _ (by omega) (fun e=>by have:=hs.2 e;cases this)
   | true=>
    rw [if_pos (hs.1 rfl),zfH];unfold zbG zck;rw [if_neg (by simp),if_pos rfl]
  ·exact bad _ (by omega) hs
 | succ f ih=>
  intro same a hf a0 a1 hs;rcases hs with hs | ⟨rfl,hs⟩
  ·cases same with
   | false=>
    refine bad _ a1 (fun e => ?_)
    rw [ztv h c p0 p1 q0 q1] at e;have:=hs.2 ⟨e.1,fun b b0 b1=>e.2 b b0 (by omega)⟩
    cases this
   | true=>
    have hp:=h.tab.rowlen p0 p1;have hq:=h.tab.rowlen q0 q1;have sp:=h.tab.stpb p0 p1 a0 (by omega)
    have sq:=h.tab.stpb q0 q1 a0 (by omega)
    unfold stp at sp sq;rw [zfH];unfold zbG zck;rw [if_pos (by simp;omega),if_pos rfl]
    refine G_to (by omega) (G_to (by omega) (G_to (by omega) (G_to (by omega) (G_to (by omega) (G_to (by omega) (G_to (by omega) (G_to (by omega) (G_to (by unfold fits;omega) ?_))))))))
    refine ih _ (a+1) (by omega) (by omega) (by omega) (.inl ?_)
    rw [decide_eq_true_iff];have hs':=hs.1 rfl;constructor
    ·intro e;refine ⟨hs'.1,fun b b0 b1 => ?_⟩
     by_cases e2:b=a
     ·rw [e2];exact e
     ·exact hs'.2 b b0 (by omega)
    ·intro e;exact e.2 a a0 (by omega)
  ·exact bad _ a1 hs
theorem zoG (h:DOk 3000 mb d) {c:List Int} (hc:ClsOk d c) {t:Nat} (ht:t < d.2.2.1.length) {next' first:List Int} {r7} (hl:next'.length=d.2.2.1.length) (hf:first.map (sigC d c)=ksC d c t) (hb:∀ p:Int,p∈first->0<=p/\p < d.2.2.1.length):
  ∃ first':List Int,first'.map (sigC d c)=ksC d c (t+1)/\(∀ p:Int,p∈first'->0<=p/\p < d.2.2.1.length)/\zbR d c (first.length:Int) t next' first r7 0=r7 (first'.length:Int) ((t:Int)+1) (next'.set t (idxC d c t:Int)) first':=by
 have hn:=h.n1;have hfl:first.length=(ksC d c t).length:=by rw [<- hf,List.length_map]
 have hle:=zyk (d:=d) c t;have hcl:=hc.len;have key:∀ (f:Nat) (k:Int),(first.length - k).toNat=f->0<=k->k<=first.length->(∀ j:Int,0<=j->j < k->sigC d c (ix first j)≠sigC d c t)->
   ∃ first':List Int,first'.map (sigC d c)=ksC d c (t+1)/\(∀ p:Int,p∈first'->0<=p/\p < d.2.2.1.length)/\zbR d c (first.length:Int) t next' first r7 k=r7 (first'.length:Int) ((t:Int)+1) (next'.set t (idxC d c t:Int)) first':=by
  intro f
  induction f with
  | zero=>
   intro k hk k0 k1 hj;obtain rfl:k=first.length:=by omega
   have hnot:sigC d c t∉ksC d c t:=fun hm=>by
    rw [<- hf] at hm;obtain ⟨p,hp,e⟩:=List.mem_map.1 hm;obtain ⟨j,j0,j1,rfl⟩:=(zoe (P:=fun x=>x=p)).1 ⟨p,hp,rfl⟩
    exact hj j j0 j1 e
   have hidx:idxC d c t=first.length:=by
    have h1:=zkA (d:=d) c t (t+1) (by omega)
    rw [zeS,if_neg hnot,znf hnot] at h1;rw [hfl];exact (Option.some.inj h1).symm
   refine ⟨first++[(t:Int)],by rw [List.map_append,hf,zeS,if_neg hnot];rfl,fun p hp=>(List.mem_append.1 hp).elim (hb p) (fun e=>by rw [List.mem_singleton.1 e];omega),?_⟩
   rw [ziS];unfold zb5 zbQ zcR;rw [if_neg (by simp),if_pos (by simp),hidx]
   refine G_to (by unfold room;simp;omega) (G_to (by unfold fits;omega) (G_to (by omega) (G_to (by omega) (G_to (by unfold fits;omega) ?_))))
   rw [List.length_append,List.length_singleton];rfl
  | succ f ih=>
   intro k hk k0 k1 hj;have hp:=hb _ (zb9 k0 (by omega:k < first.length))
   rw [ziS];unfold zb5;rw [if_pos (by simp;omega)]
   have hL:=zmF (n:=(first.length:Int)) (next':=next') (first:=first) (r7:=r7) (k:=k) (r10:=zbR d c (first.length:Int) t next' first r7) h hc (q:=(t:Int)) (by omega) (by omega) hp.1 hp.2 (by omega) _ (decide (ix c (ix first k)=ix c (t:Int))) 0 rfl (by omega) (by have:=h.let1;omega) (.inl (by
    rw [decide_eq_true_iff];exact ⟨fun e=>⟨e,fun b b0 b1=>by omega⟩,fun e=>e.1⟩))
   have hG:∀ x:Option (List Int),G (0<=k/\k < (first.length:Int)) (G (k.toNat < first.length) (G (0<=ix first k/\ix first k < (c.length:Int)) (G ((ix first k).toNat < c.length) (G (0<=(t:Int)/\(t:Int) < (c.length:Int)) (G (((t:Int)).toNat < c.length) x)))))=x:=fun x=>
    G_to (by omega) (G_to (by omega) (G_to (by omega) (G_to (by omega) (G_to (by omega) (G_to (by omega) rfl)))))
   rw [hG,hL];by_cases e:sigC d c (ix first k)=sigC d c t
   ·rw [if_pos e];have hget:(ksC d c t)[k.toNat]? =some (sigC d c t):=by
     rw [<- hf,List.getElem?_map,zyj k0 (by omega),Option.map_some,e]
    have hin:sigC d c t∈ksC d c t:=List.mem_of_getElem? hget;have hidx:(idxC d c t:Int)=k:=by
     have h1:=zkA (d:=d) c t (t+1) (by omega)
     rw [zeS,if_pos hin,ztd hget (fun j hj2 e2=>by
      have h3:=hj (j:Int) (by omega) (by omega)
      rw [<- hf,List.getElem?_map,<- Int.toNat_natCast j,zyj (by omega) (by omega),Option.map_some] at e2
      exact h3 (Option.some.inj e2))] at h1
     have:=Option.some.inj h1;omega
    refine ⟨first,by rw [hf,zeS,if_pos hin],hb,?_⟩
    unfold zbQ zcR;rw [if_neg (by simp;omega),hidx]
    exact G_to (by omega) (G_to (by omega) (G_to (by unfold fits;omega) rfl))
   ·rw [if_neg e];refine ih (k+1) (by omega) (by omega) (by omega) (fun j j0 j1 => ?_)
    by_cases e2:j=k
    ·rw [e2];exact e
    ·exact hj j j0 (by omega)
 exact key _ 0 rfl (by omega) (by omega) (fun j j0 j1=>by omega)
theorem zqY (h:DOk 3000 mb d) {c:List Int} (hc:ClsOk d c) {count:Int} {r3}:∀ (n t:Nat) (next' first:List Int),d.2.2.1.length - t=n->t<=d.2.2.1.length->next'.length=d.2.2.1.length->(∀ j:Int,0<=j->j < t->ix next' j=ix (rfC d c) j)->first.map (sigC d c)=ksC d c t->(∀ p:Int,p∈first->0<=p/\p < d.2.2.1.length)->
  zcD d count c r3 (first.length:Int) t next' first=if ((ksC d c d.2.2.1.length).length:Int)=count then some (rfC d c) else r3 ((ksC d c d.2.2.1.length).length:Int) (rfC d c):=by
 have hn:=h.n1;have hcl:=hc.len;intro n
 induction n with
 | zero=>
  intro t next' first hn2 ht hl hj hf hb;obtain rfl:t=d.2.2.1.length:=by omega
  have:next'=rfC d c:=zqs (by rw [zq9];exact hl) fun j j0 j1=>hj j j0 (by omega)
  have hfl:first.length=(ksC d c d.2.2.1.length).length:=by rw [<- hf,List.length_map]
  rw [zj3];unfold zcs;rw [if_neg (by simp;omega),this,hfl]
  by_cases e:((ksC d c d.2.2.1.length).length:Int)=count
  ·rw [if_pos (decide_eq_true e),if_pos e]
  ·rw [if_neg (by simpa using e),if_neg e]
 | succ n ih=>
  intro t next' first hn2 ht hl hj hf hb;rw [zj3];unfold zcs;rw [if_pos (by simp;omega)]
  obtain ⟨first',f1,f2,f3⟩:=zoG (r7:=zcD d count c r3) h hc (by omega:t < d.2.2.1.length) hl hf hb
  refine f3.trans ?_
  refine ih (t+1) _ first' (by omega) (by omega) (by rw [List.length_set];exact hl) (fun j j0 j1 => ?_) f1 f2
  by_cases e:j=t
  ·subst e;have:=zaI (l:=next') (i:=(t:Int)) (x:=(idxC d c t:Int)) (by omega) (by omega)
   rw [Int.toNat_natCast] at this;rw [this,zse c j0 (by omega),Int.toNat_natCast]
  ·have:=za9 (l:=next') (i:=(t:Int)) (j:=j) (x:=(idxC d c t:Int)) (by omega) j0 (Ne.symm e)
   rw [Int.toNat_natCast] at this;rw [this];exact hj j j0 (by omega)
end
section
variable {d:Dt}
abbrev badD (m:Int):Prop := ¬ m=0 /\ ¬ m=1
def LEq (d:Dt) (q:Int) (e:Dt) (r:Int):Prop:=∀ w:List Int,(∀ a∈w,0<=a/\a < d.1)->ix d.2.2.2.1 (wlk d.2.2.1 q w)=ix e.2.2.2.1 (wlk e.2.2.1 r w)
theorem LEq.step {d e:Dt} {q r:Int} (h:LEq d q e r) {a:Int} (a0:0<=a) (a1:a < d.1):LEq d (ix (ix d.2.2.1 q) a) e (ix (ix e.2.2.1 r) a):=fun w hw=>h (a::w) (fun b hb=>(List.mem_cons.1 hb).elim (fun e=>by rw [e];exact ⟨a0,a1⟩) (hw b))
structure FinC (d:Dt) (C:List Int) (K:Nat):Prop where
 len:C.length=d.2.2.1.length
 le:K<=d.2.2.1.length
 b:∀ q:Int,0<=q->q < d.2.2.1.length->0<=ix C q/\ix C q < K
 sur:∀ v:Int,0<=v->v < K->∃ q:Int,0<=q/\q < d.2.2.1.length/\ix C q=v
 mark:∀ q r:Int,0<=q->q < d.2.2.1.length->0<=r->r < d.2.2.1.length->ix C q=ix C r->ix d.2.2.2.1 q=ix d.2.2.2.1 r
 stable:∀ q r:Int,0<=q->q < d.2.2.1.length->0<=r->r < d.2.2.1.length->ix C q=ix C r->∀ a:Int,0<=a->a < d.1->ix C (ix (ix d.2.2.1 q) a)=ix C (ix (ix d.2.2.1 r) a)
 coarse:∀ q r:Int,0<=q->q < d.2.2.1.length->0<=r->r < d.2.2.1.length->LEq d q d r->ix C q=ix C r
theorem zpQ {c:List Int} {q r:Int} (q0:0<=q) (q1:q < d.2.2.1.length) (r0:0<=r) (r1:r < d.2.2.1.length):ix (rfC d c) q=ix (rfC d c) r↔sigC d c q=sigC d c r:=by
 rw [zse c q0 q1,zse c r0 r1];have:=zzo (d:=d) c (q:=q.toNat) (r:=r.toNat);rw [Int.toNat_of_nonneg q0,Int.toNat_of_nonneg r0] at this;rw [<- this];exact ⟨fun e=>by exact_mod_cast e,fun e=>by rw [e]⟩
theorem zzq {n:Nat} {v:Int}:v∈iota n↔0<=v/\v < n:=by
 unfold iota;rw [List.mem_map];constructor
 ·rintro ⟨j,hj,rfl⟩;have:=List.mem_range.1 hj;omega
 ·rintro ⟨h0,h1⟩;exact ⟨v.toNat,List.mem_range.2 (by omega),by omega⟩
theorem zrR (n:Nat):(iota n).Nodup:=by
 unfold iota;refine List.Pairwise.map _ (fun a b (h:a≠b)=>by omega) (List.nodup_range (n:=n))
theorem ztL (h:DOk 3000 badD d):∀ (f k:Nat) (c:List Int),d.2.2.1.length - k=f->ClsOk d c->
  (∀ q r:Int,0<=q->q < d.2.2.1.length->0<=r->r < d.2.2.1.length->ix c q=ix c r->ix d.2.2.2.1 q=ix d.2.2.2.1 r)->(∀ v:Int,0<=v->v < k->∃ q:Int,0<=q/\q < d.2.2.1.length/\ix c q=v)->(∀ q r:Int,0<=q->q < d.2.2.1.length->0<=r->r < d.2.2.1.length->LEq d q d r->ix c q=ix c r)->
  ∃ C K,FinC d C K/\zdp d (k:Int) c=some C/\zdX d (k:Int) c=some C:=by
 have hn:=h.n1;intro f
 induction f using Nat.strongRecOn with
 | ind f ih=>
 intro k c hf hc hm hs hco;have hcl:=hc.len;have hK:=zyk (d:=d) c d.2.2.1.length;have hcov:∀ x∈iota k,x∈(ksC d c d.2.2.1.length).map Prod.fst:=fun x hx=>by
  obtain ⟨x0,x1⟩:=zzq.1 hx;obtain ⟨q,q0,q1,e⟩:=hs x x0 x1;have:=zog (d:=d) c d.2.2.1.length q.toNat (by omega)
  rw [Int.toNat_of_nonneg q0] at this;exact List.mem_map.2 ⟨_,this,e⟩
 have hge:k<=(ksC d c d.2.2.1.length).length:=by
  have:=zv8 (zrR k) hcov
  rwa [zvS,List.length_map] at this
 have hpos:0 < (ksC d c d.2.2.1.length).length:=List.length_pos_of_mem (zog (d:=d) c d.2.2.1.length 0 (by omega))
 have eP:zdp d (k:Int) c=if ((ksC d c d.2.2.1.length).length:Int)=k then some (rfC d c) else zdp d ((ksC d c d.2.2.1.length).length:Int) (rfC d c):=by
  conv=>lhs;rw [zn5];unfold zcx
  refine G_to (by unfold mkOK;omega) ?_
  exact zpo h hc _ 0 _ rfl (by omega) (by simp;omega) (fun j j0 j1=>by omega)
 have eR:zdX d (k:Int) c=if ((ksC d c d.2.2.1.length).length:Int)=k then some (rfC d c) else zdX d ((ksC d c d.2.2.1.length).length:Int) (rfC d c):=by
  conv=>lhs;rw [zpy];unfold zcZ
  refine G_to (by unfold mkOK;omega) ?_
  exact zqY h hc _ 0 _ [] rfl (by omega) (by simp;omega) (fun j j0 j1=>by omega) rfl (fun p hp=>by cases hp)
 have b':∀ q:Int,0<=q->q < d.2.2.1.length->0<=ix (rfC d c) q/\ix (rfC d c) q < (ksC d c d.2.2.1.length).length:=fun q q0 q1=>by
  rw [zse c q0 q1];have:=zAD (d:=d) c (q:=q.toNat) (t:=d.2.2.1.length) (by omega)
  omega
 have sur':∀ v:Int,0<=v->v < (ksC d c d.2.2.1.length).length->∃ q:Int,0<=q/\q < d.2.2.1.length/\ix (rfC d c) q=v:=fun v v0 v1=>by
  obtain ⟨q,hq,e⟩:=zzp (d:=d) c (t:=d.2.2.1.length) (j:=v.toNat) (by omega)
  refine ⟨q,by omega,by omega,?_⟩
  rw [zse c (by omega) (by omega),Int.toNat_natCast,e];omega
 have m':∀ q r:Int,0<=q->q < d.2.2.1.length->0<=r->r < d.2.2.1.length->ix (rfC d c) q=ix (rfC d c) r->ix d.2.2.2.1 q=ix d.2.2.2.1 r:=fun q r q0 q1 r0 r1 e=>
  hm q r q0 q1 r0 r1 (congrArg Prod.fst ((zpQ q0 q1 r0 r1).1 e))
 have co':∀ q r:Int,0<=q->q < d.2.2.1.length->0<=r->r < d.2.2.1.length->LEq d q d r->ix (rfC d c) q=ix (rfC d c) r:=fun q r q0 q1 r0 r1 hq=>by
  refine (zpQ q0 q1 r0 r1).2 ((ztv h c q0 q1 r0 r1).2 ⟨hco q r q0 q1 r0 r1 hq,fun a a0 a1 => ?_⟩)
  have sq:=h.tab.stpb q0 q1 a0 a1;have sr:=h.tab.stpb r0 r1 a0 a1;exact hco _ _ sq.1 sq.2 sr.1 sr.2 (hq.step a0 a1)
 by_cases e:((ksC d c d.2.2.1.length).length:Int)=k
 ·rw [if_pos e] at eP eR;refine ⟨rfC d c,_,⟨zq9 c,hK,b',sur',m',fun q r q0 q1 r0 r1 he a a0 a1 => ?_,co'⟩,eP,eR⟩
  have hnd:((ksC d c d.2.2.1.length).map Prod.fst).Nodup:=zp5 (zrR k) hcov (by rw [List.length_map,zvS];omega)
  have tot:∀ x y:Int,0<=x->x < d.2.2.1.length->0<=y->y < d.2.2.1.length->ix c x=ix c y->ix (rfC d c) x=ix (rfC d c) y:=fun x y x0 x1 y0 y1 exy=>by
   rw [zpQ x0 x1 y0 y1];have hx:=zog (d:=d) c d.2.2.1.length x.toNat (by omega)
   have hy:=zog (d:=d) c d.2.2.1.length y.toNat (by omega)
   rw [Int.toNat_of_nonneg x0] at hx;rw [Int.toNat_of_nonneg y0] at hy;obtain ⟨i,hi,ei⟩:=List.mem_iff_getElem.1 hx;obtain ⟨j,hj,ej⟩:=List.mem_iff_getElem.1 hy;have key:∀ i j:Nat,(hi:i < (ksC d c d.2.2.1.length).length)->(hj:j < (ksC d c d.2.2.1.length).length)->i < j->(ksC d c d.2.2.1.length)[i].1≠(ksC d c d.2.2.1.length)[j].1:=fun i j hi hj hlt hh=>by
    have:=List.pairwise_iff_getElem.1 hnd i j (by rw [List.length_map];exact hi) (by rw [List.length_map];exact hj) hlt
    rw [List.getElem_map,List.getElem_map] at this;exact this hh
   have hfst:(ksC d c d.2.2.1.length)[i].1=(ksC d c d.2.2.1.length)[j].1:=by rw [ei,ej];exact exy
   have:i=j:=by
    rcases Nat.lt_trichotomy i j with hlt | rfl | hlt
    ·exact absurd hfst (key i j hi hj hlt)
    ·rfl
    ·exact absurd hfst.symm (key j i hj hi hlt)
   subst this;rw [<- ei,ej]
  have hsig:=(ztv h c q0 q1 r0 r1).1 ((zpQ q0 q1 r0 r1).1 he);have sq:=h.tab.stpb q0 q1 a0 a1;have sr:=h.tab.stpb r0 r1 a0 a1;unfold stp at sq sr;exact tot _ _ sq.1 sq.2 sr.1 sr.2 (hsig.2 a a0 a1)
 ·rw [if_neg e] at eP eR;rw [eP,eR];have hlt:k < (ksC d c d.2.2.1.length).length:=by omega
  exact ih (d.2.2.1.length - (ksC d c d.2.2.1.length).length) (by omega) _ (rfC d c) rfl ⟨zq9 c,fun q q0 q1=>by
   rw [zq9] at q1;have:=b' q q0 q1;omega⟩ m' sur' co'
theorem ztK (h:DOk 3000 badD d):∃ C K,FinC d C K/\zjf d=some C/\zlA d=some C:=by
 have hn:=h.n1;have hmk:=h.mkl;have hc:ClsOk d d.2.2.2.1:=⟨by omega,fun q q0 q1=>by
  have:=h.mok _ (zb9 q0 q1);omega⟩
 obtain ⟨C,K,h1,h2,h3⟩:=ztL h _ 0 d.2.2.2.1 rfl hc (fun q r _ _ _ _ e=>e) (fun v v0 v1=>by omega) (fun q r _ _ _ _ e=>e [] (fun a ha=>by cases ha))
 refine ⟨C,K,h1,?_,?_⟩
 ·unfold zjf;exact zao (zfJ (by omega)) h2
 ·unfold zlA;exact G_to (by unfold room;simp;omega) h3
end
def xRow {α:Type} (nx:α->Int->α) (s:α) (l:List α):Nat->List α×List Int
 | 0=>(l,[])
 | t+1=>match zbo (xRow nx s l t).1 (nx s (t:Int)) with
  | some j=>((xRow nx s l t).1,(xRow nx s l t).2++[(j:Int)])
  | none=>((xRow nx s l t).1++[nx s (t:Int)],(xRow nx s l t).2++[((xRow nx s l t).1.length:Int)])
def xSt {α:Type} [Inhabited α] (nx:α->Int->α) (mk:α->Int) (L:Nat) (first:α):Nat->List α×List (List Int)×List Int
 | 0=>([first],[],[])
 | i+1=>((xRow nx (ix (xSt nx mk L first i).1 (i:Int)) (xSt nx mk L first i).1 L).1,(xSt nx mk L first i).2.1++[(xRow nx (ix (xSt nx mk L first i).1 (i:Int)) (xSt nx mk L first i).1 L).2],(xSt nx mk L first i).2.2++[mk (ix (xSt nx mk L first i).1 (i:Int))])
theorem zld {α:Type} {nx:α->Int->α} {s:α} {l:List α} {t j:Nat} (h:zbo (xRow nx s l t).1 (nx s (t:Int))=some j):xRow nx s l (t+1)=((xRow nx s l t).1,(xRow nx s l t).2++[(j:Int)]):=by
 rw [xRow,h]
theorem zlc {α:Type} {nx:α->Int->α} {s:α} {l:List α} {t:Nat} (h:zbo (xRow nx s l t).1 (nx s (t:Int))=none):xRow nx s l (t+1)=((xRow nx s l t).1++[nx s (t:Int)],(xRow nx s l t).2++[((xRow nx s l t).1.length:Int)]):=by
 rw [xRow,h]
section
variable {α:Type} [Inhabited α] {nx:α->Int->α} {mk:α->Int} {L:Nat} {first:α} {B:Nat} {P:α->Prop}
structure XOk {α:Type} (nx:α->Int->α) (mk:α->Int) (L:Nat) (first:α) (B:Nat) (P:α->Prop):Prop where
 b:∀ l:List α,l.Nodup->(∀ x∈l,P x)->l.length<=B
 f:P first
 n:∀ s,P s->∀ t:Int,0<=t->t < L->P (nx s t)
 m:∀ s,P s->mk s=0\/mk s=1
theorem XOk.int {nx:Int->Int->Int} {mk:Int->Int} {L:Nat} {first:Int} {B:Nat} {P:Int->Prop} (b:∀ s,P s->0<=s/\s < B) (f:P first) (n:∀ s,P s->∀ t:Int,0<=t->t < L->P (nx s t)) (m:∀ s,P s->mk s=0\/mk s=1):XOk nx mk L first B P:=
 ⟨fun l hn hp=>zr3 hn (fun x hx=>b x (hp x hx)),f,n,m⟩
structure LiOk {α:Type} (B:Nat) (P:α->Prop) (l:List α):Prop where
 nd:l.Nodup
 p:∀ x∈l,P x
theorem LiOk.len (h:XOk nx mk L first B P) {l:List α} (k:LiOk B P l):l.length<=B:=h.b l k.nd k.p
structure XR {α:Type} [Inhabited α] (nx:α->Int->α) (s:α) (l:List α) (t:Nat) (r:List α×List Int):Prop where
 pre:∃ x,r.1=l++x
 len:r.2.length=t
 to:∀ a:Int,0<=a->a < t->0<=ix r.2 a/\ix r.2 a < r.1.length/\ix r.1 (ix r.2 a)=nx s a
theorem zzv {l:List α} {x:α} {j:Nat} (h:zbo l x=some j):(j:Int) < l.length/\ix l (j:Int)=x:=by
 have h1:=zjn h;have h2:=zgR h;refine ⟨by omega,?_⟩
 rw [List.getElem?_eq_getElem h1] at h2;rw [zhf (l:=l) (by omega) (by omega)]
 simpa using h2
theorem zoQ (h:XOk nx mk L first B P) {s:α} (hs:P s) {l:List α} (hl:LiOk B P l):∀ t:Nat,t<=L->LiOk B P (xRow nx s l t).1/\XR nx s l t (xRow nx s l t)
 | 0,_=>⟨hl,⟨[],by simp [xRow]⟩,rfl,fun a a0 a1=>by omega⟩
 | t+1,ht=>by
  obtain ⟨h1,⟨⟨x,hx⟩,h2,h3⟩⟩:=zoQ h hs hl t (by omega)
  have hp:=h.n s hs (t:Int) (by omega) (by omega)
  unfold xRow
  cases e:zbo (xRow nx s l t).1 (nx s (t:Int)) with
  | some j=>
   obtain ⟨j1,j2⟩:=zzv e;refine ⟨h1,⟨⟨x,hx⟩,by simp [h2],fun a a0 a1 => ?_⟩⟩
   show 0<=ix ((xRow nx s l t).2++[(j:Int)]) a/\_;by_cases c:a < t
   ·rw [zan a0 (by omega)];exact h3 a a0 c
   ·obtain rfl:a=((xRow nx s l t).2.length:Int):=by omega
    rw [zau];refine ⟨by omega,j1,?_⟩
    show ix (xRow nx s l t).1 (j:Int)=_;rw [j2,h2]
  | none=>
   have hn:=zbD.1 e;refine ⟨⟨?_,fun y hy=>(List.mem_append.1 hy).elim (h1.p y) (fun e2=>by rw [List.mem_singleton.1 e2];exact hp)⟩,⟨⟨x++[nx s (t:Int)],by show (xRow nx s l t).1++_=_;rw [hx,List.append_assoc]⟩,by simp [h2],fun a a0 a1 => ?_⟩⟩
   ·show ((xRow nx s l t).1++[nx s (t:Int)]).Nodup;rw [List.nodup_append];exact ⟨h1.nd,by simp,fun u hu v hv=>by rw [List.mem_singleton.1 hv];rintro rfl;exact hn hu⟩
   ·show 0<=ix ((xRow nx s l t).2++[((xRow nx s l t).1.length:Int)]) a/\ix ((xRow nx s l t).2++[((xRow nx s l t).1.length:Int)]) a < (((xRow nx s l t).1++[nx s (t:Int)]).length:Int)/\ix ((xRow nx s l t).1++[nx s (t:Int)]) (ix ((xRow nx s l t).2++[((xRow nx s l t).1.length:Int)]) a)=nx s a;rw [List.length_append,List.length_singleton];by_cases c:a < t
    ·obtain ⟨g1,g2,g3⟩:=h3 a a0 c;rw [zan a0 (by omega),zan g1 g2]
     exact ⟨g1,by omega,g3⟩
    ·obtain rfl:a=((xRow nx s l t).2.length:Int):=by omega
     rw [zau,zau,h2];exact ⟨by omega,by omega,rfl⟩
structure XS {α:Type} [Inhabited α] (nx:α->Int->α) (mk:α->Int) (L:Nat) (first:α) (i:Nat) (x:List α×List (List Int)×List Int):Prop where
 z:ix x.1 0=first
 r:x.2.1.length=i
 m:x.2.2.length=i
 row:∀ k:Int,0<=k->k < i->(ix x.2.1 k).length=L/\∀ a:Int,0<=a->a < L->0<=ix (ix x.2.1 k) a/\ix (ix x.2.1 k) a < x.1.length/\ix x.1 (ix (ix x.2.1 k) a)=nx (ix x.1 k) a
 mark:∀ k:Int,0<=k->k < i->ix x.2.2 k=mk (ix x.1 k)
def XGo {α:Type} [Inhabited α] (nx:α->Int->α) (mk:α->Int) (L:Nat) (first:α) (i:Nat):Prop:=∀ k < i,k < (xSt nx mk L first k).1.length
theorem zmn (h:XOk nx mk L first B P):∀ i:Nat,XGo nx mk L first i->LiOk B P (xSt nx mk L first i).1/\i<=(xSt nx mk L first i).1.length/\XS nx mk L first i (xSt nx mk L first i)
 | 0,_=>⟨⟨by simp [xSt],fun x hx=>by
   have:x=first:=by simpa [xSt] using hx
   rw [this];exact h.f⟩,by omega,rfl,rfl,rfl,fun k k0 k1=>by omega,fun k k0 k1=>by omega⟩
 | i+1,hg=>by
  obtain ⟨h1,h2,h3⟩:=zmn h i (fun k hk=>hg k (by omega))
  have hi:=hg i (by omega)
  have hP:=h1.p _ (zb9 (by omega) (by omega:(i:Int) < (xSt nx mk L first i).1.length))
  obtain ⟨g1,⟨⟨x,hx⟩,g2,g3⟩⟩:=zoQ h hP h1 L (Nat.le_refl _);unfold xSt;generalize hX:xSt nx mk L first i=X at *
  generalize hR:xRow nx (ix X.1 (i:Int)) X.1 L=R at *
  have pre:∀ k:Int,0<=k->k < X.1.length->ix R.1 k=ix X.1 k:=fun k k0 k1=>by rw [hx,zan k0 k1]
  have lenR:X.1.length<=R.1.length:=by rw [hx,List.length_append];omega
  refine ⟨g1,by show i+1<=R.1.length;omega,?_,by simp [h3.r],by simp [h3.m],fun k k0 k1 => ?_,fun k k0 k1 => ?_⟩
  ·show ix R.1 0=first;rw [pre 0 (by omega) (by omega)];exact h3.z
  ·show (ix (X.2.1++[R.2]) k).length=L/\∀ a:Int,0<=a->a < L->0<=ix (ix (X.2.1++[R.2]) k) a/\ix (ix (X.2.1++[R.2]) k) a < R.1.length/\ix R.1 (ix (ix (X.2.1++[R.2]) k) a)=nx (ix R.1 k) a;have hr:=h3.r;by_cases c:k < i
   ·obtain ⟨r1,r2⟩:=h3.row k k0 c;rw [zan k0 (by omega),pre k k0 (by omega)]
    refine ⟨r1,fun a a0 a1 => ?_⟩
    obtain ⟨s1,s2,s3⟩:=r2 a a0 a1;rw [pre _ s1 s2];exact ⟨s1,by omega,s3⟩
   ·have hk:k=(X.2.1.length:Int):=by omega
    rw [hk,zau,hr,pre (i:Int) (by omega) (by omega)]
    exact ⟨g2,fun a a0 a1=>g3 a a0 a1⟩
  ·show ix (X.2.2++[mk (ix X.1 (i:Int))]) k=mk (ix R.1 k);have hm:=h3.m;rw [pre k k0 (by omega)]
   by_cases c:k < i
   ·rw [zan k0 (by omega)];exact h3.mark k k0 c
   ·have hk:k=(X.2.2.length:Int):=by omega
    rw [hk,zau,hm]
theorem zuC (h:XOk nx mk L first B P):∃ n,n<=B/\XGo nx mk L first n/\(xSt nx mk L first n).1.length=n:=by
 have key:∀ f i:Nat,B - i=f->XGo nx mk L first i->∃ n,n<=B/\XGo nx mk L first n/\(xSt nx mk L first n).1.length=n:=by
  intro f
  induction f with
  | zero=>
   intro i hf hg;obtain ⟨h1,h2,_⟩:=zmn h i hg;have:=h1.len h;exact ⟨i,by omega,hg,by omega⟩
  | succ f ih=>
   intro i hf hg;obtain ⟨h1,h2,_⟩:=zmn h i hg;have:=h1.len h;by_cases c:(xSt nx mk L first i).1.length=i
   ·exact ⟨i,by omega,hg,c⟩
   ·refine ih (i+1) (by omega) (fun k hk => ?_)
    by_cases e:k=i
    ·subst e;omega
    ·exact hg k (by omega)
 exact key _ 0 rfl (fun k hk=>by omega)
def xAut {α:Type} [Inhabited α] (nx:α->Int->α) (mk:α->Int) (L:Nat) (first:α) (n:Nat):Dt:=((L:Int),0,(xSt nx mk L first n).2.1,(xSt nx mk L first n).2.2,())
theorem zy0 (h:XOk nx mk L first B P) (hL:1<=L/\L<=4) (hB:B<=3000) {n:Nat} (hg:XGo nx mk L first n) (hn:(xSt nx mk L first n).1.length=n):DOk 3000 badD (xAut nx mk L first n):=by
 obtain ⟨h1,h2,h3⟩:=zmn h n hg;have hb:=h1.len h;have hr:=h3.r;have hm:=h3.m;have hpos:0 < n:=by
  refine Nat.pos_of_ne_zero fun e => ?_
  subst e;simp [xSt] at hn
 refine ⟨by show 1<=(L:Int)/\(L:Int)<=4;omega,?_,?_,?_,fun s hs => ?_,⟨fun r hr2 => ?_,fun r hr2 q hq => ?_⟩⟩
 ·show 1<=(xSt nx mk L first n).2.1.length/\((xSt nx mk L first n).2.1.length:Int)<=3000;omega
 ·show (0:Int)<=0/\(0:Int) < ((xSt nx mk L first n).2.1.length:Int);omega
 ·show ((xSt nx mk L first n).2.2.length:Int)=((xSt nx mk L first n).2.1.length:Int);omega
 ·obtain ⟨k,k0,k1,rfl⟩:=(zoe (P:=fun x=>x=s)).1 ⟨s,hs,rfl⟩
  have hk:k < n:=by
   have:k < ((xSt nx mk L first n).2.2.length:Int):=k1;omega
  have e:ix (xAut nx mk L first n).2.2.2.1 k=mk (ix (xSt nx mk L first n).1 k):=h3.mark k k0 hk;rw [e];have:=h.m _ (h1.p _ (zb9 k0 (by omega)))
  omega
 ·obtain ⟨k,k0,k1,rfl⟩:=(zoe (P:=fun x=>x=r)).1 ⟨r,hr2,rfl⟩
  have hk:k < n:=by
   have:k < ((xSt nx mk L first n).2.1.length:Int):=k1;omega
  have:=(h3.row k k0 hk).1;show ((ix (xSt nx mk L first n).2.1 k).length:Int)=(L:Int);omega
 ·obtain ⟨k,k0,k1,rfl⟩:=(zoe (P:=fun x=>x=r)).1 ⟨r,hr2,rfl⟩
  have hk:k < n:=by
   have:k < ((xSt nx mk L first n).2.1.length:Int):=k1;omega
  obtain ⟨r1,r2⟩:=h3.row k k0 hk;obtain ⟨a,a0,a1,rfl⟩:=(zoe (P:=fun x=>x=q)).1 ⟨q,hq,rfl⟩
  have ha:a < (L:Int):=by
   have:a < ((ix (xSt nx mk L first n).2.1 k).length:Int):=a1;omega
  obtain ⟨s1,s2,s3⟩:=r2 a a0 ha;show 0<=ix (ix (xSt nx mk L first n).2.1 k) a/\ix (ix (xSt nx mk L first n).2.1 k) a < ((xSt nx mk L first n).2.1.length:Int);omega
theorem zrk (h:XOk nx mk L first B P) {n:Nat} (hg:XGo nx mk L first n) (hn:(xSt nx mk L first n).1.length=n):∀ (w:List Int) (q:Int),0<=q->q < n->(∀ a∈w,0<=a/\a < (L:Int))->
  0<=wlk (xAut nx mk L first n).2.2.1 q w/\wlk (xAut nx mk L first n).2.2.1 q w < n/\ix (xSt nx mk L first n).1 (wlk (xAut nx mk L first n).2.2.1 q w)=w.foldl nx (ix (xSt nx mk L first n).1 q)
 | [],q,q0,q1,_=>⟨q0,q1,rfl⟩
 | a::w,q,q0,q1,hw=>by
  obtain ⟨_,_,h3⟩:=zmn h n hg;have ha:=hw a (by simp)
  obtain ⟨s1,s2,s3⟩:=(h3.row q q0 q1).2 a ha.1 ha.2;have:=zrk h hg hn w (ix (ix (xSt nx mk L first n).2.1 q) a) s1 (by omega) (fun b hb=>hw b (by simp [hb]))
  rw [s3] at this;exact this
end
section
variable {d:Dt}
structure RowOk (d:Dt) (C Q:List Int) (i:Int) (row:List Int):Prop where
 len:(row.length:Int)=d.1
 to:∀ a:Int,0<=a->a < d.1->0<=ix row a/\ix row a < Q.length/\ix C (ix Q (ix row a))=ix C (ix (ix d.2.2.1 (ix Q i)) a)
structure QOk (d:Dt) (C Q:List Int):Prop where
 b:∀ q:Int,q∈Q->0<=q/\q < d.2.2.1.length
 nd:(Q.map (ix C)).Nodup
 z:0 < Q.length/\ix Q 0=d.2.1
structure PartOk (d:Dt) (C Q:List Int) (D2:List (List Int)) (D3:List Int):Prop where
 q:QOk d C Q
 l2:D2.length<=Q.length
 l3:D3.length=D2.length
 row:∀ i:Int,0<=i->i < D2.length->RowOk d C Q i (ix D2 i)
 mark:∀ i:Int,0<=i->i < D2.length->ix D3 i=ix d.2.2.2.1 (ix Q i)
theorem QOk.le {C Q:List Int} {K:Nat} (hC:FinC d C K) (h:QOk d C Q):Q.length<=K:=by
 have:=zr3 (n:=K) h.nd (fun v hv=>by
  obtain ⟨q,hq,rfl⟩:=List.mem_map.1 hv;have:=h.b q hq;exact hC.b q this.1 this.2)
 rwa [List.length_map] at this
theorem RowOk.ext {C Q:List Int} {i:Int} {row:List Int} (h:RowOk d C Q i row) (i0:0<=i) (i1:i < Q.length) (x:List Int):RowOk d C (Q++x) i row:=
 ⟨h.len,fun a a0 a1=>by
  obtain ⟨h1,h2,h3⟩:=h.to a a0 a1;rw [zan h1 h2,zan i0 i1];exact ⟨h1,by rw [List.length_append];omega,h3⟩⟩
structure OfOk (d:Dt) (C l:List Int) (K:Nat):Prop where
 len:l.length=d.2.2.1.length
 b:∀ v:Int,0<=v->v < K->0<=ix l v/\ix l v < d.2.2.1.length/\ix C (ix l v)=v
def nxC (d:Dt) (C l:List Int) (v a:Int):Int:=ix C (ix (ix d.2.2.1 (ix l v)) a)
def mkC (d:Dt) (l:List Int) (v:Int):Int:=ix d.2.2.2.1 (ix l v)
structure LeastOk (d o:Dt) (C Q:List Int) (K:Nat):Prop where
 fin:FinC d C K
 part:PartOk d C Q o.2.2.1 o.2.2.2.1
 all:o.2.2.1.length=Q.length
 let1:o.1=d.1
 st:o.2.1=0
 by1:∃ (l:List Int) (n:Nat),OfOk d C l K/\XGo (nxC d C l) (mkC d l) d.1.toNat (ix C d.2.1) n/\(xSt (nxC d C l) (mkC d l) d.1.toNat (ix C d.2.1) n).1.length=n/\o=xAut (nxC d C l) (mkC d l) d.1.toNat (ix C d.2.1) n
def zxg (d:Dt) (C Q NA:List Int):Prop:=NA.length=d.2.2.1.length/\∀ v:Int,0<=v->v < d.2.2.1.length->ix NA v=match zbo (Q.map (ix C)) v with
 | some j=>(j:Int)
 | none => -1
theorem znU {row:List Int} {t:Nat} {v:Int} (h:t < row.length):(row.set t v).take (t+1)=row.take t++[v]:=by
 rw [List.take_add_one,List.take_set_of_le (Nat.le_refl _),List.getElem?_set_self h];rfl
theorem zs7 (h:DOk 3000 badD d) {C l Q0:List Int} {K:Nat} (hC:FinC d C K) (hl:OfOk d C l K) {L0:List Int} {D2:List (List Int)} {D3:List Int} {r4 r11} {lk:List Int} {i:Int} (hi:i=D2.length) (eL:ix L0 i=ix C (ix Q0 i)):
  ∀ (f:Nat) (t:Int) (Q NA row:List Int),(d.1 - t).toNat=f->0<=t->t<=d.1->PartOk d C Q D2 D3->i < Q.length->ix Q i=ix Q0 i->zxg d C Q NA->(row.length:Int)=d.1->
   (∀ a:Int,0<=a->a < t->0<=ix row a/\ix row a < Q.length/\ix C (ix Q (ix row a))=ix C (ix (ix d.2.2.1 (ix Q i)) a))->xRow (nxC d C l) (ix C (ix Q0 i)) lk t.toNat=(Q.map (ix C),row.take t.toNat)->
  ∃ x NA' row',xRow (nxC d C l) (ix C (ix Q0 i)) lk d.1.toNat=((Q++x).map (ix C),row')/\PartOk d C (Q++x) (D2++[row']) (D3++[ix d.2.2.2.1 (ix Q i)])/\zxg d C (Q++x) NA'/\
   zbb d.1 C d l d l ((C.length:Int)+1) d.1 0 L0 D2 D3 r4 t (Q.map (ix C)) (iota (Q.map (ix C)).length) (Q.map (ix C)) row=r4 d.1 0 ((Q++x).map (ix C)) (iota ((Q++x).map (ix C)).length) ((Q++x).map (ix C)) (D2++[row']) (D3++[ix d.2.2.2.1 (ix Q i)])/\
   zcm d C i d.1 0 D2 D3 r11 t NA Q row=r11 (i+1) NA' (Q++x) d.1 0 (D2++[row']) (D3++[ix d.2.2.2.1 (ix Q i)]):=by
 have hn:=h.n1;have hlt:=h.let1;have hmk:=h.mkl;have hcl:=hC.len;have hK:=hC.le;intro f
 induction f with
 | zero=>
  intro t Q NA row hf t0 t1 hP hiQ eQ hN hrl hrow hxr;obtain rfl:t=d.1:=by omega
  have hQK:=hP.q.le hC;have hq:=hP.q.b _ (zb9 (by omega) hiQ)
  have hv:=hC.b _ hq.1 hq.2;obtain ⟨o1,o2,o3⟩:=hl.b _ hv.1 hv.2;have hl3:=hP.l3;have hll:=hl.len;have hmark:ix d.2.2.2.1 (ix l (ix C (ix Q i)))=ix d.2.2.2.1 (ix Q i):=hC.mark _ _ o1 o2 hq.1 hq.2 o3;refine ⟨[],NA,row,by rw [hxr,List.append_nil,List.take_of_length_le (by omega)],⟨by simpa using hP.q,by rw [List.length_append,List.length_append,List.length_singleton];omega,by rw [List.length_append,List.length_append,List.length_singleton,List.length_singleton];omega,fun j j0 j1 => ?_,fun j j0 j1 => ?_⟩,by simpa using hN,?_,?_⟩
  ·rw [List.length_append,List.length_singleton] at j1;rw [List.append_nil];by_cases e:j < D2.length
   ·rw [zan j0 e];exact hP.row j j0 e
   ·obtain rfl:j=D2.length:=by omega
    rw [zau,<- hi];exact ⟨hrl,hrow⟩
  ·rw [List.length_append,List.length_singleton] at j1;rw [List.append_nil];by_cases e:j < D2.length
   ·rw [zan j0 (by omega)];exact hP.mark j j0 e
   ·have e1:j=D3.length:=by omega
    have e2:j=i:=by omega
    rw [e1,zau,<- e1,e2]
  ·rw [zgL];unfold zby zhY;rw [if_neg (by simp),<- hi,eL,<- eQ,List.append_nil]
   refine G_to (by unfold room;simp;have:=hP.l2;omega) ?_
   refine zao (y:=ix d.2.2.2.1 (ix Q i)) ?_ ?_
   ·rw [<- hmark];exact G_to (by omega) (G_to (by omega) rfl)
   ·exact G_to (by unfold room;simp;have:=hP.l2;omega) rfl
  ·rw [zkW];unfold zcS;rw [if_neg (by simp),List.append_nil]
   exact G_to (by unfold room;simp;have:=hP.l2;omega) (G_to (by omega) (G_to (by omega) (G_to (by omega) (G_to (by unfold room;simp;have:=hP.l2;omega) (G_to (by unfold fits;omega) rfl)))))
 | succ f ih=>
  intro t Q NA row hf t0 t1 hP hiQ eQ hN hrl hrow hxr;have hQK:=hP.q.le hC;have hq:=hP.q.b _ (zb9 (by omega) hiQ)
  have hv:=hC.b _ hq.1 hq.2;obtain ⟨o1,o2,o3⟩:=hl.b _ hv.1 hv.2;have hll:=hl.len;have hr1:=h.tab.rowlen hq.1 hq.2;have hr2:=h.tab.rowlen o1 o2;have hx:=h.tab.stpb hq.1 hq.2 t0 (by omega)
  have hy:=h.tab.stpb o1 o2 t0 (by omega)
  unfold stp at hx hy;have hst:=hC.stable _ _ o1 o2 hq.1 hq.2 o3 t t0 (by omega)
  have hw:=hC.b _ hx.1 hx.2;have hNx:=hN.2 _ hw.1 (by omega:_ < (d.2.2.1.length:Int))
  have hNl:=hN.1;obtain ⟨x,hxd⟩:∃ x,x=ix (ix d.2.2.1 (ix Q i)) t:=⟨_,rfl⟩;rw [<- hxd] at hx hst hw hNx;have hnx:nxC d C l (ix C (ix Q0 i)) (t.toNat:Int)=ix C x:=by
   unfold nxC;rw [<- eQ,Int.toNat_of_nonneg t0];exact hst
  have s1:zfQ (ix L0 (D2.length:Int)) t C d l=some (ix C x):=by
   unfold zfQ;rw [<- hi,eL,<- eQ,<- hst];exact G_to (by omega) (G_to (by omega) (G_to (by omega) (G_to (by omega) rfl)))
  have hP1:zbb d.1 C d l d l ((C.length:Int)+1) d.1 0 L0 D2 D3 r4 t (Q.map (ix C)) (iota (Q.map (ix C)).length) (Q.map (ix C)) row=
    if ix C x∈Q.map (ix C) then zbb d.1 C d l d l ((C.length:Int)+1) d.1 0 L0 D2 D3 r4 (t+1) (Q.map (ix C)) (iota (Q.map (ix C)).length) (Q.map (ix C)) (row.set t.toNat (mget (Q.map (ix C)) (iota (Q.map (ix C)).length) (ix C x) 0))
    else zbb d.1 C d l d l ((C.length:Int)+1) d.1 0 L0 D2 D3 r4 (t+1) ((Q++[x]).map (ix C)) (iota ((Q++[x]).map (ix C)).length) ((Q++[x]).map (ix C)) (row.set t.toNat (Q.length:Int)):=by
   conv=>lhs;rw [zgL];unfold zby
   rw [if_pos (by simp;omega)]
   refine zao s1 ?_
   unfold zcn;by_cases c:ix C x∈Q.map (ix C)
   ·rw [if_neg (by rw [zpM.2 c];simp),if_pos c]
    exact G_to (by omega) (G_to (by omega) (G_to (by unfold fits;omega) rfl))
   ·have hh:mhas (Q.map (ix C)) (ix C x)=false:=by
     cases e:mhas (Q.map (ix C)) (ix C x) with
     | false=>rfl
     | true=>exact absurd (zpM.1 e) c
    rw [if_pos (by rw [hh];rfl),if_neg c,if_neg (by rw [decide_eq_true_iff,List.length_map];omega),zqD c,zoj c,List.map_append,List.map_singleton,List.length_map]
    exact G_to (by unfold room;simp;omega) (G_to (by omega) (G_to (by omega) (G_to (by unfold fits;omega) rfl)))
  have hR1:zcm d C i d.1 0 D2 D3 r11 t NA Q row=
    if ix NA (ix C x) < 0 then zcm d C i d.1 0 D2 D3 r11 (t+1) (NA.set (ix C x).toNat (Q.length:Int)) (Q++[x]) (row.set t.toNat (Q.length:Int))
    else zcm d C i d.1 0 D2 D3 r11 (t+1) NA Q (row.set t.toNat (ix NA (ix C x))):=by
   conv=>lhs;rw [zkW];unfold zcS
   rw [if_pos (by simp;omega),<- hxd]
   refine G_to (by omega) (G_to (by omega) (G_to (by omega) (G_to (by omega) (G_to (by omega) (G_to (by omega) (G_to (by omega) (G_to (by omega) ?_)))))))
   unfold zeE;by_cases c:ix NA (ix C x) < 0
   ·rw [if_pos (decide_eq_true c),if_pos c];refine G_to (by omega) (G_to (by omega) (G_to (by omega) (G_to (by omega) (G_to (by unfold room;simp;omega) ?_))))
    rw [<- hxd,zaI hw.1 (by omega)]
    exact G_to (by omega) (G_to (by omega) (G_to (by rw [List.length_set];omega) (G_to (by rw [List.length_set];omega) (G_to (by omega) (G_to (by omega) (G_to (by unfold fits;omega) rfl))))))
   ·rw [if_neg (by simpa using c),if_neg c,<- hxd]
    exact G_to (by omega) (G_to (by omega) (G_to (by omega) (G_to (by omega) (G_to (by omega) (G_to (by omega) (G_to (by unfold fits;omega) rfl))))))
  rw [hP1,hR1];have rowstep:∀ (Q':List Int) (v:Int),(∀ j:Int,0<=j->j < Q.length->ix Q' j=ix Q j)->Q.length<=Q'.length->0<=v->v < Q'.length->ix C (ix Q' v)=ix C x->
    ∀ a:Int,0<=a->a < t+1->0<=ix (row.set t.toNat v) a/\ix (row.set t.toNat v) a < Q'.length/\ix C (ix Q' (ix (row.set t.toNat v) a))=ix C (ix (ix d.2.2.1 (ix Q' i)) a):=fun Q' v hQ' hle v0 v1 hv' a a0 a1=>by
   by_cases e:a=t
   ·subst e;rw [zaI a0 (by omega),hQ' i (by omega) hiQ,<- hxd];exact ⟨v0,v1,hv'⟩
   ·obtain ⟨h1,h2,h3⟩:=hrow a a0 (by omega)
    rw [za9 t0 a0 (Ne.symm e),hQ' _ h1 h2,hQ' i (by omega) hiQ]
    exact ⟨h1,by omega,h3⟩
  by_cases c:ix C x∈Q.map (ix C)
  ·obtain ⟨j,hj⟩:=zuf c;have hjl:=zjn hj;rw [List.length_map] at hjl;have hjx:ix C (ix Q j)=ix C x:=by
    have:=zgR hj;rw [List.getElem?_map,List.getElem?_eq_getElem hjl,Option.map_some] at this;have e2:ix Q (j:Int)=Q[j]:=by rw [zhf (l:=Q) (by omega) (by omega)];simp
    rw [e2];exact Option.some.inj this
   rw [hj] at hNx;have hNx:ix NA (ix C x)=(j:Int):=hNx;rw [if_pos c,if_neg (by omega),zqB hj,hNx]
   refine ih (t+1) Q NA _ (by omega) (by omega) (by omega) hP hiQ eQ hN (by rw [List.length_set];exact hrl) (rowstep Q j (fun _ _ _=>rfl) (Nat.le_refl _) (by omega) (by omega) hjx) ?_
   rw [show (t+1).toNat=t.toNat+1 by omega,zld (j:=j) (by rw [hxr,hnx];exact hj),hxr,znU (by omega)]
  ·rw [zbD.2 c] at hNx;have hNx:ix NA (ix C x) = -1:=hNx;rw [if_neg c,if_pos (by omega)]
   have hQ':∀ j:Int,0<=j->j < Q.length->ix (Q++[x]) j=ix Q j:=fun j j0 j1=>zan j0 j1
   have hP':PartOk d C (Q++[x]) D2 D3:=by
    refine ⟨⟨fun q hq=>(List.mem_append.1 hq).elim (hP.q.b q) (fun e=>by rw [List.mem_singleton.1 e];exact hx),?_,?_⟩,by rw [List.length_append];have:=hP.l2;omega,hP.l3,fun j j0 j1 => ?_,fun j j0 j1 => ?_⟩
    ·rw [List.map_append,List.nodup_append];exact ⟨hP.q.nd,by simp,fun u hu w hw=>by rw [List.map_singleton,List.mem_singleton] at hw;rw [hw];rintro rfl;exact c hu⟩
    ·have:=hP.q.z;exact ⟨by simp,by rw [hQ' 0 (by omega) (by omega)];exact this.2⟩
    ·exact (hP.row j j0 j1).ext j0 (by have:=hP.l2;omega) _
    ·rw [hQ' j j0 (by have:=hP.l2;omega)];exact hP.mark j j0 j1
   have hN':zxg d C (Q++[x]) (NA.set (ix C x).toNat (Q.length:Int)):=by
    refine ⟨by rw [List.length_set];exact hN.1,fun v v0 v1 => ?_⟩
    rw [List.map_append,List.map_singleton];by_cases e:v=ix C x
    ·subst e;rw [zaI v0 (by omega),znf c]
     simp
    ·rw [za9 hw.1 v0 (Ne.symm e),hN.2 v v0 v1]
     cases hm:zbo (Q.map (ix C)) v with
     | some j=>rw [zne _ hm]
     | none=>
      rw [zbD.2 (fun hh=>by
       rcases List.mem_append.1 hh with hh | hh
       ·exact zbD.1 hm hh
       ·exact e (List.mem_singleton.1 hh))]
   obtain ⟨y,NA',row',z0,z1,z2,z3,z4⟩:=ih (t+1) (Q++[x]) _ (row.set t.toNat (Q.length:Int)) (by omega) (by omega) (by omega) hP' (by rw [List.length_append];omega) (by rw [hQ' i (by omega) hiQ];exact eQ) hN' (by rw [List.length_set];exact hrl)
    (rowstep (Q++[x]) (Q.length:Int) hQ' (by rw [List.length_append];omega) (by omega) (by rw [List.length_append,List.length_singleton];omega) (by rw [zau])) (by rw [show (t+1).toNat=t.toNat+1 by omega,zlc (by rw [hxr,hnx];exact zbD.2 c),hxr,hnx,znU (by omega),List.length_map,List.map_append,List.map_singleton])
   rw [hQ' i (by omega) hiQ] at z1 z3 z4
   rw [List.append_assoc] at z0 z1 z2 z3 z4;exact ⟨_,NA',row',z0,z1,z2,z3,z4⟩
theorem zwI (h:DOk 3000 badD d) {C l:List Int} {K:Nat} (hC:FinC d C K) (hl:OfOk d C l K):∀ (f:Nat) (Q NA:List Int) (D2:List (List Int)) (D3:List Int),3000 - D2.length=f->PartOk d C Q D2 D3->zxg d C Q NA->XGo (nxC d C l) (mkC d l) d.1.toNat (ix C d.2.1) D2.length->xSt (nxC d C l) (mkC d l) d.1.toNat (ix C d.2.1) D2.length=(Q.map (ix C),D2,D3)->
  ∃ o Q',LeastOk d o C Q' K/\zdh d.1 C d l d l ((C.length:Int)+1) d.1 0 (Q.map (ix C)) (iota (Q.map (ix C)).length) (Q.map (ix C)) D2 D3=some (o,true)/\zf1 d C (D2.length:Int) NA Q d.1 0 D2 D3=some o:=by
 have hn:=h.n1;have hlt:=h.let1;intro f
 induction f using Nat.strongRecOn with
 | ind f ih=>
 intro Q NA D2 D3 hf hP hN hgo hxs;have hQK:=hP.q.le hC;have hK:=hC.le;rw [zmu,zq1];unfold zbW zdv;by_cases e:D2.length < Q.length
 ·have e1:ix (Q.map (ix C)) (D2.length:Int)=ix C (ix Q (D2.length:Int)):=zyi _ (by omega) (by omega)
  obtain ⟨x,NA',row',z0,z1,z2,z3,z4⟩:=zs7 (lk:=Q.map (ix C)) (r4:=zdh d.1 C d l d l ((C.length:Int)+1)) (r11:=zf1 d C) h hC hl (L0:=Q.map (ix C)) (Q0:=Q) (D2:=D2) (D3:=D3) rfl e1 _ 0 Q NA (List.replicate d.1.toNat 0) rfl (by omega) (by omega) hP (by omega) rfl hN (by rw [List.length_replicate];omega) (fun a a0 a1=>by omega) (by simp [xRow])
  have hq:=hP.q.b _ (zb9 (by omega) (by omega:(D2.length:Int) < Q.length))
  have hv:=hC.b _ hq.1 hq.2;obtain ⟨o1,o2,o3⟩:=hl.b _ hv.1 hv.2;have hmark:mkC d l (ix C (ix Q (D2.length:Int)))=ix d.2.2.2.1 (ix Q (D2.length:Int)):=hC.mark _ _ o1 o2 hq.1 hq.2 o3;have hgo':XGo (nxC d C l) (mkC d l) d.1.toNat (ix C d.2.1) (D2++[row']).length:=fun k hk=>by
   rw [List.length_append,List.length_singleton] at hk;by_cases c:k < D2.length
   ·exact hgo k c
   ·obtain rfl:k=D2.length:=by omega
    rw [hxs,List.length_map];exact e
  have hxs':xSt (nxC d C l) (mkC d l) d.1.toNat (ix C d.2.1) (D2++[row']).length=((Q++x).map (ix C),D2++[row'],D3++[ix d.2.2.2.1 (ix Q (D2.length:Int))]):=by
   rw [List.length_append,List.length_singleton,xSt,hxs];show ((xRow _ (ix (Q.map (ix C)) (D2.length:Int)) (Q.map (ix C)) d.1.toNat).1,D2++[(xRow _ (ix (Q.map (ix C)) (D2.length:Int)) (Q.map (ix C)) d.1.toNat).2],D3++[mkC d l (ix (Q.map (ix C)) (D2.length:Int))])=_;rw [e1,z0,hmark]
  obtain ⟨o,Q',w1,w2,w3⟩:=ih (3000 - (D2++[row']).length) (by rw [List.length_append,List.length_singleton];have:=z1.q.le hC;have:=z1.l2;rw [List.length_append,List.length_singleton] at this;omega) (Q++x) NA' (D2++[row']) _ rfl z1 z2 hgo' hxs'
  refine ⟨o,Q',w1,?_,?_⟩
  ·rw [if_pos (by simp;omega)]
   exact G_to (by rw [List.length_map];omega) (G_to (by rw [List.length_map];omega) (G_to (by unfold mkOK;omega) (z3.trans w2)))
  ·rw [if_pos (by simp;omega)]
   refine G_to (by unfold mkOK;omega) (z4.trans ?_)
   rw [List.length_append,List.length_singleton] at w3;exact w3
 ·refine ⟨(d.1,0,D2,D3,()),Q,⟨hC,hP,by have:=hP.l2;show D2.length=Q.length;omega,rfl,rfl,l,D2.length,hl,hgo,by rw [hxs,List.length_map];have:=hP.l2;omega,by unfold xAut;rw [hxs,Int.toNat_of_nonneg (by omega)]⟩,?_,?_⟩
  ·rw [if_neg (by rw [decide_eq_true_iff,List.length_map];omega)]
  ·rw [if_neg (by simp;omega)]
theorem zuH (h:DOk 3000 badD d) {C:List Int} {K:Nat} (hC:FinC d C K):∃ l,OfOk d C l K/\zcq d C 0 (List.replicate C.length 0)=zcq d C (C.length:Int) l:=by
 have hn:=h.n1;have hcl:=hC.len;have hK:=hC.le;have key:∀ (f:Nat) (t:Int) (l:List Int),(C.length - t).toNat=f->0<=t->t<=C.length->l.length=C.length->(∀ v:Int,0<=v->v < K->(∃ q:Int,0<=q/\q < t/\ix C q=v)->0<=ix l v/\ix l v < d.2.2.1.length/\ix C (ix l v)=v)->
   ∃ l',OfOk d C l' K/\zcq d C t l=zcq d C (C.length:Int) l':=by
  intro f
  induction f with
  | zero=>
   intro t l hf t0 t1 hll hv;obtain rfl:t=C.length:=by omega
   exact ⟨l,⟨by omega,fun v v0 v1=>by
    obtain ⟨q,q0,q1,e⟩:=hC.sur v v0 v1;exact hv v v0 v1 ⟨q,q0,by omega,e⟩⟩,rfl⟩
  | succ f ih=>
   intro t l hf t0 t1 hll hv;have hb:=hC.b t t0 (by omega)
   obtain ⟨l',h1,h2⟩:=ih (t+1) (l.set (ix C t).toNat t) (by omega) (by omega) (by omega) (by rw [List.length_set];exact hll) (fun v v0 v1 ⟨q,q0,q1,e⟩=>by
    by_cases e2:v=ix C t
    ·subst e2;rw [zaI v0 (by omega)];exact ⟨t0,by omega,rfl⟩
    ·rw [za9 hb.1 v0 (Ne.symm e2)];refine hv v v0 v1 ⟨q,q0,?_,e⟩
     by_cases e3:q=t
     ·subst e3;exact absurd e.symm e2
     ·omega)
   refine ⟨l',h1,?_⟩
   rw [<- h2]
   conv=>lhs;rw [zhB];unfold zbK
   rw [if_pos (by simp;omega)]
   exact G_to (by omega) (G_to (by omega) (G_to (by omega) (G_to (by omega) (G_to (by unfold fits;omega) rfl))))
 exact key _ 0 _ rfl (by omega) (by omega) (by rw [List.length_replicate]) (fun v v0 v1 ⟨q,q0,q1,_⟩=>by omega)
theorem zxf (h:DOk 3000 badD d) {C:List Int} {K:Nat} (hC:FinC d C K):zet d C 0 (List.replicate C.length 0)=zet d C (C.length:Int) (List.replicate C.length (-1)):=by
 have hn:=h.n1;have hcl:=hC.len;have key:∀ (f:Nat) (t:Int) (l:List Int),(C.length - t).toNat=f->0<=t->t<=C.length->l.length=C.length->(∀ v:Int,0<=v->v < t->ix l v = -1)->zet d C t l=zet d C (C.length:Int) (List.replicate C.length (-1)):=by
  intro f
  induction f with
  | zero=>
   intro t l hf t0 t1 hll hv;obtain rfl:t=C.length:=by omega
   rw [show l=List.replicate C.length (-1) from zqs (by rw [List.length_replicate];exact hll) fun j j0 j1=>by rw [zcy j0 (by omega),hv j j0 (by omega)]]
  | succ f ih=>
   intro t l hf t0 t1 hll hv;rw [<- ih (t+1) (l.set t.toNat (-1)) (by omega) (by omega) (by omega) (by rw [List.length_set];exact hll) (fun v v0 v1=>by
    by_cases e2:v=t
    ·subst e2;rw [zaI v0 (by omega)]
    ·rw [za9 t0 v0 (Ne.symm e2)];exact hv v v0 (by omega))]
   conv=>lhs;rw [zmh];unfold zdd
   rw [if_pos (by simp;omega)]
   exact G_to (by omega) (G_to (by omega) (G_to (by unfold fits;omega) rfl))
 exact key _ 0 _ rfl (by omega) (by omega) (by rw [List.length_replicate]) (fun v v0 v1=>by omega)
theorem zrU (h:DOk 3000 badD d):∃ o C Q K,LeastOk d o C Q K/\zfV d=some o/\zlB d=some o:=by
 have hn:=h.n1;obtain ⟨C,K,hC,c1,c2⟩:=ztK h;obtain ⟨l,hl,l1⟩:=zuH h hC;have hs:=h.st;have hcl:=hC.len;have hb:=hC.b _ hs.1 hs.2;have hK:=hC.le;have hP:PartOk d C [d.2.1] [] []:=⟨⟨fun q hq=>by rw [List.mem_singleton.1 hq];exact hs,by simp,by simp,rfl⟩,by simp,rfl,fun i i0 i1=>by simp at i1;omega,fun i i0 i1=>by simp at i1;omega⟩
 have hN:zxg d C [d.2.1] ((List.replicate C.length (-1:Int)).set (ix C d.2.1).toNat 0):=by
  refine ⟨by rw [List.length_set,List.length_replicate];exact hcl,fun v v0 v1 => ?_⟩
  rw [List.map_singleton];by_cases e:v=ix C d.2.1
  ·subst e;rw [zaI v0 (by rw [List.length_replicate];omega),zjm];rfl
  ·rw [za9 hb.1 v0 (Ne.symm e),zcy v0 (by omega),zbD.2 (by simpa using e)]
 obtain ⟨o,Q,w1,w2,w3⟩:=zwI h hC hl _ [d.2.1] _ [] [] rfl hP hN (fun k hk=>by simp at hk) rfl
 have ed:(d.1,d.2.1,d.2.2.1,d.2.2.2.1,())=d:=rfl;refine ⟨o,C,Q,K,w1,?_,?_⟩
 ·unfold zfV;rw [ed];refine zao c1 ?_
  refine G_to (by unfold mkOK;omega) ?_
  rw [Int.toNat_natCast,l1,zhB];unfold zbK;rw [if_neg (by simp)]
  refine G_to (by omega) (G_to (by omega) (G_to (by unfold fits;omega) ?_))
  have hE:zgv d.1 (ix C d.2.1) C d l d l ((C.length:Int)+1)=some (o,true):=w2;refine zgh ?_ ?_
  ·rw [ed];exact zao hE rfl
  ·rw [ed];exact zao hE rfl
 ·unfold zlB;rw [ed];refine zao c2 ?_
  refine G_to (by unfold mkOK;omega) ?_
  rw [Int.toNat_natCast,zxf h hC,zmh];unfold zdd;rw [if_neg (by simp)]
  exact G_to (by omega) (G_to (by omega) (G_to (by rw [List.length_replicate];omega) (G_to (by rw [List.length_replicate];omega) w3)))
end
theorem zrV {d o:Dt} {C Q:List Int} {K:Nat} (hd:DOk 3000 badD d) (h:LeastOk d o C Q K):∀ (w:List Int) (i q:Int),0<=i->i < Q.length->0<=q->q < d.2.2.1.length->ix C (ix Q i)=ix C q->(∀ a∈w,0<=a/\a < d.1)->
  0<=wlk o.2.2.1 i w/\wlk o.2.2.1 i w < Q.length/\ix C (ix Q (wlk o.2.2.1 i w))=ix C (wlk d.2.2.1 q w)
 | [],i,q,i0,i1,_,_,e,_=>⟨i0,i1,e⟩
 | a::w,i,q,i0,i1,q0,q1,e,hw=>by
  have ha:=hw a (by simp)
  have hr:=h.part.row i i0 (by rw [h.all];exact i1)
  obtain ⟨t1,t2,t3⟩:=hr.to a ha.1 ha.2;have hq:=h.part.q.b _ (zb9 i0 i1);have hs:=hd.tab.stpb q0 q1 ha.1 ha.2;have hst:=h.fin.stable _ _ hq.1 hq.2 q0 q1 e a ha.1 ha.2;exact zrV hd h w (ix (ix o.2.2.1 i) a) (stp d.2.2.1 q a) t1 t2 hs.1 hs.2 (t3.trans hst) (fun b hb=>hw b (by simp [hb]))
theorem zwJ {d o:Dt} {C Q:List Int} {K:Nat} (hd:DOk 3000 badD d) (h:LeastOk d o C Q K) {w:List Int} (hw:∀ a∈w,0<=a/\a < d.1):0<=wlk o.2.2.1 o.2.1 w/\wlk o.2.2.1 o.2.1 w < o.2.2.1.length/\ix o.2.2.2.1 (wlk o.2.2.1 o.2.1 w)=ix d.2.2.2.1 (wlk d.2.2.1 d.2.1 w):=by
 have hz:=h.part.q.z;have hst:=hd.st;obtain ⟨h1,h2,h3⟩:=zrV hd h w 0 d.2.1 (by omega) (by omega) hst.1 hst.2 (by rw [hz.2]) hw
 rw [h.st];refine ⟨h1,by rw [h.all];exact h2,?_⟩
 rw [h.part.mark _ h1 (by rw [h.all];exact h2)]
 have hq:=h.part.q.b _ (zb9 h1 h2);have hw2:=hd.tab.wlkb hst.1 hst.2 hw;exact h.fin.mark _ _ hq.1 hq.2 hw2.1 hw2.2 h3
theorem LeastOk.tab' {d o:Dt} {C Q:List Int} {K:Nat} (h:LeastOk d o C Q K):Tab o.1 o.2.2.1:=by
 refine ⟨fun r hr => ?_,fun r hr q hq => ?_⟩
 ·obtain ⟨j,j0,j1,rfl⟩:=(zoe (P:=fun x=>x=r)).1 ⟨r,hr,rfl⟩
  rw [h.let1];exact (h.part.row j j0 j1).len
 ·obtain ⟨j,j0,j1,rfl⟩:=(zoe (P:=fun x=>x=r)).1 ⟨r,hr,rfl⟩
  have hr:=h.part.row j j0 j1;obtain ⟨k,k0,k1,rfl⟩:=(zoe (P:=fun x=>x=q)).1 ⟨q,hq,rfl⟩
  have:=hr.to k k0 (by rw [<- hr.len];exact k1)
  rw [h.all];exact ⟨this.1,this.2.1⟩
theorem zwm {nx nx':Int->Int->Int} {f:Int->Int} {P:Int->Prop} {L:Nat} (hinj:∀ x y,P x->P y->f x=f y->x=y) (hn:∀ s,P s->∀ t:Int,0<=t->t < L->P (nx s t)/\f (nx s t)=nx' (f s) t) {s:Int} (hs:P s) {l:List Int} (hl:∀ x∈l,P x):∀ t:Nat,t<=L->
  (∀ x∈(xRow nx s l t).1,P x)/\xRow nx' (f s) (l.map f) t=((xRow nx s l t).1.map f,(xRow nx s l t).2)
 | 0,_=>⟨hl,rfl⟩
 | t+1,ht=>by
  obtain ⟨h1,h2⟩:=zwm hinj hn hs hl t (by omega)
  obtain ⟨p1,p2⟩:=hn s hs t (by omega) (by omega)
  have e:zbo ((xRow nx s l t).1.map f) (nx' (f s) t)=zbo (xRow nx s l t).1 (nx s t):=by
   rw [<- p2];exact zqA f (fun y hy he=>hinj _ _ (h1 y hy) p1 he)
  cases c:zbo (xRow nx s l t).1 (nx s t) with
  | some j=>
   rw [zld c,zld (j:=j) (by rw [h2,e,c]),h2]
   exact ⟨h1,rfl⟩
  | none=>
   rw [zlc c,zlc (by rw [h2,e,c]),h2]
   refine ⟨fun x hx=>(List.mem_append.1 hx).elim (h1 x) (fun hh=>by rw [List.mem_singleton.1 hh];exact p1),?_⟩
   rw [<- p2];simp
theorem zy1 {nx nx':Int->Int->Int} {mk mk':Int->Int} {f:Int->Int} {P:Int->Prop} {L:Nat} {first:Int} (hf:P first) (hinj:∀ x y,P x->P y->f x=f y->x=y) (hn:∀ s,P s->∀ t:Int,0<=t->t < L->P (nx s t)/\f (nx s t)=nx' (f s) t) (hm:∀ s,P s->mk' (f s)=mk s):∀ i:Nat,XGo nx mk L first i->
  (∀ x∈(xSt nx mk L first i).1,P x)/\xSt nx' mk' L (f first) i=((xSt nx mk L first i).1.map f,(xSt nx mk L first i).2.1,(xSt nx mk L first i).2.2)
 | 0,_=>⟨fun x hx=>by
   have:x=first:=by simpa [xSt] using hx
   rw [this];exact hf,rfl⟩
 | i+1,hg=>by
  obtain ⟨h1,h2⟩:=zy1 hf hinj hn hm i (fun k hk=>hg k (by omega))
  have hi:=hg i (by omega)
  have hP:=h1 _ (zb9 (i:=(i:Int)) (by omega) (by omega))
  have e:ix ((xSt nx mk L first i).1.map f) (i:Int)=f (ix (xSt nx mk L first i).1 (i:Int)):=zyi _ (by omega) (by omega)
  obtain ⟨g1,g2⟩:=zwm hinj hn hP h1 L (Nat.le_refl _);refine ⟨g1,?_⟩
  rw [xSt,h2];show ((xRow nx' (ix ((xSt nx mk L first i).1.map f) (i:Int)) ((xSt nx mk L first i).1.map f) L).1,(xSt nx mk L first i).2.1++[(xRow nx' (ix ((xSt nx mk L first i).1.map f) (i:Int)) ((xSt nx mk L first i).1.map f) L).2],(xSt nx mk L first i).2.2++[mk' (ix ((xSt nx mk L first i).1.map f) (i:Int))])=_;rw [e,g2,hm _ hP];rfl
theorem LEq.symm {d e:Dt} {q r:Int} (hL:d.1=e.1) (h:LEq d q e r):LEq e r d q:=fun w hw=>(h w (fun a ha=>by rw [hL];exact hw a ha)).symm
theorem LEq.trans {d e f:Dt} {q r s:Int} (hL:d.1=e.1) (h:LEq d q e r) (k:LEq e r f s):LEq d q f s:=fun w hw=>(h w hw).trans (k w (fun a ha=>by rw [<- hL];exact hw a ha))
theorem zxu {d:Dt} (hd:DOk 3000 badD d) {C:List Int} {K:Nat} (hC:FinC d C K) {q r:Int} (q0:0<=q) (q1:q < d.2.2.1.length) (r0:0<=r) (r1:r < d.2.2.1.length) (h:ix C q=ix C r):LEq d q d r:=by
 intro w
 induction w generalizing q r with
 | nil=>intro _;exact hC.mark _ _ q0 q1 r0 r1 h
 | cons a w ih=>
  intro hw;have ha:=hw a (by simp)
  have sq:=hd.tab.stpb q0 q1 ha.1 ha.2;have sr:=hd.tab.stpb r0 r1 ha.1 ha.2;exact ih sq.1 sq.2 sr.1 sr.2 (hC.stable _ _ q0 q1 r0 r1 h a ha.1 ha.2) (fun b hb=>hw b (by simp [hb]))
theorem zyl {d e o p:Dt} {C Q C' Q':List Int} {K K':Nat} (hd:DOk 3000 badD d) (he:DOk 3000 badD e) (h:LeastOk d o C Q K) (k:LeastOk e p C' Q' K') (hL:d.1=e.1) (hq:LEq d d.2.1 e e.2.1):o=p:=by
 obtain ⟨l,n,hl,go,gn,rfl⟩:=h.by1;obtain ⟨l',n',hl',go',gn',rfl⟩:=k.by1;have hC:=h.fin;have hC':=k.fin;have hds:=hd.st;have hes:=he.st
 let P:Int->Prop:=fun v=>0<=v/\v < K/\∃ v':Int,0<=v'/\v' < K'/\LEq d (ix l v) e (ix l' v')
 let f:Int->Int:=fun v=>Classical.epsilon fun v':Int=>0<=v'/\v' < K'/\LEq d (ix l v) e (ix l' v')
 have fs:∀ v,P v->0<=f v/\f v < K'/\LEq d (ix l v) e (ix l' (f v)):=fun v hv=>Classical.epsilon_spec hv.2.2
 have cl:∀ x y:Int,0<=x->x < K->0<=y->y < K->LEq d (ix l x) d (ix l y)->x=y:=fun x y x0 x1 y0 y1 hxy=>by
  obtain ⟨a1,a2,a3⟩:=hl.b x x0 x1;obtain ⟨b1,b2,b3⟩:=hl.b y y0 y1;rw [<- a3,<- b3];exact hC.coarse _ _ a1 a2 b1 b2 hxy
 have cl':∀ x y:Int,0<=x->x < K'->0<=y->y < K'->LEq e (ix l' x) e (ix l' y)->x=y:=fun x y x0 x1 y0 y1 hxy=>by
  obtain ⟨a1,a2,a3⟩:=hl'.b x x0 x1;obtain ⟨b1,b2,b3⟩:=hl'.b y y0 y1;rw [<- a3,<- b3];exact hC'.coarse _ _ a1 a2 b1 b2 hxy
 have hinj:∀ x y,P x->P y->f x=f y->x=y:=fun x y hx hy hxy=>by
  obtain ⟨_,_,a3⟩:=fs x hx;obtain ⟨_,_,b3⟩:=fs y hy;rw [hxy] at a3;exact cl x y hx.1 hx.2.1 hy.1 hy.2.1 (a3.trans hL (b3.symm hL))
 have link:∀ q r:Int,0<=q->q < d.2.2.1.length->0<=r->r < e.2.2.1.length->LEq d q e r->P (ix C q)/\f (ix C q)=ix C' r:=fun q r q0 q1 r0 r1 hqr=>by
  have bq:=hC.b q q0 q1;have br:=hC'.b r r0 r1;obtain ⟨a1,a2,a3⟩:=hl.b _ bq.1 bq.2;obtain ⟨b1,b2,b3⟩:=hl'.b _ br.1 br.2;have h1:LEq d (ix l (ix C q)) d q:=zxu hd hC a1 a2 q0 q1 a3;have h2:LEq e (ix l' (ix C' r)) e r:=zxu he hC' b1 b2 r0 r1 b3;have h3:LEq d (ix l (ix C q)) e (ix l' (ix C' r)):=(h1.trans rfl hqr).trans hL (h2.symm rfl);have hP:P (ix C q):=⟨bq.1,bq.2,_,br.1,br.2,h3⟩;obtain ⟨c1,c2,c3⟩:=fs _ hP;exact ⟨hP,cl' _ _ c1 c2 br.1 br.2 ((c3.symm hL).trans hL.symm h3)⟩
 have hn:∀ s,P s->∀ t:Int,0<=t->t < d.1.toNat->P (nxC d C l s t)/\f (nxC d C l s t)=nxC e C' l' (f s) t:=fun s hs t t0 t1=>by
  obtain ⟨c1,c2,c3⟩:=fs s hs;obtain ⟨a1,a2,_⟩:=hl.b s hs.1 hs.2.1;obtain ⟨b1,b2,_⟩:=hl'.b _ c1 c2;have sq:=hd.tab.stpb a1 a2 t0 (by omega)
  have sr:=he.tab.stpb b1 b2 t0 (by omega)
  exact link _ _ sq.1 sq.2 sr.1 sr.2 (c3.step t0 (by omega))
 have hm:∀ s,P s->mkC e l' (f s)=mkC d l s:=fun s hs=>by
  obtain ⟨_,_,c3⟩:=fs s hs;exact (c3 [] (fun a ha=>by cases ha)).symm
 obtain ⟨hf,ef⟩:=link _ _ hds.1 hds.2 hes.1 hes.2 hq;have hm':=fun i hi=>zy1 (nx:=nxC d C l) (nx':=nxC e C' l') (mk:=mkC d l) (mk':=mkC e l') (f:=f) (L:=d.1.toNat) hf hinj hn hm i hi
 rw [ef] at hm';rw [<- hL] at go' gn' ⊢;have hnn:n=n':=by
  rcases Nat.lt_trichotomy n n' with c | c | c
  ·have:=go' n c;rw [(hm' n go).2,List.length_map] at this;omega
  ·exact c
  ·have:=go n' c;rw [(hm' n' (fun k hk=>go k (by omega))).2,List.length_map] at gn'
   omega
 subst hnn;unfold xAut;rw [(hm' n go).2]
theorem zun {d:Dt} (h1:(d.2.2.1.length:Int)<=1000000) (h2:(d.2.2.2.1.length:Int)<=1000000) (h3:∀ r∈d.2.2.1,(r.length:Int)<=1000000):ztr d d=some true:=by
 have k14:∀ (i:Int) {r9},0<=i->i < d.2.2.1.length->∀ (n:Nat) (k:Int),((ix d.2.2.1 i).length - k).toNat=n->0<=k->k<=(ix d.2.2.1 i).length->zeu d d i r9 k=r9 (i+1):=by
  intro i r9 i0 i1 n;have hr:=h3 _ (zb9 i0 i1)
  induction n with
  | zero=>
   intro k hn k0 k1;rw [zmi];unfold zde;rw [zak (by omega),if_neg (by simp;omega)]
   exact G_to (by unfold fits;omega) rfl
  | succ n ih=>
   intro k hn k0 k1;rw [zmi];unfold zde;rw [zak (by omega),if_pos (by simp;omega),if_neg (by simp)]
   exact G_to (by omega) (G_to (by omega) (G_to (by omega) (G_to (by omega) (G_to (by unfold fits;omega) (ih (k+1) (by omega) (by omega) (by omega))))))
 have k9:∀ (n:Nat) (i:Int),(d.2.2.1.length - i).toNat=n->0<=i->i<=d.2.2.1.length->zlD d d i=some true:=by
  intro n
  induction n with
  | zero=>
   intro i hn i0 i1;rw [znO];unfold zdP;rw [if_neg (by simp;omega)]
  | succ n ih=>
   intro i hn i0 i1;rw [znO];unfold zdP;rw [if_pos (by simp;omega),if_neg (by simp)]
   refine G_to (by omega) (G_to (by omega) ?_)
   rw [k14 i i0 (by omega) _ 0 rfl (by omega) (by omega)]
   exact ih (i+1) (by omega) (by omega) (by omega)
 have k4:∀ (n:Nat) (i:Int),(d.2.2.2.1.length - i).toNat=n->0<=i->i<=d.2.2.2.1.length->zlC d d i=some true:=by
  intro n
  induction n with
  | zero=>
   intro i hn i0 i1;rw [znN];unfold zdO;rw [if_neg (by simp;omega)]
   exact k9 _ 0 rfl (by omega) (by omega)
  | succ n ih=>
   intro i hn i0 i1;rw [znN];unfold zdO;rw [if_pos (by simp;omega),if_neg (by simp)]
   exact G_to (by omega) (G_to (by omega) (G_to (by unfold fits;omega) (ih (i+1) (by omega) (by omega) (by omega))))
 unfold ztr;rw [if_neg (by simp),if_neg (by simp),if_neg (by simp),if_neg (by simp)]
 exact k4 _ 0 rfl (by omega) (by omega)
theorem zlw:zix (0,0,[],[],())=some true:=by
 unfold zix;rw [if_pos (by simp),if_pos (by simp),zak (by unfold fits;simp)]
 rfl
theorem LeastOk.sizes {d o:Dt} {C Q:List Int} {K:Nat} (hd:DOk 3000 badD d) (h:LeastOk d o C Q K):(o.2.2.1.length:Int)<=3000/\(o.2.2.2.1.length:Int)<=3000/\∀ r∈o.2.2.1,(r.length:Int)<=4:=by
 have h1:=h.part.q.le h.fin;have h2:=h.fin.le;have h3:=hd.n1;have h4:=h.all;have h5:=h.part.l3;have h6:=hd.let1;refine ⟨by omega,by omega,fun r hr => ?_⟩
 obtain ⟨j,j0,j1,rfl⟩:=(zoe (P:=fun x=>x=r)).1 ⟨r,hr,rfl⟩
 have:=(h.part.row j j0 j1).len;omega
abbrev ND:=Int×Int×Unit
abbrev NR:=Int×Int×(List Int)×Unit
abbrev L5:=List NR
def nowT (c:List UInt8) (i:Int):Int:=if i < c.length then bAt c i else 0
theorem zo0 {c:List UInt8} {i:Int} (h:nowT c i≠0):i < c.length:=by
 unfold nowT at h;by_cases h1:i < c.length
 ·exact h1
 ·rw [if_neg h1] at h;exact absurd rfl h
theorem zv5 {c:List UInt8} {i:Int}:0<=nowT c i/\nowT c i<=255:=by
 unfold nowT;by_cases h:i < c.length
 ·rw [if_pos h];unfold bAt;have:=(c.getD i.toNat 0).toNat_lt;constructor
  ·omega
  ·omega
 ·rw [if_neg h];omega
theorem zyZ {n:Nat} (h:n < 9223372036854775808):IntKind.wrap .i64 (n:Int)=n:=by
 unfold IntKind.wrap;simp [IntKind.bits,IntKind.signed];omega
theorem wr64 {x:Int} (h0:0<=x) (h1:x<=1000):IntKind.wrap .i64 x=x:=by
 obtain ⟨n,rfl⟩:=Int.eq_ofNat_of_zero_le h0;exact zyZ (by omega)
theorem wr8 {x:Int} (h0:0<=x) (h1:x<=255):IntKind.wrap .u8 x=x:=by
 obtain ⟨n,rfl⟩:=Int.eq_ofNat_of_zero_le h0;unfold IntKind.wrap;simp [IntKind.bits,IntKind.signed];omega
def begT (x:Int):Bool:=decide (x=48) || decide (x=49) || (decide (97<=x) && decide (x<=100)) || decide (x=40)
theorem zBz:∀ n:Fin 256,decide ((0:Int)<=zt6 [48,49,97,98,99,100,40] (n.val:Int))=begT (n.val:Int):=by decide+kernel
theorem zAi {x:Int} (h0:0<=x) (h1:x<=255):decide ((0:Int)<=zt6 [48,49,97,98,99,100,40] x)=begT x:=by
 have:=zBz ⟨x.toNat,by omega⟩
 have e:((x.toNat:Nat):Int)=x:=by omega
 simpa only [e] using this
section
variable {c:List UInt8} {i s f a:Int} {l:L5}
theorem zwP (h0:0<=i) (h1:i<=c.length):zbj (c,(i,(s,())))=some (nowT c i):=by
 unfold zbj nowT;by_cases h:i=(c.length:Int)
 ·have : ¬ i < c.length:=by omega
  simp [h]
 ·have h2:i < c.length:=by omega
  simp only [h,decide_false,Bool.false_eq_true,if_false,if_pos h2];exact zak ⟨h0,h2⟩
theorem zv7 {k:Int}:zbM (c,(i,(s,()))) k=some (.inr (k,i)):=rfl
theorem zzA (h0:0<=i) (h1:i<=c.length):zcF (c,(i,(s,())))=some (begT (nowT c i)):=by
 unfold zcF;by_cases h:i < c.length
 ·simp only [h,decide_true,if_true];rw [zwP h0 h1];unfold zfK zdS;simp only [Option.bind_some];rw [zAi zv5.1 zv5.2]
 ·have:nowT c i=0:=by unfold nowT;rw [if_neg h]
  simp only [h,decide_false,Bool.false_eq_true,if_false,this];rfl
theorem zrG (h0:0<=i):zcz (c,(i,(s,(l,((f,(a,())),())))))=some (nowT c i):=by
 unfold zcz nowT;by_cases h:(c.length:Int)<=i
 ·have : ¬ i < (c.length:Int):=by omega
  simp [h,this]
 ·have h2:i < c.length:=by omega
  simp only [h,decide_false,Bool.false_eq_true,if_false,if_pos h2];exact zak ⟨h0,h2⟩
theorem r_ok:zdH (c,(i,(s,(l,((f,(a,())),())))))=some (decide (f=0)):=rfl
theorem zsc {k:Int}:zcO k c i s f a l=if f=0 then some (c,i,s,l,k,i) else some (c,i,s,l,f,a):=by
 unfold zcO;by_cases h:f=0<;>simp [h]
theorem zuo (h:l.length<=100000) {k v:Int} {K:List Int}:zcd (k,(v,(K,()))) c i s f a l=some ((l.length:Int),c,i,s,l++[(k,v,K,())],f,a):=by
 unfold zcd;rw [zak (zk4 (by simp;omega))]
 have e:(((l++[(k,v,K,())]).length:Int) - 1)=(l.length:Int):=by simp
 simp only [e];rw [zak (zh0 (by omega) (by omega))]
theorem zBF (hf:f≠0) (h0:0<=i) (x:Int):zdm x c i s f a l=some (x,c,i,s,l,f,a):=by
 rw [zeq];unfold zbg;rw [zrG h0];simp only [Option.bind_some];rw [r_ok];simp [hf]
theorem zz0 (hf:f≠0) (h0:0<=i) (hl:l.length<=100000) (K:List Int):za2 zay c i s f a K l=some ((l.length:Int),c,i,s,l++[(4,0,K,())],f,a):=by
 rw [zg1];unfold zbh;rw [zrG h0];simp only [Option.bind_some];rw [r_ok];unfold za1 zek;rw [zuo hl];simp [hf]
theorem zvL (hf:f≠0) (h0:0<=i) (hl:l.length<=100000) (K:List Int):za8 zay c i s f a K l=some ((l.length:Int),c,i,s,l++[(3,0,K,())],f,a):=by
 rw [zf0];unfold zbe;rw [zrG h0];simp only [Option.bind_some];rw [r_ok];unfold zdy;rw [zuo hl];simp [hf]
end
mutual
def tsz:Tr ND->Nat
 | .nil=>0
 | .mk _ K=>tszL K+1
def tszL:List (Tr ND)->Nat
 | []=>0
 | t::K=>tsz t+tszL K
end
theorem zk9:∀ (K:List (Tr ND)) (t:Tr ND),tszL (K++[t])=tszL K+tsz t
 | [],t=>by simp [tszL]
 | a::K,t=>by rw [List.cons_append,tszL,tszL,zk9 K t];omega
def wfN (x:NR):Prop:=(x.1=0/\x.2.2.1=[])\/(x.1=1/\x.2.2.1=[])\/(x.1=2/\0<=x.2.1/\x.2.1<=3/\x.2.2.1=[])\/(x.1=3/\x.2.2.1≠[])\/(x.1=4/\x.2.2.1≠[])\/(x.1=5/\x.2.2.1.length=1)
mutual
inductive Stn (l:L5):Tr ND->Int->Prop
 | mk (k:Int) (K:List (Tr ND)) (h0:0<=k) (h1:k < l.length) (hw:wfN (ix l k)) (ha:StnL l K (ix l k).2.2.1):Stn l (Tr.mk ((ix l k).1,(ix l k).2.1,()) K) k
inductive StnL (l:L5):List (Tr ND)->List Int->Prop
 | nil:StnL l [] []
 | cons (t:Tr ND) (k:Int) (K:List (Tr ND)) (ks:List Int) (h:Stn l t k) (hs:StnL l K ks):StnL l (t::K) (k::ks)
end
mutual
theorem Stn.mono {l m:L5} {t:Tr ND} {k:Int}:Stn l t k->Stn (l++m) t k
 | .mk k K h0 h1 hw ha=>by
  have e:ix (l++m) k=ix l k:=zan h0 h1;have ih:=ha.mono (m:=m);rw [<- e] at hw ih ⊢;exact .mk k K h0 (by simp;omega) hw ih
theorem StnL.mono {l m:L5} {K:List (Tr ND)} {ks:List Int}:StnL l K ks->StnL (l++m) K ks
 | .nil => .nil
 | .cons t k K ks h hs => .cons t k K ks h.mono hs.mono
end
theorem StnL.snoc {l:L5} {K:List (Tr ND)} {ks:List Int} {t:Tr ND} {k:Int} (h:StnL l K ks) (h2:Stn l t k):StnL l (K++[t]) (ks++[k]):=by
 match h with
 | .nil=>exact .cons _ _ _ _ h2 .nil
 | .cons t' k' K ks h hs=>exact .cons _ _ _ _ h (hs.snoc h2)
theorem StnL.len {l:L5} {K:List (Tr ND)} {ks:List Int} (h:StnL l K ks):K.length=ks.length:=by
 match h with
 | .nil=>rfl
 | .cons _ _ _ _ _ hs=>simp [hs.len]
theorem Stn.put {l:L5} {x:NR} {K:List (Tr ND)} (hw:wfN x) (ha:StnL l K x.2.2.1):Stn (l++[x]) (Tr.mk (x.1,x.2.1,()) K) l.length:=by
 have e:ix (l++[x]) (l.length:Int)=x:=zau;have:=Stn.mk (l:=l++[x]) l.length K (by omega) (by simp;omega) (by rw [e];exact hw) (by rw [e];exact ha.mono)
 rw [e] at this;exact this
mutual
inductive Sg:Int->Tr ND->L5->Prop
 | mk (o a b:Int) (K:List (Tr ND)) (ks:List Int) (z:L5) (hw:wfN (a,b,ks,())) (h:SgL o K ks z):Sg o (Tr.mk (a,b,()) K) (z++[(a,b,ks,())])
inductive SgL:Int->List (Tr ND)->List Int->L5->Prop
 | nil (o:Int):SgL o [] [] []
 | cons (o:Int) (t:Tr ND) (K:List (Tr ND)) (ks:List Int) (z y:L5) (h:Sg o t z) (hs:SgL (o+z.length) K ks y):SgL o (t::K) ((o+z.length - 1)::ks) (z++y)
end
theorem SgL.one {o:Int} {t:Tr ND} {z:L5} (h:Sg o t z):SgL o [t] [o+z.length - 1] z:=by
 have:=SgL.cons o t [] [] z [] h (.nil _)
 rwa [List.append_nil] at this
theorem SgL.snoc {o:Int} {K:List (Tr ND)} {ks:List Int} {y:L5} {t:Tr ND} {z:L5} (h:SgL o K ks y) (h2:Sg (o+y.length) t z):SgL o (K++[t]) (ks++[o+y.length+z.length - 1]) (y++z):=by
 match h with
 | .nil o=>
  have e:o+(([]:L5).length:Int)=o:=by simp
  rw [e] at h2 ⊢;exact SgL.one h2
 | .cons o t' K ks z' y' h hs=>
  have e:o+((z'++y').length:Int)=o+z'.length+y'.length:=by rw [List.length_append];omega
  rw [e] at h2 ⊢;rw [List.append_assoc];exact .cons o t' (K++[t]) _ z' (y'++z) h (hs.snoc h2)
theorem SgL.len {o:Int} {K:List (Tr ND)} {ks:List Int} {y:L5} (h:SgL o K ks y):K.length=ks.length:=by
 match h with
 | .nil _=>rfl
 | .cons _ _ _ _ _ _ _ hs=>simp [hs.len]
mutual
theorem Sg.sz {o:Int} {t:Tr ND} {z:L5} (h:Sg o t z):tsz t=z.length:=by
 match h with
 | .mk o a b K ks z hw h=>rw [tsz,h.sz,List.length_append,List.length_singleton]
theorem SgL.sz {o:Int} {K:List (Tr ND)} {ks:List Int} {y:L5} (h:SgL o K ks y):tszL K=y.length:=by
 match h with
 | .nil _=>rfl
 | .cons o t K ks z y h hs=>rw [tszL,h.sz,hs.sz,List.length_append]
end
mutual
theorem Sg.stn {l:L5} {t:Tr ND} {z:L5} (h:Sg l.length t z):Stn (l++z) t ((l.length:Int)+z.length - 1):=by
 match h with
 | .mk _ a b K ks z hw h=>
  have e:(l.length:Int)+((z++[(a,b,ks,())]).length:Int) - 1=((l++z).length:Int):=by rw [List.length_append,List.length_append,List.length_singleton];omega
  rw [e,<- List.append_assoc];exact Stn.put (x:=(a,b,ks,())) hw h.stn
theorem SgL.stn {l:L5} {K:List (Tr ND)} {ks:List Int} {y:L5} (h:SgL l.length K ks y):StnL (l++y) K ks:=by
 match h with
 | .nil _=>exact .nil
 | .cons _ t K ks z y h hs=>
  have e:(l.length:Int)+(z.length:Int)=((l++z).length:Int):=by rw [List.length_append];omega
  have h2:=hs;rw [e] at h2;rw [<- List.append_assoc];exact .cons _ _ _ _ h.stn.mono h2.stn
end
mutual
def lvs:Tr ND->List Int
 | .nil=>[]
 | .mk v K=>if v.1=2 then [v.2.1] else lvsL K
def lvsL:List (Tr ND)->List Int
 | []=>[]
 | t::K=>lvs t++lvsL K
end
theorem zgP:∀ (K:List (Tr ND)) (t:Tr ND),lvsL (K++[t])=lvsL K++lvs t
 | [],t=>by simp [lvsL]
 | a::K,t=>by rw [List.cons_append,lvsL,lvsL,zgP K t,List.append_assoc]
theorem znb {a b:Int} {K:List (Tr ND)} (h:a≠2):lvs (Tr.mk (a,b,()) K)=lvsL K:=by rw [lvs,if_neg h]
def Rd (c:List UInt8) (i i':Int) (S:List Int):Prop:=(∀ j,i<=j->j < i'->bAt c j < 128)/\∀ x,97<=x->x<=100->((∃ j,i<=j/\j < i'/\bAt c j=x)↔x - 97∈S)
theorem Rd.nil (c:List UInt8) (i:Int):Rd c i i []:=⟨fun j a b=>by omega,fun x _ _=>⟨fun ⟨j,a,b,_⟩=>by omega,fun h=>by cases h⟩⟩
theorem Rd.app {c:List UInt8} {i j k:Int} {S T:List Int} (h:Rd c i j S) (h2:Rd c j k T) (hij:i<=j) (hjk:j<=k):Rd c i k (S++T):=by
 refine ⟨fun p a b => ?_,fun x x0 x1 => ?_⟩
 ·by_cases e:p < j
  ·exact h.1 p a e
  ·exact h2.1 p (by omega) b
 ·rw [List.mem_append,<- h.2 x x0 x1,<- h2.2 x x0 x1];constructor
  ·rintro ⟨p,a,b,e⟩;by_cases e2:p < j
   ·exact .inl ⟨p,a,e2,e⟩
   ·exact .inr ⟨p,by omega,b,e⟩
  ·rintro (⟨p,a,b,e⟩ | ⟨p,a,b,e⟩)
   ·exact ⟨p,a,by omega,e⟩
   ·exact ⟨p,by omega,b,e⟩
theorem zz5 {c:List UInt8} {i:Int} (h:i < c.length):nowT c i=bAt c i:=by unfold nowT;rw [if_pos h]
theorem Rd.one {c:List UInt8} {i b:Int} (hi:i < c.length) (h:nowT c i=b) (hb:b < 97):Rd c i (i+1) []:=by
 rw [zz5 hi] at h;refine ⟨fun j a e => ?_,fun x x0 x1=>⟨fun ⟨j,a,e,e2⟩ => ?_,fun h=>by cases h⟩⟩
 ·obtain rfl:j=i:=by omega
  omega
 ·obtain rfl:j=i:=by omega
  omega
theorem Rd.letter {c:List UInt8} {i:Int} (hi:i < c.length) (h:97<=nowT c i/\nowT c i<=100):Rd c i (i+1) [nowT c i - 97]:=by
 rw [zz5 hi] at h ⊢;refine ⟨fun j a e => ?_,fun x x0 x1=>⟨fun ⟨j,a,e,e2⟩ => ?_,fun h2=>⟨i,by omega,by omega,?_⟩⟩⟩
 ·obtain rfl:j=i:=by omega
  omega
 ·obtain rfl:j=i:=by omega
  rw [e2];exact List.mem_singleton.2 rfl
 ·have:=List.mem_singleton.1 h2;omega
structure Pre (c:List UInt8) (i s:Int) (l:L5):Prop where
 i0:0<=i
 i1:i<=c.length
 c1:c.length<=4000
 s0:0<=s
 s1:s<=40
 l1:(l.length:Int)<=3 * i
def Sm (pt ex:Int) (z:Bool) (c:List UInt8) (i s:Int) (l:L5) (o:Option ((Tr ND×List UInt8×Int×Int)⊕(Int×Int))) (r:Option (Int×List UInt8×Int×Int×L5×Int×Int)):Prop:=
 (∃ a b i' y,o=some (.inl (a,c,i',s))/\r=some (b,c,i',s,l++y,0,0)/\i < i'/\i'<=c.length/\(y.length:Int)+pt<=3 * (i' - i)/\Sg l.length a y/\b=l.length+y.length - 1/\Rd c i i' (lvs a))
 \/(∃ cd b i' l',o=some (.inr (cd,i'))/\r=some (b,c,i',s,l',cd,i')/\cd≠0/\i<=i'/\i'<=c.length/\(l'.length:Int)<=l.length+3 * (i' - i)+2 * (40 - s)+ex)
def Part (c:List UInt8) (m:Nat):Prop:=∀ i s l,Pre c i s l->((c.length:Int) - i).toNat<=m->Sm 2 0 false c i s l (zbq zaA c i s) (zcP zay c i s 0 0 l)
def One (c:List UInt8) (m:Nat):Prop:=∀ i s l,Pre c i s l->((c.length:Int) - i).toNat<=m->Sm 2 0 false c i s l (zbk zaA c i s) (zcA zay c i s 0 0 l)
def RRow (c:List UInt8) (m:Nat):Prop:=∀ i s l,Pre c i s l->((c.length:Int) - i).toNat<=m->Sm 1 1 false c i s l (zbl zaA c i s) (zcC zay c i s 0 0 l)
def zAe (c:List UInt8) (m:Nat):Prop:=∀ i s l,Pre c i s l->((c.length:Int) - i).toNat<=m->Sm 0 2 true c i s l (zaA c i s) (zay c i s 0 0 l)
theorem zzz {c:List UInt8}:∀ (m:Nat) (o:L5) (a:Tr ND) (b i s:Int) (y:L5),Pre c i s (o++y)->Sg o.length a y->b=(o.length:Int)+y.length - 1->((c.length:Int) - i).toNat<=m->
  ∃ a' b' i' y',zcH a c i s=some (.inl (a',c,i',s))/\zdm b c i s 0 0 (o++y)=some (b',c,i',s,o++y',0,0)/\i<=i'/\i'<=c.length/\(y'.length:Int)<=y.length+3 * (i' - i)/\Sg o.length a' y'/\b'=(o.length:Int)+y'.length - 1/\lvs a'=lvs a/\Rd c i i' []:=by
 intro m
 induction m with
 | zero=>
  intro o a b i s y hp hab hbe hm;obtain ⟨i0,i1,c1,s0,s1,q1⟩:=hp;rw [zeI,zeq];unfold zaY zbg;rw [zwP i0 i1,zrG i0];simp only [Option.bind_some];rw [r_ok];have hb : ¬ nowT c i=42:=fun h=>by have:=zo0 (c:=c) (i:=i) (by omega);omega
  simp only [hb,Option.bind_some,decide_true,not_false_eq_true,decide_false,Bool.not_true,Bool.false_eq_true,if_true,if_false];exact ⟨a,b,i,y,rfl,rfl,by omega,i1,by omega,hab,hbe,rfl,.nil c i⟩
 | succ m ih=>
  intro o a b i s y hp hab hbe hm;obtain ⟨i0,i1,c1,s0,s1,q1⟩:=hp;rw [zeI,zeq];unfold zaY zbg;rw [zwP i0 i1,zrG i0];simp only [Option.bind_some];rw [r_ok];by_cases hb:nowT c i=42
  ·have hlt:i < c.length:=zo0 (by rw [hb];decide)
   have fi:fits (i+1):=zh0 (by omega) (by omega)
   simp only [hb,Option.bind_some,decide_true,not_true_eq_false,decide_false,Bool.not_true,Bool.false_eq_true,if_true,if_false,zak fi];rw [zuo (by omega)]
   simp only [Option.bind_some];have hst:=Sg.mk (o.length:Int) 5 0 [a] [b] y (.inr (.inr (.inr (.inr (.inr ⟨rfl,rfl⟩))))) (by rw [hbe];exact SgL.one hab)
   obtain ⟨a',b',i',y',e1,e2,g1,g2,g3,g4,g5,g6,g7⟩:=ih o _ ((o++y).length:Int) (i+1) s (y++[(5,0,[b],())]) ⟨by omega,by omega,c1,s0,s1,by rw [<- List.append_assoc,List.length_append,List.length_singleton];omega⟩ hst (by simp only [List.length_append,List.length_singleton];omega) (by omega)
   refine ⟨a',b',i',y',e1,by rw [List.append_assoc];exact e2,by omega,g2,by rw [List.length_append,List.length_singleton] at g3;omega,g4,g5,?_,?_⟩
   ·rw [g6,znb (by decide),lvsL,lvsL,List.append_nil]
   ·exact (Rd.one hlt hb (by decide)).app g7 (by omega) g1
  ·simp only [hb,Option.bind_some,decide_true,not_false_eq_true,decide_false,Bool.not_true,Bool.false_eq_true,if_true,if_false];exact ⟨a,b,i,y,rfl,rfl,by omega,i1,by omega,hab,hbe,rfl,.nil c i⟩
theorem zBN {c:List UInt8} {m:Nat} (hP:Part c m):One c m:=by
 intro i s l hp hm;have hp':=hp;obtain ⟨i0,i1,c1,s0,s1,q1⟩:=hp;unfold zbk zcA;rcases hP i s l hp' hm with ⟨a1,b1,i',y,e1,e2,g1,g2,g3,g4,g5,g6⟩ | ⟨cd,b1,i',l',e1,e2,g1,g2,g3,g4⟩
 ·simp only [e1,e2,zgT,Option.bind_some];obtain ⟨a',b',i2,y2,z1,z2,y1,y3,y4,y5,y6,y7,y8⟩:=zzz _ l a1 b1 i' s y ⟨by omega,g2,c1,s0,s1,by rw [List.length_append];omega⟩ g4 g5 (Nat.le_refl _)
  exact .inl ⟨a',b',i2,y2,z1,z2,by omega,y3,by omega,y5,y6,by rw [y7];have:=g6.app y8 (by omega) y1;rwa [List.append_nil] at this⟩
 ·simp only [e1,e2,zdG,Option.bind_some];rw [zBF g1 (by omega)]
  exact .inr ⟨cd,_,i',l',rfl,rfl,g1,g2,g3,g4⟩
theorem zAX {c:List UInt8} {i s f a:Int} {K:List Int} {l:L5} (h0:0<=i):
  zbh zay (za2 zay) c i s f a K l=za1 zay c i s f a K l (za2 zay) (decide (f=0)) (begT (nowT c i)):=by
 unfold zbh;rw [zrG h0];simp only [Option.bind_some];rw [r_ok];simp only [Option.bind_some];unfold begT;by_cases h1:nowT c i=48
 ·simp [h1]
 ·by_cases h2:nowT c i=49
  ·simp [h2]
  ·by_cases h3:97<=nowT c i
   ·by_cases h4:nowT c i<=100
    ·simp [h1,h2,h3,h4]
    ·simp [h1,h2,h3,h4]
   ·simp [h1,h2,h3]
theorem zzK {c:List UInt8}:∀ m:Nat,(∀ m' ≤ m,One c m')->∀ (o:L5) K ks i s y,Pre c i s (o++y)->SgL o.length K ks y->K≠[]->(K.length:Int)<=i->((c.length:Int) - i).toNat<=m->
  (∃ a b i' y' S,zaU zaA c i s 4 0 K=some (.inl (a,c,i',s))/\za2 zay c i s 0 0 ks (o++y)=some (b,c,i',s,o++y',0,0)/\i<=i'/\i'<=c.length/\(y'.length:Int)<=y.length+3 * (i' - i)+1/\Sg o.length a y'/\b=(o.length:Int)+y'.length - 1/\lvs a=lvsL K++S/\Rd c i i' S)
  \/(∃ cd b i' l',zaU zaA c i s 4 0 K=some (.inr (cd,i'))/\za2 zay c i s 0 0 ks (o++y)=some (b,c,i',s,l',cd,i')/\cd≠0/\i<=i'/\i'<=c.length/\(l'.length:Int)<=(o++y).length+3 * (i' - i)+2 * (40 - s)+1):=by
 intro m
 induction m using Nat.strongRecOn with
 | ind m ih=>
  intro hO o K ks i s y hp hK hne hKi hm;have hp':=hp;obtain ⟨i0,i1,c1,s0,s1,q1⟩:=hp;have hlen:=hK.len;rw [zi7,zg1,zAX i0];unfold zbd za1;rw [zzA i0 i1];simp only [Option.bind_some,decide_true,Bool.not_true,Bool.false_eq_true,if_false]
  cases hb:begT (nowT c i) with
  | true=>
   simp only [if_true,Bool.not_true,Bool.false_eq_true,if_false];rcases hO m (Nat.le_refl _) i s (o++y) hp' hm with ⟨a1,b1,i',z,e1,e2,g1,g2,g3,g4,g5,g6⟩ | ⟨cd,b1,i',l',e1,e2,g1,g2,g3,g4⟩
   ·simp only [e1,e2,zgT,Option.bind_some];rw [zak (zk4 (by simp;omega)),zak (zk4 (by simp;omega))]
    have el:((o++y).length:Int)=o.length+y.length:=by rw [List.length_append];omega
    rw [el] at g4 g5;have hs:=hK.snoc g4;rw [<- g5] at hs;rcases ih (((c.length:Int) - i').toNat) (by omega) (fun m' h=>hO m' (by omega)) o (K++[a1]) (ks++[b1]) i' s (y++z) ⟨by omega,g2,c1,s0,s1,by rw [<- List.append_assoc,List.length_append];omega⟩ hs (by simp) (by simp;omega) (Nat.le_refl _) with
     ⟨a2,b2,i2,y2,S,z1,z2,y1,y3,y4,y5,y6,y7,y8⟩ | ⟨cd,b2,i2,l2,z1,z2,y1,y2,y3,y4⟩
    ·exact .inl ⟨a2,b2,i2,y2,lvs a1++S,z1,by rw [List.append_assoc];exact z2,by omega,y3,by rw [List.length_append] at y4;omega,y5,y6,by rw [y7,zgP,List.append_assoc],g6.app y8 (by omega) y1⟩
    ·exact .inr ⟨cd,b2,i2,l2,z1,by rw [List.append_assoc];exact z2,y1,by omega,y3,by rw [<- List.append_assoc,List.length_append] at y4;omega⟩
   ·simp only [e1,e2,zdG,Option.bind_some];rw [zak (zk4 (by simp;omega)),zz0 g1 (by omega) (by omega)]
    exact .inr ⟨cd,_,i',_,rfl,rfl,g1,g2,g3,by rw [List.length_append,List.length_singleton];omega⟩
  | false=>
   simp only [Bool.false_eq_true,if_false,Bool.not_false,if_true];unfold zf7 zek;rw [zuo (by omega)]
   simp only [Option.bind_some];have hks:ks≠[]:=by cases ks with
    | nil=>exact absurd (List.length_eq_zero_iff.1 hlen) hne
    | cons=>simp
   exact .inl ⟨_,_,i,y++[(4,0,ks,())],[],rfl,by rw [List.append_assoc],by omega,i1,by simp,Sg.mk _ 4 0 K ks y (.inr (.inr (.inr (.inr (.inl ⟨rfl,hks⟩))))) hK,by simp only [List.length_append,List.length_singleton];omega,by rw [znb (by decide),List.append_nil],.nil c i⟩
theorem zBW {c:List UInt8} {m:Nat} (hO:∀ m' ≤ m,One c m'):RRow c m:=by
 intro i s l hp hm;have hp':=hp;obtain ⟨i0,i1,c1,s0,s1,q1⟩:=hp;unfold zbl zcC;rcases hO m (Nat.le_refl _) i s l hp' hm with ⟨a1,b1,i',y,e1,e2,g1,g2,g3,g4,g5,g6⟩ | ⟨cd,b1,i',l',e1,e2,g1,g2,g3,g4⟩
 ·simp only [e1,e2,zgT,Option.bind_some];rcases zzK m hO l [a1] [b1] i' s y ⟨by omega,g2,c1,s0,s1,by rw [List.length_append];omega⟩ (by rw [g5];exact SgL.one g4) (by simp) (by show (1:Int)<=_;omega) (by omega) with
   ⟨a2,b2,i2,y2,S,z1,z2,y1,y3,y4,y5,y6,y7,y8⟩ | ⟨cd,b2,i2,l2,z1,z2,y1,y2,y3,y4⟩
  ·exact .inl ⟨a2,b2,i2,y2,z1,z2,by omega,y3,by omega,y5,y6,by rw [y7,lvsL,lvsL,List.append_nil];exact g6.app y8 (by omega) y1⟩
  ·exact .inr ⟨cd,b2,i2,l2,z1,z2,y1,by omega,y3,by rw [List.length_append] at y4;omega⟩
 ·simp only [e1,e2,zdG,Option.bind_some];rw [zz0 g1 (by omega) (by omega)]
  exact .inr ⟨cd,_,i',_,rfl,rfl,g1,g2,g3,by simp;omega⟩
theorem zxb {c:List UInt8}:∀ m:Nat,(∀ m' < m,RRow c m')->∀ (o:L5) K ks i s y,Pre c i s (o++y)->SgL o.length K ks y->K≠[]->(K.length:Int)<=i->((c.length:Int) - i).toNat<=m->
  (∃ a b i' y' S,zaN zaA c i s 3 0 K=some (.inl (a,c,i',s))/\za8 zay c i s 0 0 ks (o++y)=some (b,c,i',s,o++y',0,0)/\i<=i'/\i'<=c.length/\(y'.length:Int)<=y.length+3 * (i' - i)+1/\Sg o.length a y'/\b=(o.length:Int)+y'.length - 1/\lvs a=lvsL K++S/\Rd c i i' S)
  \/(∃ cd b i' l',zaN zaA c i s 3 0 K=some (.inr (cd,i'))/\za8 zay c i s 0 0 ks (o++y)=some (b,c,i',s,l',cd,i')/\cd≠0/\i<=i'/\i'<=c.length/\(l'.length:Int)<=(o++y).length+3 * (i' - i)+2 * (40 - s)+2):=by
 intro m
 induction m using Nat.strongRecOn with
 | ind m ih=>
  intro hO o K ks i s y hp hK hne hKi hm;have hp':=hp;obtain ⟨i0,i1,c1,s0,s1,q1⟩:=hp;have hlen:=hK.len;rw [zhp,zf0];unfold za3 zbe;rw [zwP i0 i1,zrG i0];simp only [Option.bind_some];rw [r_ok];simp only [Option.bind_some,decide_true,Bool.not_true,Bool.false_eq_true,if_false];by_cases hb:nowT c i=43
  ·have hlt:i < c.length:=zo0 (by rw [hb];decide)
   have fi:fits (i+1):=zh0 (by omega) (by omega)
   simp only [hb,decide_true,if_true,not_true_eq_false,decide_false,Bool.false_eq_true,if_false,zak fi];rcases hO (((c.length:Int) - (i+1)).toNat) (by omega) (i+1) s (o++y) ⟨by omega,by omega,c1,s0,s1,by omega⟩ (Nat.le_refl _) with ⟨a1,b1,i',z,e1,e2,g1,g2,g3,g4,g5,g6⟩ | ⟨cd,b1,i',l',e1,e2,g1,g2,g3,g4⟩
   ·simp only [e1,e2,zgT,Option.bind_some];rw [zak (zk4 (by simp;omega)),zak (zk4 (by simp;omega))]
    have el:((o++y).length:Int)=o.length+y.length:=by rw [List.length_append];omega
    rw [el] at g4 g5;have hs:=hK.snoc g4;rw [<- g5] at hs;have g7:=(Rd.one hlt hb (by decide)).app g6 (by omega) (by omega)
    rcases ih (((c.length:Int) - i').toNat) (by omega) (fun m' h=>hO m' (by omega)) o (K++[a1]) (ks++[b1]) i' s (y++z) ⟨by omega,g2,c1,s0,s1,by rw [<- List.append_assoc,List.length_append];omega⟩ hs (by simp) (by simp;omega) (Nat.le_refl _) with
     ⟨a2,b2,i2,y2,S,z1,z2,y1,y3,y4,y5,y6,y7,y8⟩ | ⟨cd,b2,i2,l2,z1,z2,y1,y2,y3,y4⟩
    ·exact .inl ⟨a2,b2,i2,y2,lvs a1++S,z1,by rw [List.append_assoc];exact z2,by omega,y3,by rw [List.length_append] at y4;omega,y5,y6,by rw [y7,zgP,List.append_assoc],g7.app y8 (by omega) y1⟩
    ·exact .inr ⟨cd,b2,i2,l2,z1,by rw [List.append_assoc];exact z2,y1,by omega,y3,by rw [<- List.append_assoc,List.length_append] at y4;omega⟩
   ·simp only [e1,e2,zdG,Option.bind_some];rw [zak (zk4 (by simp;omega)),zvL g1 (by omega) (by omega)]
    exact .inr ⟨cd,_,i',_,rfl,rfl,g1,by omega,g3,by rw [List.length_append,List.length_singleton];omega⟩
  ·simp only [hb,not_false_eq_true,decide_true,if_true,decide_false,Bool.false_eq_true,if_false];unfold ze9 zdy;rw [zuo (by omega)]
   simp only [Option.bind_some];have hks:ks≠[]:=by cases ks with
    | nil=>exact absurd (List.length_eq_zero_iff.1 hlen) hne
    | cons=>simp
   exact .inl ⟨_,_,i,y++[(3,0,ks,())],[],rfl,by rw [List.append_assoc],by omega,i1,by simp,Sg.mk _ 3 0 K ks y (.inr (.inr (.inr (.inl ⟨rfl,hks⟩)))) hK,by simp only [List.length_append,List.length_singleton];omega,by rw [znb (by decide),List.append_nil],.nil c i⟩
theorem zzT {c:List UInt8} {m:Nat} (hO:∀ m' ≤ m,RRow c m'):zAe c m:=by
 intro i s l hp hm;have hp':=hp;obtain ⟨i0,i1,c1,s0,s1,q1⟩:=hp;rw [zjv,zny];unfold zbn zcp;rcases hO m (Nat.le_refl _) i s l hp' hm with ⟨a1,b1,i',y,e1,e2,g1,g2,g3,g4,g5,g6⟩ | ⟨cd,b1,i',l',e1,e2,g1,g2,g3,g4⟩
 ·simp only [e1,e2,zgT,Option.bind_some];rcases zxb m (fun m' h=>hO m' (by omega)) l [a1] [b1] i' s y ⟨by omega,g2,c1,s0,s1,by rw [List.length_append];omega⟩ (by rw [g5];exact SgL.one g4) (by simp) (by show (1:Int)<=_;omega) (by omega) with
   ⟨a2,b2,i2,y2,S,z1,z2,y1,y3,y4,y5,y6,y7,y8⟩ | ⟨cd,b2,i2,l2,z1,z2,y1,y2,y3,y4⟩
  ·exact .inl ⟨a2,b2,i2,y2,z1,z2,by omega,y3,by omega,y5,y6,by rw [y7,lvsL,lvsL,List.append_nil];exact g6.app y8 (by omega) y1⟩
  ·exact .inr ⟨cd,b2,i2,l2,z1,z2,y1,by omega,y3,by rw [List.length_append] at y4;omega⟩
 ·simp only [e1,e2,zdG,Option.bind_some];rw [zvL g1 (by omega) (by omega)]
  exact .inr ⟨cd,_,i',_,rfl,rfl,g1,g2,g3,by simp;omega⟩
theorem zAQ {c:List UInt8} {m:Nat} (hW:∀ m' < m,zAe c m'):Part c m:=by
 intro i s l hp hm;have hp':=hp;obtain ⟨i0,i1,c1,s0,s1,q1⟩:=hp;unfold zbq zcP;rw [zwP i0 i1,r_ok,zrG i0];simp only [Option.bind_some,decide_true,Bool.not_true,Bool.false_eq_true,if_false];have es:s+1 - 1=s:=by omega
 have fs:fits s:=zh0 (by omega) (by omega)
 have leaf:∀ (k v:Int),wfN (k,v,[],())->i < c.length->Rd c i (i+1) (lvs (Tr.mk (k,v,()) []))->Sm 2 0 false c i s l (some (.inl (Tr.mk (k,v,()) [],c,i+1,s))) (some ((l.length:Int),c,i+1,s,l++[(k,v,[],())],0,0)):=by
  intro k v hw hlt hr;exact .inl ⟨_,_,_,[(k,v,[],())],rfl,rfl,by omega,by omega,by simp;omega,Sg.mk _ k v [] [] [] hw (.nil _),by simp,hr⟩
 by_cases h48:nowT c i=48
 ·have hlt:i < c.length:=zo0 (by rw [h48];decide)
  have fi:fits (i+1):=zh0 (by omega) (by omega)
  simp only [h48,decide_true,if_true,zak fi];rw [zuo (by omega)]
  exact leaf 0 0 (.inl ⟨rfl,rfl⟩) hlt (Rd.one hlt h48 (by decide))
 ·simp only [h48,decide_false,Bool.false_eq_true,if_false];by_cases h49:nowT c i=49
  ·have hlt:i < c.length:=zo0 (by rw [h49];decide)
   have fi:fits (i+1):=zh0 (by omega) (by omega)
   simp only [h49,decide_true,if_true,zak fi];rw [zuo (by omega)]
   exact leaf 1 0 (.inr (.inl ⟨rfl,rfl⟩)) hlt (Rd.one hlt h49 (by decide))
  ·simp only [h49,decide_false,Bool.false_eq_true,if_false];have j5:∀ t,(t=true->97<=nowT c i/\nowT c i<=100)->Sm 2 0 false c i s l (za6 zaA c i s (nowT c i) t) (zbA zay c i s 0 0 l (nowT c i) t):=by
    intro t ht;unfold za6 zbA
    cases t with
    | true=>
     obtain ⟨h1,h2⟩:=ht rfl;have hlt:i < c.length:=zo0 (by omega)
     have fi:fits (i+1):=zh0 (by omega) (by omega)
     simp only [if_true,zak fi];rw [zuo (by omega)]
     have e:IntKind.wrap .i64 (IntKind.wrap .u8 (nowT c i - 97))=nowT c i - 97:=by rw [wr8 (by omega) (by omega),wr64 (by omega) (by omega)]
     rw [e];exact leaf 2 (nowT c i - 97) (.inr (.inr (.inl ⟨rfl,by show 0<=nowT c i - 97;omega,by show nowT c i - 97<=3;omega,rfl⟩))) hlt (Rd.letter hlt ⟨h1,h2⟩)
    | false=>
     simp only [Bool.false_eq_true,if_false];by_cases h40:nowT c i=40
     ·have hlt:i < c.length:=zo0 (by rw [h40];decide)
      simp only [h40,not_true_eq_false,decide_false,Bool.false_eq_true,if_false,decide_true,if_true];by_cases hs:s=40
      ·simp only [hs,decide_true,if_true,zv7,zdG,zsc,Option.bind_some];exact .inr ⟨7,_,i,_,rfl,rfl,by decide,by omega,by omega,by omega⟩
      ·simp only [hs,decide_false,Bool.false_eq_true,if_false];unfold zbc;have f1:fits (s+1):=zh0 (by omega) (by omega)
       have f2:fits (i+1):=zh0 (by omega) (by omega)
       simp only [zak f1,zak f2];rcases hW (((c.length:Int) - (i+1)).toNat) (by omega) (i+1) (s+1) l ⟨by omega,by omega,c1,by omega,by omega,by omega⟩ (Nat.le_refl _) with
        ⟨a1,b1,i',y,e1,e2,g1,g2,g3,g4,g5,g6⟩ | ⟨cd,b1,i',l',e1,e2,g1,g2,g3,g4⟩
       ·simp only [e1,e2,zgT,Option.bind_some];rw [zwP (by omega) g2,zrG (by omega)]
        simp only [Option.bind_some];unfold zcB;by_cases h41:nowT c i'=41
        ·have hlt3:i' < c.length:=zo0 (by rw [h41];decide)
         have f3:fits (i'+1):=zh0 (by omega) (by omega)
         simp only [h41,not_true_eq_false,decide_false,Bool.false_eq_true,if_false];rw [r_ok];simp only [Option.bind_some,decide_true,if_true,es,zak fs,zak f3];refine .inl ⟨_,_,_,y,rfl,rfl,by omega,by omega,by omega,g4,g5,?_⟩
         have:=((Rd.one hlt h40 (by decide)).app g6 (by omega) (by omega)).app (Rd.one hlt3 h41 (by decide)) (by omega) (by omega)
         rwa [List.nil_append,List.append_nil] at this
        ·simp only [h41,not_false_eq_true,decide_true,if_true,zv7,zdG,zsc,Option.bind_some];rw [r_ok];simp only [Option.bind_some,Int.reduceEq,decide_false,Bool.false_eq_true,if_false,es,zak fs];exact .inr ⟨4,_,i',_,rfl,rfl,by decide,by omega,by omega,by rw [List.length_append];omega⟩
       ·simp only [e1,e2,zdG,Option.bind_some];rw [zrG (by omega)]
        simp only [Option.bind_some];have key:Sm 2 0 false c i s l (some (.inr (cd,i'))) (zcB b1 c i' (s+1) cd i' l'):=by
         unfold zcB;rw [r_ok];simp only [Option.bind_some,g1,decide_false,Bool.false_eq_true,if_false,es,zak fs];exact .inr ⟨cd,_,i',_,rfl,rfl,g1,by omega,by omega,by omega⟩
        by_cases h41:nowT c i'=41
        ·simpa [h41] using key
        ·simpa [h41,zsc,g1] using key
     ·simp only [h40,not_false_eq_true,decide_true,if_true,decide_false,Bool.false_eq_true,if_false,zv7,zdG,zsc,Option.bind_some];exact .inr ⟨4,_,i,_,rfl,rfl,by decide,by omega,by omega,by omega⟩
   by_cases h97:97<=nowT c i
   ·have:=j5 (decide (nowT c i<=100)) (fun h=>⟨h97,of_decide_eq_true h⟩)
    simpa [h97] using this
   ·have:=j5 false (fun h=>by cases h)
    simpa [h97] using this
theorem zBy {c:List UInt8}:∀ m:Nat,zAe c m:=by
 intro m
 induction m using Nat.strongRecOn with
 | ind m ih=>
  have hP:∀ m' ≤ m,Part c m':=fun m' h=>zAQ fun m'' h'=>ih m'' (by omega)
  exact zzT fun m' h=>zBW fun m'' h'=>zBN (hP m'' (by omega))
theorem zwQ (c:List UInt8):(∃ a l,zd7 c=some (a,(0,(0,())))/\znw c=some ((0,(0,())),l)/\(l.length:Int)<=3 * c.length/\Sg 0 a l/\c.length<=4000/\Rd c 0 c.length (lvs a))
  \/(∃ cd pl,zd7 c=some (Tr.nil,(cd,(pl,())))/\znw c=some ((cd,(pl,())),[])/\cd≠0):=by
 unfold zd7 znw;by_cases hc:(4000:Int) < c.length
 ·simp only [hc,decide_true,if_true];exact .inr ⟨1,0,rfl,rfl,by decide⟩
 ·simp only [hc,decide_false,Bool.false_eq_true,if_false];rcases zBy (c:=c) (((c.length:Int) - 0).toNat) 0 0 [] ⟨by omega,by omega,by omega,by omega,by omega,by simp⟩ (Nat.le_refl _) with
   ⟨a1,b1,i',y,e1,e2,g1,g2,g3,g4,g5,g6⟩ | ⟨cd,b1,i',l',e1,e2,g1,g2,g3,g4⟩
  ·simp only [e1,e2,zgT,Option.bind_some];by_cases hi:i' < (c.length:Int)
   ·simp only [hi,decide_true,if_true,zv7,zdG,zsc,Option.bind_some,Int.reduceEq,not_false_eq_true];exact .inr ⟨4,i',rfl,rfl,by decide⟩
   ·simp only [hi,decide_false,Bool.false_eq_true,if_false,not_true_eq_false,Option.bind_some];obtain rfl:i'=c.length:=by omega
    exact .inl ⟨a1,y,rfl,rfl,by omega,g4,by omega,g6⟩
  ·simp only [e1,e2,zdG,Option.bind_some];by_cases hi:i' < (c.length:Int)
   ·simp only [hi,decide_true,if_true,zsc,g1,if_false,not_false_eq_true,Option.bind_some];exact .inr ⟨cd,i',rfl,rfl,g1⟩
   ·simp only [hi,decide_false,Bool.false_eq_true,if_false,g1,not_false_eq_true,decide_true,if_true,Option.bind_some];exact .inr ⟨cd,i',rfl,rfl,g1⟩
inductive St (P:List Int->Prop):List Int->Prop
 | nil:St P []
 | cons (u w:List Int) (hu:P u) (hw:St P w):St P (u++w)
mutual
def Lg:Tr ND->List Int->Prop
 | .nil=>fun _=>False
 | .mk v K=>fun w=>if v.1=1 then w=[] else if v.1=2 then w=[v.2.1] else if v.1=3 then LgA K w else if v.1=4 then LgS K w else if v.1=5 then LgT K w else False
def LgA:List (Tr ND)->List Int->Prop
 | []=>fun _=>False
 | k::K=>fun w=>Lg k w\/LgA K w
def LgS:List (Tr ND)->List Int->Prop
 | []=>fun w=>w=[]
 | k::K=>fun w=>∃ u x,w=u++x/\Lg k u/\LgS K x
def LgT:List (Tr ND)->List Int->Prop
 | []=>fun w=>w=[]
 | k::_=>fun w=>St (Lg k) w
end
theorem zsn:∀ (K:List (Tr ND)) (w:List Int),LgA K w↔∃ k∈K,Lg k w
 | [],w=>by simp [LgA]
 | k::K,w=>by
  show (Lg k w\/LgA K w)↔_;rw [zsn K w];simp
theorem zkc {a b:Int} {K:List (Tr ND)} {x:List Int}:Lg (Tr.mk (a,b,()) K) x=(if a=1 then x=[] else if a=2 then x=[b] else if a=3 then LgA K x else if a=4 then LgS K x else if a=5 then LgT K x else False):=by rw [Lg]
theorem zle:∀ (K:List (Tr ND)) (k:Tr ND) (w:List Int),LgS (K++[k]) w↔∃ u x,w=u++x/\LgS K u/\Lg k x
 | [],k,w=>by
  rw [List.nil_append,LgS];constructor
  ·rintro ⟨u,x,rfl,h,h2⟩;have h2:x=[]:=h2;subst h2;exact ⟨[],u,by simp,rfl,h⟩
  ·rintro ⟨u,x,rfl,h,h2⟩;have h:u=[]:=h;subst h;exact ⟨x,[],by simp,h2,rfl⟩
 | a::K,k,w=>by
  rw [List.cons_append,LgS];constructor
  ·rintro ⟨u,x,rfl,h,h2⟩;obtain ⟨u2,x2,rfl,h3,h4⟩:=(zle K k x).1 h2;exact ⟨u++u2,x2,by simp,⟨u,u2,rfl,h,h3⟩,h4⟩
  ·rintro ⟨u,x,rfl,⟨u2,x2,rfl,h3,h4⟩,h5⟩;exact ⟨u2,x2++x,by simp,h3,(zle K k _).2 ⟨x2,x,rfl,h4,h5⟩⟩
theorem zz9 {α:Type} {f g:α->Nat}:∀ {U:List α},(∀ x∈U,f x<=g x)->(U.map f).sum<=(U.map g).sum
 | [],_=>Nat.le_refl _
 | a::U,h=>by
  have h1:=h a (by simp)
  have h2:=zz9 (U:=U) (fun x hx=>h x (by simp [hx]))
  simp only [List.map_cons,List.sum_cons];omega
theorem zAa {α:Type} {f g:α->Nat}:∀ {U:List α},(∀ x∈U,f x<=g x)->(∃ x∈U,f x < g x)->(U.map f).sum < (U.map g).sum
 | [],_,h=>by obtain ⟨x,hx,_⟩:=h;cases hx
 | a::U,h,⟨x,hx,hlt⟩=>by
  have h1:=h a (by simp)
  have h2:=zz9 (U:=U) (fun x hx=>h x (by simp [hx]))
  simp only [List.map_cons,List.sum_cons];rcases List.mem_cons.1 hx with rfl | hx
  ·omega
  ·have:=zAa (U:=U) (fun x hx=>h x (by simp [hx])) ⟨x,hx,hlt⟩
   omega
theorem StnL.get {l:L5}:∀ {K:List (Tr ND)} {ks:List Int},StnL l K ks->∀ j:Int,0<=j->j < K.length->Stn l (ix K j) (ix ks j)
 | _,_,.nil,j,h0,h1=>by simp at h1;omega
 | _,_,.cons t k K ks h hs,j,h0,h1=>by
  by_cases e:j=0
  ·subst e;exact h
  ·obtain ⟨i,rfl⟩:∃ i,j=i+1:=⟨j - 1,by omega⟩
   have:=hs.get i (by omega) (by rw [List.length_cons] at h1;omega)
   have e1:ix (t::K) (i+1)=ix K i:=by rw [zhC (by omega)];congr 1;omega
   have e2:ix (k::ks) (i+1)=ix ks i:=by rw [zhC (by omega)];congr 1;omega
   rw [e1,e2];exact this
theorem ztz:∀ {K:List (Tr ND)} {t:Tr ND},t∈K->tsz t<=tszL K
 | k::K,t,h=>by
  rw [tszL];rcases List.mem_cons.1 h with rfl | h
  ·omega
  ·have:=ztz h;omega
theorem zpR:∀ (K:List (Tr ND)),(∀ t∈K,1<=tsz t)->K.length<=tszL K
 | [],_=>Nat.le_refl _
 | k::K,h=>by
  rw [tszL,List.length_cons];have:=h k (by simp)
  have:=zpR K (fun t ht=>h t (by simp [ht]))
  omega
theorem Stn.pos {l:L5} {t:Tr ND} {k:Int} (h:Stn l t k):1<=tsz t:=by
 cases h with
 | mk k K h0 h1 hw ha=>rw [tsz];omega
theorem StnL.pos {l:L5}:∀ {K:List (Tr ND)} {ks:List Int},StnL l K ks->∀ t∈K,1<=tsz t
 | _,_,.nil,t,h=>by cases h
 | _,_,.cons t k K ks h hs,x,hx=>by
  rcases List.mem_cons.1 hx with rfl | hx
  ·exact h.pos
  ·exact hs.pos x hx
theorem zAd {P:List Int->Prop} {u x:List Int} (h:St P u) (hx:P x):St P (u++x):=by
 induction h with
 | nil=>have:=St.cons x [] hx .nil;rw [List.append_nil] at this;exact this
 | cons a b ha hb ih=>rw [List.append_assoc];exact .cons a _ ha ih
section
variable {l:L5} {w:List Int}
def sub (w:List Int) (i j:Nat):List Int:=(w.drop i).take (j - i)
theorem zvy {i m j:Nat} (h1:i<=m) (h2:m<=j):sub w i m++sub w m j=sub w i j:=by
 unfold sub;have e:j - i=(m - i)+(j - m):=by omega
 rw [e,List.take_add,List.drop_drop,show i+(m - i)=m by omega]
theorem zut {i j:Nat} (h:i<=j) (hj:j<=w.length) {u x:List Int} (e:sub w i j=u++x):i+u.length<=j/\u=sub w i (i+u.length)/\x=sub w (i+u.length) j:=by
 have hl:(sub w i j).length=j - i:=by unfold sub;rw [List.length_take,List.length_drop];omega
 have hl2:=hl;rw [e,List.length_append] at hl2;have h1:i+u.length<=j:=by omega
 have h3:=zvy (w:=w) (i:=i) (m:=i+u.length) (j:=j) (by omega) h1
 rw [e] at h3;have hlu:(sub w i (i+u.length)).length=u.length:=by unfold sub;rw [List.length_take,List.length_drop];omega
 obtain ⟨a,b⟩:=List.append_inj h3 hlu;exact ⟨h1,a.symm,b.symm⟩
theorem sub_self {i:Nat}:sub w i i=[]:=by unfold sub;simp
def En (w:List Int) (P:List Int->Prop) (f:List Bool) (j:Nat):Prop:=∃ i,i<=j/\ix f (i:Int)=true/\P (sub w i j)
def EOut (w:List Int) (P:List Int->Prop) (f out:List Bool):Prop:=out.length=w.length+1/\∀ j:Nat,j<=w.length->(ix out (j:Int)=true↔En w P f j)
theorem zy7 {f:List Bool}:f.take (List.replicate ((f.length:Int)).toNat (false:Bool)).length++(List.replicate ((f.length:Int)).toNat (false:Bool)).drop f.length=f:=by simp
theorem zzb (hw:w.length<=100) {k:Int} (h2:(ix l k).2.1=(ix l k).2.1) {f:List Bool} (hf:f.length=w.length+1):∃ out,zgG l k w f 0 (List.replicate ((f.length:Int)).toNat (false:Bool))=some out/\EOut w (fun x=>x=[(ix l k).2.1]) f out:=by
 have key:∀ (m i:Nat) (out:List Bool),w.length - i=m->i<=w.length->out.length=w.length+1->(∀ j:Nat,j<=w.length->(ix out (j:Int)=true↔j<=i/\En w (fun x=>x=[(ix l k).2.1]) f j))->
   ∃ out',zgG l k w f (i:Int) out=some out'/\EOut w (fun x=>x=[(ix l k).2.1]) f out':=by
  intro m
  induction m with
  | zero=>
   intro i out hm hi hl h;refine ⟨out,?_,hl,fun j hj => ?_⟩
   ·rw [znG];unfold zdN;rw [if_neg (by simp;omega)]
    rfl
   ·rw [h j hj];exact ⟨fun h=>h.2,fun h=>⟨by omega,h⟩⟩
  | succ m ih=>
   intro i out hm hi hl h;have hE:En w (fun x=>x=[(ix l k).2.1]) f (i+1)↔ix f (i:Int)=true/\ix w (i:Int)=(ix l k).2.1:=by
    have e1:∀ i',i'<=i+1->sub w i' (i+1)=[(ix l k).2.1]->i'=i:=fun i' h1 h2=>by
     have:=congrArg List.length h2;unfold sub at this;rw [List.length_take,List.length_drop,List.length_singleton] at this;omega
    have e2:sub w i (i+1)=[ix w (i:Int)]:=by
     have h3:i < w.length:=by omega
     unfold sub;rw [zhf (l:=w) (i:=(i:Int)) (by omega) (by omega),List.drop_eq_getElem_cons h3,show i+1 - i=0+1 by omega,List.take_succ_cons,List.take_zero]
     rfl
    constructor
    ·rintro ⟨i',h1,h2,h3⟩;obtain rfl:=e1 i' h1 h3;have h3:sub w i' (i'+1)=_:=h3;rw [e2] at h3;exact ⟨h2,by simpa using h3⟩
    ·rintro ⟨h1,h2⟩;exact ⟨i,by omega,h1,by show sub w i (i+1)=_;rw [e2,h2]⟩
   have st:∀ b:Bool,(b=true↔ix f (i:Int)=true/\ix w (i:Int)=(ix l k).2.1)->∃ out',zgG l k w f ((i:Int)+1) (out.set ((i:Int)+1).toNat b)=some out'/\EOut w (fun x=>x=[(ix l k).2.1]) f out':=fun b hb=>by
    refine ih (i+1) _ (by omega) (by omega) (by rw [List.length_set];exact hl) (fun j hj => ?_)
    by_cases c:j=i+1
    ·subst c;rw [show ((i:Int)+1).toNat=(((i+1:Nat):Int)).toNat by omega,zaI (by omega) (by rw [hl];omega),hb,hE]
     exact ⟨fun h=>⟨by omega,h⟩,fun h=>h.2⟩
    ·rw [za9 (by omega) (by omega) (by omega),h j hj]
     exact ⟨fun h=>⟨by omega,h.2⟩,fun h=>⟨by omega,h.2⟩⟩
   rw [znG];unfold zdN;rw [if_pos (by simp;omega),zak (by unfold fits;omega),zak (by omega)]
   by_cases c:ix f (i:Int)=true
   ·rw [if_pos c,zak (by omega),zak (by omega),zak (by omega),zak (by unfold fits;omega)]
    exact st _ (by simp [c])
   ·rw [if_neg c,zak (by omega),zak (by omega),zak (by unfold fits;omega)]
    exact st _ (by simp [c])
 refine key _ 0 _ rfl (by omega) (by simp;omega) (fun j hj => ?_)
 rw [zcy (by omega) (by omega)]
 constructor
 ·intro h;cases h
 ·rintro ⟨h1,i,h2,h3,h4⟩;obtain rfl:j=0:=by omega
  obtain rfl:i=0:=by omega
  have h4:sub w 0 0=_:=h4;rw [sub_self] at h4;cases h4
theorem zy9 {j:Int} (hj:0<=j/\j<=100000) {r13} {y:List Bool} (hy:y.length<=1000):∀ (m i:Nat) (out:List Bool),y.length - i=m->i<=y.length->out.length=y.length->
  ∃ out',zdM j r13 y (i:Int) out=r13 (j+1) out'/\out'.length=y.length/\∀ q:Int,0<=q->q < y.length->(ix out' q=true↔ix out q=true\/((i:Int)<=q/\ix y q=true)):=by
 intro m
 induction m with
 | zero=>
  intro i out hm hi hl;refine ⟨out,?_,hl,fun q q0 q1=>⟨.inl,fun h=>h.elim id (fun h=>by omega)⟩⟩
  rw [zl6];unfold zc7;rw [if_neg (by simp;omega)]
  exact G_to (by unfold fits;omega) rfl
 | succ m ih=>
  intro i out hm hi hl;have st:∀ b:Bool,(b=true↔ix out (i:Int)=true\/ix y (i:Int)=true)->∃ out',zdM j r13 y ((i:Int)+1) (out.set ((i:Int)).toNat b)=r13 (j+1) out'/\out'.length=y.length/\∀ q:Int,0<=q->q < y.length->(ix out' q=true↔ix out q=true\/((i:Int)<=q/\ix y q=true)):=fun b hb=>by
   obtain ⟨out',e1,e2,e3⟩:=ih (i+1) (out.set ((i:Int)).toNat b) (by omega) (by omega) (by rw [List.length_set];exact hl)
   refine ⟨out',e1,e2,fun q q0 q1 => ?_⟩
   rw [e3 q q0 q1];by_cases c:q=i
   ·subst c;rw [zaI (by omega) (by omega),hb]
    constructor
    ·rintro (h | ⟨h,_⟩)
     ·exact h.imp id (fun h=>⟨by omega,h⟩)
     ·omega
    ·rintro (h | ⟨_,h⟩)
     ·exact .inl (.inl h)
     ·exact .inl (.inr h)
   ·rw [za9 (by omega) q0 (by omega)]
    exact or_congr Iff.rfl (and_congr (by omega) Iff.rfl)
  rw [zl6];unfold zc7;rw [if_pos (by simp;omega),zak (by omega),zak (by omega)]
  by_cases c:ix out (i:Int)=true
  ·rw [if_pos c,zak (by omega),zak (by omega),zak (by unfold fits;omega)]
   exact st true (by simp [c])
  ·rw [if_neg c,zak (by omega),zak (by omega),zak (by omega),zak (by omega),zak (by unfold fits;omega)]
   exact st (ix y (i:Int)) (by simp [c])
theorem zza {r29} {y:List Bool} (hy:y.length<=1000):∀ (m i:Nat) (again:Bool) (out:List Bool),y.length - i=m->i<=y.length->out.length=y.length->
  ∃ out' again',zda r29 y again (i:Int) out=r29 again' out'/\out'.length=y.length/\(∀ q:Int,0<=q->q < y.length->(ix out' q=true↔ix out q=true\/((i:Int)<=q/\ix y q=true)))/\
   (again'=true↔again=true\/∃ q:Int,(i:Int)<=q/\q < y.length/\ix y q=true/\ix out q=false):=by
 intro m
 induction m with
 | zero=>
  intro i again out hm hi hl;refine ⟨out,again,?_,hl,fun q q0 q1=>⟨.inl,fun h=>h.elim id (fun h=>by omega)⟩,⟨.inl,fun h=>h.elim id (fun ⟨q,a,b,_⟩=>by omega)⟩⟩
  rw [zl9];unfold zdb;rw [if_neg (by simp;omega)]
 | succ m ih=>
  intro i again out hm hi hl;have st:∀ b ag:Bool,(b=true↔ix out (i:Int)=true\/ix y (i:Int)=true)->(ag=true↔again=true\/(ix y (i:Int)=true/\ix out (i:Int)=false))->∃ out' again',zda r29 y ag ((i:Int)+1) (out.set ((i:Int)).toNat b)=r29 again' out'/\out'.length=y.length/\(∀ q:Int,0<=q->q < y.length->(ix out' q=true↔ix out q=true\/((i:Int)<=q/\ix y q=true)))/\
   (again'=true↔again=true\/∃ q:Int,(i:Int)<=q/\q < y.length/\ix y q=true/\ix out q=false):=fun b ag hb hag=>by
   obtain ⟨out',ag',e1,e2,e3,e4⟩:=ih (i+1) ag (out.set ((i:Int)).toNat b) (by omega) (by omega) (by rw [List.length_set];exact hl)
   refine ⟨out',ag',e1,e2,fun q q0 q1 => ?_,?_⟩
   ·rw [e3 q q0 q1];by_cases c:q=i
    ·subst c;rw [zaI (by omega) (by omega),hb]
     constructor
     ·rintro (h | ⟨h,_⟩)
      ·exact h.imp id (fun h=>⟨by omega,h⟩)
      ·omega
     ·rintro (h | ⟨_,h⟩)
      ·exact .inl (.inl h)
      ·exact .inl (.inr h)
    ·rw [za9 (by omega) q0 (by omega)]
     exact or_congr Iff.rfl (and_congr (by omega) Iff.rfl)
   ·rw [e4,hag];constructor
    ·rintro ((h | ⟨h1,h2⟩) | ⟨q,q0,q1,q2,q3⟩)
     ·exact .inl h
     ·exact .inr ⟨i,by omega,by omega,h1,h2⟩
     ·rw [za9 (by omega) (by omega) (by omega)] at q3
      exact .inr ⟨q,by omega,q1,q2,q3⟩
    ·rintro (h | ⟨q,q0,q1,q2,q3⟩)
     ·exact .inl (.inl h)
     ·by_cases c:q=i
      ·subst c;exact .inl (.inr ⟨q2,q3⟩)
      ·refine .inr ⟨q,by omega,q1,q2,?_⟩
       rw [za9 (by omega) (by omega) (by omega)];exact q3
  have J:∀ ag:Bool,(ag=true↔again=true\/(ix y (i:Int)=true/\ix out (i:Int)=false))->∃ out' again',zdK y (i:Int) out (zda r29 y) ag=r29 again' out'/\out'.length=y.length/\(∀ q:Int,0<=q->q < y.length->(ix out' q=true↔ix out q=true\/((i:Int)<=q/\ix y q=true)))/\
   (again'=true↔again=true\/∃ q:Int,(i:Int)<=q/\q < y.length/\ix y q=true/\ix out q=false):=fun ag hag=>by
   unfold zdK;rw [zak (by omega),zak (by omega)]
   by_cases c:ix out (i:Int)=true
   ·rw [if_pos c,zak (by omega),zak (by omega),zak (by unfold fits;omega)]
    exact st true ag (by simp [c]) hag
   ·rw [if_neg c,zak (by omega),zak (by omega),zak (by omega),zak (by omega),zak (by unfold fits;omega)]
    exact st (ix y (i:Int)) ag (by simp [c]) hag
  rw [zl9];unfold zdb;rw [if_pos (by simp;omega)]
  by_cases ca:again=true
  ·rw [if_pos ca];exact J true (by simp [ca])
  ·rw [if_neg ca,zak (by omega),zak (by omega)]
   by_cases cy:ix y (i:Int)=true
   ·rw [if_pos cy,zak (by omega),zak (by omega)]
    exact J _ (by simp [ca,cy])
   ·rw [if_neg cy];exact J false (by simp [ca,cy])
theorem zxM (hw:w.length<=100) (hlen:l.length<=100000):∀ (n:Nat) (t:Tr ND) (k:Int) (f:List Bool),n<=100000->tsz t<=n->Stn l t k->f.length=w.length+1->∃ out,zg2 l k w f=some out/\EOut w (Lg t) f out:=by
 intro n
 induction n with
 | zero=>
  intro t k f hn0 hn hs hf
  cases hs with
  | mk k K h0 h1 hw ha=>rw [tsz] at hn;omega
 | succ n ih=>
  intro t k f hn0 hn hs hf
  cases hs with
  | mk k K h0 h1 hwf ha=>
  have hKl:=ha.len;have hkn:∀ j:Int,0<=j->j < K.length->tsz (ix K j)<=n:=fun j j0 j1=>by
   have:=ztz (zb9 j0 j1);rw [tsz] at hn;omega
  rw [zwZ];unfold ziQ;rw [zak ⟨h0,h1⟩,zak (by unfold mkOK;omega),zy7]
  by_cases c1:(ix l k).1=1
  ·rw [if_pos (by simpa using c1)]
   refine ⟨f,rfl,hf,fun j hj => ?_⟩
   have e:∀ x,Lg (Tr.mk ((ix l k).1,(ix l k).2.1,()) K) x↔x=[]:=fun x=>by rw [zkc,if_pos c1]
   constructor
   ·intro h;exact ⟨j,Nat.le_refl _,h,by rw [sub_self,e]⟩
   ·rintro ⟨i,h1,h2,h3⟩;rw [e] at h3;have:=congrArg List.length h3;unfold sub at this;rw [List.length_take,List.length_drop,List.length_nil] at this;obtain rfl:i=j:=by omega
    exact h2
  rw [if_neg (by simpa using c1)]
  by_cases c2:(ix l k).1=2
  ·rw [if_pos (by simpa using c2)]
   obtain ⟨out,o1,o2⟩:=zzb (l:=l) hw (k:=k) rfl hf;have e:Lg (Tr.mk ((ix l k).1,(ix l k).2.1,()) K)=fun x=>x=[(ix l k).2.1]:=by funext x;rw [zkc,if_neg c1,if_pos c2]
   exact ⟨out,o1,by rw [e];exact o2⟩
  rw [if_neg (by simpa using c2)]
  by_cases c3:(ix l k).1=3
  ·rw [if_pos (by simpa using c3)]
   have e:∀ x,Lg (Tr.mk ((ix l k).1,(ix l k).2.1,()) K) x↔∃ q∈K,Lg q x:=fun x=>by rw [zkc,if_neg c1,if_neg c2,if_pos c3,zsn]
   have key:∀ (m j:Nat) (out:List Bool),K.length - j=m->j<=K.length->out.length=w.length+1->(∀ q:Nat,q<=w.length->(ix out (q:Int)=true↔∃ t∈K.take j,En w (Lg t) f q))->
     ∃ out',zdL zg2 l k w f (j:Int) out=some out'/\EOut w (Lg (Tr.mk ((ix l k).1,(ix l k).2.1,()) K)) f out':=by
    intro m
    induction m with
    | zero=>
     intro j out hm hj hl h;obtain rfl:j=K.length:=by omega
     rw [List.take_length] at h;refine ⟨out,?_,hl,fun q hq => ?_⟩
     ·rw [zl5];unfold zc6;rw [if_neg (by simp;omega)]
      rfl
     ·rw [h q hq];constructor
      ·rintro ⟨t,ht,i,i1,i2,i3⟩;exact ⟨i,i1,i2,(e _).2 ⟨t,ht,i3⟩⟩
      ·rintro ⟨i,i1,i2,i3⟩;obtain ⟨t,ht,i4⟩:=(e _).1 i3;exact ⟨t,ht,i,i1,i2,i4⟩
    | succ m ihm=>
     intro j out hm hj hl h;obtain ⟨y,y1,y2,y3⟩:=ih _ _ f (by omega) (hkn (j:Int) (by omega) (by omega)) (ha.get (j:Int) (by omega) (by omega)) hf
     have hjj:(j:Int)<=100000:=by
      have:tszL K<=n:=by rw [tsz] at hn;omega
      have:=zpR K ha.pos;omega
     obtain ⟨out',e1,e2,e3⟩:=zy9 (j:=(j:Int)) ⟨by omega,hjj⟩ (r13:=zdL zg2 l k w f) (y:=y) (by omega) _ 0 out rfl (by omega) (by omega)
     have et:=zqt (l:=K) (i:=(j:Int)) (by omega) (by omega)
     rw [Int.toNat_natCast,show ((j:Int)+1).toNat=j+1 from by omega] at et
     obtain ⟨o2,f1,f2⟩:=ihm (j+1) out' (by omega) (by omega) (by omega) (fun q hq=>by
      rw [e3 q (by omega) (by omega),h q hq,y3 q hq,et]
      constructor
      ·rintro (⟨t,ht,h⟩ | ⟨_,h⟩)
       ·exact ⟨t,List.mem_append_left _ ht,h⟩
       ·exact ⟨_,List.mem_append_right _ (List.mem_singleton.2 rfl),h⟩
      ·rintro ⟨t,ht,h⟩;rcases List.mem_append.1 ht with ht | ht
       ·exact .inl ⟨t,ht,h⟩
       ·rw [List.mem_singleton.1 ht] at h;exact .inr ⟨by omega,h⟩)
     refine ⟨o2,?_,f2⟩
     rw [zl5];unfold zc6;rw [if_pos (by simp;omega),zak (by omega)]
     exact zao y1 (e1.trans f1)
   exact key _ 0 _ rfl (by omega) (by simp;omega) (fun q hq=>by
    rw [zcy (by omega) (by omega)]
    constructor
    ·intro h;cases h
    ·rintro ⟨t,ht,_⟩;simp at ht)
  rw [if_neg (by simpa using c3)]
  by_cases c4:(ix l k).1=4
  ·rw [if_pos (by simpa using c4)]
   have e:∀ x,Lg (Tr.mk ((ix l k).1,(ix l k).2.1,()) K) x↔LgS K x:=fun x=>by rw [zkc,if_neg c1,if_neg c2,if_neg c3,if_pos c4]
   have key:∀ (m j:Nat) (out:List Bool),K.length - j=m->j<=K.length->EOut w (LgS (K.take j)) f out->
     ∃ out',zes zg2 l k w (j:Int) out=some out'/\EOut w (Lg (Tr.mk ((ix l k).1,(ix l k).2.1,()) K)) f out':=by
    intro m
    induction m with
    | zero=>
     intro j out hm hj h;obtain rfl:j=K.length:=by omega
     rw [List.take_length] at h;refine ⟨out,?_,h.1,fun q hq => ?_⟩
     ·rw [zl7];unfold zc8;rw [if_neg (by simp;omega)]
      rfl
     ·rw [h.2 q hq];constructor
      ·rintro ⟨i,i1,i2,i3⟩;exact ⟨i,i1,i2,(e _).2 i3⟩
      ·rintro ⟨i,i1,i2,i3⟩;exact ⟨i,i1,i2,(e _).1 i3⟩
    | succ m ihm=>
     intro j out hm hj h;obtain ⟨y,y1,y2,y3⟩:=ih _ _ out (by omega) (hkn (j:Int) (by omega) (by omega)) (ha.get (j:Int) (by omega) (by omega)) h.1
     have et:=zqt (l:=K) (i:=(j:Int)) (by omega) (by omega)
     rw [Int.toNat_natCast,show ((j:Int)+1).toNat=j+1 from by omega] at et
     obtain ⟨o2,f1,f2⟩:=ihm (j+1) y (by omega) (by omega) ⟨y2,fun q hq=>by
      rw [y3 q hq];constructor
      ·rintro ⟨i,i1,i2,i3⟩;obtain ⟨i0,j1,j2,j3⟩:=(h.2 i (by omega)).1 i2
       refine ⟨i0,by omega,j2,?_⟩
       rw [et,zle];exact ⟨_,_,(zvy j1 i1).symm,j3,i3⟩
      ·rintro ⟨i0,j1,j2,j3⟩;rw [et,zle] at j3;obtain ⟨u,x,eq,k1,k2⟩:=j3;obtain ⟨s1,s2,s3⟩:=zut j1 hq eq;exact ⟨i0+u.length,s1,(h.2 _ (by omega)).2 ⟨i0,by omega,j2,by rw [<- s2];exact k1⟩,by rw [<- s3];exact k2⟩⟩
     have hjj:(j:Int)<=100000:=by
      have:tszL K<=n:=by rw [tsz] at hn;omega
      have:=zpR K ha.pos;omega
     refine ⟨o2,?_,f2⟩
     rw [zl7];unfold zc8;rw [if_pos (by simp;omega),zak (by omega)]
     exact zao y1 (G_to (by unfold fits;omega) f1)
   exact key _ 0 f rfl (by omega) ⟨hf,fun q hq=>by
    constructor
    ·intro h;exact ⟨q,Nat.le_refl _,h,sub_self⟩
    ·rintro ⟨i,i1,i2,i3⟩;have i3:sub w i q=[]:=i3;have:=congrArg List.length i3;unfold sub at this;rw [List.length_take,List.length_drop,List.length_nil] at this;obtain rfl:i=q:=by omega
     exact i2⟩
  rw [if_neg (by simpa using c4)]
  by_cases c5:(ix l k).1=5
  ·rw [if_pos (by simpa using c5)]
   have hk1:(ix l k).2.2.1.length=1:=by
    unfold wfN at hwf;omega
   obtain ⟨t0,rfl⟩:∃ t0,K=[t0]:=by
    match K,hKl with
    | [t0],_=>exact ⟨t0,rfl⟩
    | [],h=>simp at h;omega
    | _::_::_,h=>simp at h;omega
   have e:∀ x,Lg (Tr.mk ((ix l k).1,(ix l k).2.1,()) [t0]) x↔St (Lg t0) x:=fun x=>by rw [zkc,if_neg c1,if_neg c2,if_neg c3,if_neg c4,if_pos c5];rfl
   have key:∀ (m:Nat) (out:List Bool),((List.range (w.length+1)).map (fun q:Nat=>if ix out (q:Int)=true then 0 else 1)).sum=m->out.length=w.length+1->(∀ q:Nat,q<=w.length->ix f (q:Int)=true->ix out (q:Int)=true)->(∀ q:Nat,q<=w.length->ix out (q:Int)=true->En w (St (Lg t0)) f q)->
     ∃ out',zcQ zg2 l k w true out=some out'/\EOut w (Lg (Tr.mk ((ix l k).1,(ix l k).2.1,()) [t0])) f out':=by
    intro m
    induction m using Nat.strongRecOn with
    | ind m ihm=>
     intro out hm hl hlo hup;obtain ⟨y,y1,y2,y3⟩:=ih _ _ out (by omega) (hkn 0 (by omega) (by simp)) (ha.get 0 (by omega) (by simp)) hl
     have y3:∀ j:Nat,j<=w.length->(ix y (j:Int)=true↔En w (Lg t0) out j):=y3;obtain ⟨out',ag,e1,e2,e3,e4⟩:=zza (r29:=zcQ zg2 l k w) (y:=y) (by omega) _ 0 false out rfl (by omega) (by omega)
     have hup':∀ q:Nat,q<=w.length->ix out' (q:Int)=true->En w (St (Lg t0)) f q:=fun q hq h=>by
      rcases (e3 q (by omega) (by omega)).1 h with h | ⟨_,h⟩
      ·exact hup q hq h
      ·obtain ⟨i,i1,i2,i3⟩:=(y3 q hq).1 h;obtain ⟨i0,j1,j2,j3⟩:=hup i (by omega) i2
       refine ⟨i0,by omega,j2,?_⟩
       rw [<- zvy j1 i1];exact zAd j3 i3
     have st:zcQ zg2 l k w true out=zcQ zg2 l k w ag out':=by
      conv=>lhs;rw [zl8];unfold zc9
      rw [if_pos rfl,zak (by omega)]
      exact zao y1 e1
     cases ag with
     | true=>
      obtain ⟨q,q0,q1,q2,q3⟩:=(e4.1 rfl).resolve_left (by simp)
      have hlt:((List.range (w.length+1)).map (fun q:Nat=>if ix out' (q:Int)=true then 0 else 1)).sum < m:=by
       rw [<- hm];refine zAa (fun x hx => ?_) ⟨q.toNat,List.mem_range.2 (by omega),?_⟩
       ·have hx:=List.mem_range.1 hx;by_cases c:ix out (x:Int)=true
        ·rw [if_pos ((e3 x (by omega) (by omega)).2 (.inl c))];omega
        ·rw [if_neg c];split<;>omega
       ·have eq:((q.toNat:Nat):Int)=q:=by omega
        rw [eq,if_pos ((e3 q (by omega) (by omega)).2 (.inr ⟨by omega,q2⟩)),q3]
        simp
      obtain ⟨o2,f1,f2⟩:=ihm _ hlt out' rfl (by omega) (fun q hq h=>(e3 q (by omega) (by omega)).2 (.inl (hlo q hq h))) hup'
      exact ⟨o2,st.trans f1,f2⟩
     | false=>
      refine ⟨out',st.trans ?_,by omega,fun q hq => ?_⟩
      ·rw [zl8];unfold zc9;rw [if_neg (by simp)]
       rfl
      ·have hno:∀ q:Nat,q<=w.length->ix y (q:Int)=true->ix out (q:Int)=true:=fun q hq h=>by
        cases hc:ix out (q:Int) with
        | true=>rfl
        | false=>
         have:=e4.2 (.inr ⟨q,by omega,by omega,h,hc⟩)
         cases this
       constructor
       ·intro h;obtain ⟨i,i1,i2,i3⟩:=hup' q hq h;exact ⟨i,i1,i2,(e _).2 i3⟩
       ·rintro ⟨i,i1,i2,i3⟩;refine (e3 q (by omega) (by omega)).2 (.inl ?_)
        have i3:=(e _).1 i3;have cl:∀ x,St (Lg t0) x->∀ i:Nat,i<=q->x=sub w i q->ix out (i:Int)=true->ix out (q:Int)=true:=by
         intro x hx
         induction hx with
         | nil=>
          intro i hi hx h;have:=congrArg List.length hx;unfold sub at this;rw [List.length_take,List.length_drop,List.length_nil] at this;obtain rfl:i=q:=by omega
          exact h
         | cons u x hu hx ihx=>
          intro i hi hux h;obtain ⟨s1,s2,s3⟩:=zut hi hq hux.symm;refine ihx (i+u.length) s1 s3 ?_
          exact hno _ (by omega) ((y3 _ (by omega)).2 ⟨i,by omega,h,by rw [<- s2];exact hu⟩)
        exact cl _ i3 i i1 rfl (hlo i (by omega) i2)
   exact key _ f rfl hf (fun q _ h=>h) (fun q hq h=>⟨q,Nat.le_refl _,h,by rw [sub_self];exact .nil⟩)
  rw [if_neg (by simpa using c5)]
  refine ⟨_,rfl,by simp;omega,fun j hj => ?_⟩
  rw [zcy (by omega) (by omega)]
  constructor
  ·intro h;cases h
  ·rintro ⟨i,_,_,h3⟩;rw [zkc,if_neg c1,if_neg c2,if_neg c3,if_neg c4,if_neg c5] at h3;exact h3.elim
end
abbrev EN:=Bool×List Int×List Int×Unit
def Pt (L:List Int) (N:List (List Int)):Int->List Int->Int->Prop
 | p,[],q=>p=q
 | p,a::w,q=>∃ r∈ix N p,ix L r=a/\Pt L N r w q
def Ac (L:List Int) (N:List (List Int)) (f la:List Int) (w:List Int):Prop:=∃ a w',w=a::w'/\∃ p∈f,ix L p=a/\∃ q∈la,Pt L N p w' q
def LE (L:List Int) (N:List (List Int)) (e:EN) (w:List Int):Prop:=(w=[]/\e.1=true)\/Ac L N e.2.1 e.2.2.1 w
theorem Pt.rng {L:List Int} {N:List (List Int)} {n0 n1:Int} (hb:∀ p,n0<=p->p < n1->∀ q∈ix N p,n0<=q/\q < n1):∀ {w:List Int} {p q:Int},n0<=p/\p < n1->Pt L N p w q->n0<=q/\q < n1
 | [],p,q,hp,h=>by
  have h:p=q:=h;subst h;exact hp
 | a::w,p,q,hp,h=>by
  obtain ⟨r,hr,_,h2⟩:=h;exact Pt.rng hb (hb p hp.1 hp.2 r hr) h2
theorem Pt.cong {L L':List Int} {N N':List (List Int)} {n0 n1:Int} (hb:∀ p,n0<=p->p < n1->∀ q∈ix N p,n0<=q/\q < n1) (hN:∀ p,n0<=p->p < n1->ix N' p=ix N p) (hL:∀ p,n0<=p->p < n1->ix L' p=ix L p):∀ {w:List Int} {p q:Int},n0<=p/\p < n1->(Pt L' N' p w q↔Pt L N p w q)
 | [],p,q,hp=>Iff.rfl
 | a::w,p,q,hp=>by
  show (∃ r∈ix N' p,_)↔(∃ r∈ix N p,_);rw [hN p hp.1 hp.2];refine exists_congr fun r=>and_congr_right fun hr => ?_
  have hr2:=hb p hp.1 hp.2 r hr;rw [hL r hr2.1 hr2.2,Pt.cong hb hN hL hr2]
theorem LE.cong {L L':List Int} {N N':List (List Int)} {n0 n1:Int} {e:EN} (hf:∀ p∈e.2.1,n0<=p/\p < n1) (hb:∀ p,n0<=p->p < n1->∀ q∈ix N p,n0<=q/\q < n1) (hN:∀ p,n0<=p->p < n1->ix N' p=ix N p) (hL:∀ p,n0<=p->p < n1->ix L' p=ix L p) {w:List Int}:LE L' N' e w↔LE L N e w:=by
 unfold LE Ac;refine or_congr Iff.rfl (exists_congr fun a=>exists_congr fun w'=>and_congr_right fun _=>exists_congr fun p=>and_congr_right fun hp => ?_)
 have hp2:=hf p hp;rw [hL p hp2.1 hp2.2];refine and_congr_right fun _=>exists_congr fun q=>and_congr_right fun _=>Pt.cong hb hN hL hp2
theorem zwl {last first L:List Int} {N:List (List Int)} (hlast:∀ p∈last,0<=p/\p < N.length) (hl:last.length<=20000) (hf:first.length<=20000) (hN:∀ p∈last,(ix N p).length<=8000000000000):
  ∃ N',zdC last first L N=some (L,N')/\N'.length=N.length/\(∀ p q:Int,0<=p->p < N.length->(q∈ix N' p↔q∈ix N p\/(p∈last/\q∈first)))/\(∀ p:Int,0<=p->p < N.length->p∉last->ix N' p=ix N p)/\(∀ p:Int,0<=p->p < N.length->(ix N' p).length<=(ix N p).length+last.length * first.length):=by
 have key:∀ (f n:Nat) (M:List (List Int)),last.length - n=f->n<=last.length->M.length=N.length->(∀ p∈last,(ix M p).length+f * first.length<=9000000000000)->
   ∃ N',zaT last first (n:Int) L M=some (L,N')/\N'.length=M.length/\(∀ p q:Int,0<=p->p < M.length->(q∈ix N' p↔q∈ix M p\/(p∈last.drop n/\q∈first)))/\(∀ p:Int,0<=p->p < M.length->p∉last.drop n->ix N' p=ix M p)/\(∀ p:Int,0<=p->p < M.length->(ix N' p).length<=(ix M p).length+f * first.length):=by
  intro f
  induction f with
  | zero=>
   intro n M hf hn hM hb;obtain rfl:n=last.length:=by omega
   refine ⟨M,?_,rfl,fun p q _ _=>by simp,fun _ _ _ _=>rfl,fun p _ _=>by omega⟩
   rw [zeG];unfold zaX;rw [if_neg (by simp)]
  | succ f ih=>
   intro n M hf' hn hM hb;have hm:=zb9 (l:=last) (i:=(n:Int)) (by omega) (by omega)
   obtain ⟨a,ea⟩:∃ a,ix last (n:Int)=a:=⟨_,rfl⟩;rw [ea] at hm;have ha:=hlast a hm;have hba:=hb a hm;rw [Nat.succ_mul] at hba;have ed:last.drop n=a::last.drop (n+1):=by
    rw [<- ea,zhf (l:=last) (i:=(n:Int)) (by omega) (by omega)]
    simp
   have hset:∀ p:Int,0<=p->p < M.length->ix (M.set a.toNat (ix M a++first)) p=if p=a then ix M a++first else ix M p:=fun p p0 p1=>by
    by_cases c:p=a
    ·subst c;rw [if_pos rfl,zaI p0 p1]
    ·rw [if_neg c,za9 ha.1 p0 (fun h=>c h.symm)]
   obtain ⟨N',e1,e2,e3,e4,e5⟩:=ih (n+1) (M.set a.toNat (ix M a++first)) (by omega) (by omega) (by rw [List.length_set];exact hM) (fun p hp=>by
    have hp2:=hlast p hp;have:=hb p hp;rw [Nat.succ_mul] at this;rw [hset p hp2.1 (by omega)]
    split
    ·rename_i h;subst h;rw [List.length_append];omega
    ·omega)
   rw [List.length_set] at e2 e3 e4 e5;have st:zaT last first (n:Int) L M=zaT last first ((n:Int)+1) L (M.set a.toNat (ix M a++first)):=by
    conv=>lhs;rw [zeG];unfold zaX
    rw [if_pos (by simp;omega),ea]
    refine G_to (by omega) (G_to (by omega) (G_to (by omega) ?_))
    have fin:G (a.toNat < M.length) (G (room (ix M a) first 8) (G (0<=a/\a < (M.length:Int)) (G (a.toNat=a.toNat) (zba (n:Int) (zaT last first) L (M.set a.toNat (ix M a++first))))))=zaT last first ((n:Int)+1) L (M.set a.toNat (ix M a++first)):=by
     unfold zba;exact G_to (by omega) (G_to (by unfold room;omega) (G_to (by omega) (G_to rfl (G_to (by unfold fits;omega) rfl))))
    exact zgh fin fin
   refine ⟨N',st.trans e1,e2,fun p q p0 p1 => ?_,fun p p0 p1 hp => ?_,fun p p0 p1 => ?_⟩
   ·rw [e3 p q p0 p1,hset p p0 p1,ed,List.mem_cons];by_cases c:p=a
    ·subst c;rw [if_pos rfl,List.mem_append];constructor
     ·rintro ((h | h) | ⟨_,h⟩)
      ·exact .inl h
      ·exact .inr ⟨.inl rfl,h⟩
      ·exact .inr ⟨.inl rfl,h⟩
     ·rintro (h | ⟨_,h⟩)
      ·exact .inl (.inl h)
      ·exact .inl (.inr h)
    ·rw [if_neg c];exact or_congr Iff.rfl (and_congr ⟨.inr,fun h=>h.resolve_left c⟩ Iff.rfl)
   ·rw [ed,List.mem_cons] at hp;rw [e4 p p0 p1 (fun h=>hp (.inr h)),hset p p0 p1,if_neg (fun h=>hp (.inl h))]
   ·have:=e5 p p0 p1;rw [hset p p0 p1] at this;rw [Nat.succ_mul]
    split at this
    ·rename_i h;subst h;rw [List.length_append] at this;omega
    ·omega
 have hmul:last.length * first.length<=20000 * 20000:=Nat.mul_le_mul hl hf;obtain ⟨N',e1,e2,e3,e4,e5⟩:=key _ 0 N rfl (by omega) rfl (fun p hp=>by have:=hN p hp;rw [Nat.sub_zero];omega)
 exact ⟨N',e1,e2,e3,e4,e5⟩
structure GQ (P:List Int->Prop) (V:List Int) (L0:List Int) (N0:List (List Int)) (e:EN) (L1:List Int) (N1:List (List Int)):Prop where
 lp:L1=L0++V
 ll:N1.length=L1.length
 np:∀ p:Int,0<=p->p < L0.length->ix N1 p=ix N0 p
 fb:∀ p∈e.2.1,(L0.length:Int)<=p/\p < L1.length
 lb:∀ p∈e.2.2.1,(L0.length:Int)<=p/\p < L1.length
 nb:∀ p:Int,(L0.length:Int)<=p->p < L1.length->∀ q∈ix N1 p,(L0.length:Int)<=q/\q < L1.length
 lg:∀ w,P w↔LE L1 N1 e w
structure GL (P:List Int->Prop) (V:List Int) (s:Nat) (L0:List Int) (N0:List (List Int)) (e:EN) (L1:List Int) (N1:List (List Int)):Prop extends GQ P V L0 N0 e L1 N1 where
 sz:L1.length<=L0.length+s
 fl:e.2.1.length<=s
 tl:e.2.2.1.length<=s
 nl:∀ p:Int,(L0.length:Int)<=p->p < L1.length->(ix N1 p).length<=400000000 * s
section
variable {P Q:List Int->Prop} {V V':List Int} {s s':Nat} {L0 L L':List Int} {N0 N N':List (List Int)} {e f:EN}
theorem GQ.pre (h:GQ P V L0 N0 e L N):(L0.length:Int)<=L.length/\∀ p:Int,0<=p->p < L0.length->ix L p=ix L0 p:=by
 obtain rfl:=h.lp;exact ⟨by rw [List.length_append];omega,fun p p0 p1=>zan p0 p1⟩
theorem GQ.of (h:GQ P V L0 N0 e L N) (hq:∀ w,Q w↔P w) (hv:V'=V):GQ Q V' L0 N0 e L N:=
 ⟨by rw [hv];exact h.lp,h.ll,h.np,h.fb,h.lb,h.nb,fun w=>(hq w).trans (h.lg w)⟩
theorem GL.of (h:GL P V s L0 N0 e L N) (hs:s<=s') (hq:∀ w,Q w↔P w) (hv:V'=V):GL Q V' s' L0 N0 e L N:=
 ⟨h.toGQ.of hq hv,by have:=h.sz;omega,by have:=h.fl;omega,by have:=h.tl;omega,fun p a b=>by have:=h.nl p a b;have:=Nat.mul_le_mul_left 400000000 hs;omega⟩
theorem GQ.alt (h:GQ P V L0 N0 e L N) (k:GQ Q V' L N f L' N'):GQ (fun w=>P w\/Q w) (V++V') L0 N0 (e.1 || f.1,e.2.1++f.2.1,e.2.2.1++f.2.2.1,()) L' N':=by
 obtain ⟨h1,h2⟩:=h.pre;obtain ⟨k1,k2⟩:=k.pre;have hkn:∀ p:Int,(L0.length:Int)<=p->p < L.length->ix N' p=ix N p:=fun p a b=>k.np p (by omega) b
 have hkl:∀ p:Int,(L0.length:Int)<=p->p < L.length->ix L' p=ix L p:=fun p a b=>k2 p (by omega) b
 refine ⟨?_,k.ll,fun p a b=>(k.np p a (by omega)).trans (h.np p a b),fun p hp => ?_,fun p hp => ?_,fun p a b q hq => ?_,fun w => ?_⟩
 ·rw [k.lp,h.lp,List.append_assoc]
 ·rcases List.mem_append.1 hp with hp | hp
  ·have:=h.fb p hp;omega
  ·have:=k.fb p hp;omega
 ·rcases List.mem_append.1 hp with hp | hp
  ·have:=h.lb p hp;omega
  ·have:=k.lb p hp;omega
 ·by_cases c:p < L.length
  ·rw [hkn p a c] at hq;have:=h.nb p a c q hq;omega
  ·have:=k.nb p (by omega) b q hq;omega
 ·rw [h.lg w,k.lg w,<- LE.cong h.fb h.nb hkn hkl (w:=w)];constructor
  ·rintro ((⟨h3,h4⟩ | ⟨a,w',h3,p,h4,h5,q,h6,h7⟩) | (⟨h3,h4⟩ | ⟨a,w',h3,p,h4,h5,q,h6,h7⟩))
   ·exact .inl ⟨h3,by show (e.1 || f.1)=true;rw [h4];rfl⟩
   ·exact .inr ⟨a,w',h3,p,List.mem_append_left _ h4,h5,q,List.mem_append_left _ h6,h7⟩
   ·exact .inl ⟨h3,by show (e.1 || f.1)=true;rw [h4];simp⟩
   ·exact .inr ⟨a,w',h3,p,List.mem_append_right _ h4,h5,q,List.mem_append_right _ h6,h7⟩
  ·rintro (⟨h3,h4⟩ | ⟨a,w',h3,p,h4,h5,q,h6,h7⟩)
   ·have h4:(e.1 || f.1)=true:=h4
    rw [Bool.or_eq_true] at h4;rcases h4 with h4 | h4
    ·exact .inl (.inl ⟨h3,h4⟩)
    ·exact .inr (.inl ⟨h3,h4⟩)
   ·rcases List.mem_append.1 h4 with h4 | h4
    ·have hp:=h.fb p h4;have hq:=Pt.rng h.nb hp ((Pt.cong h.nb hkn hkl hp).1 h7);rcases List.mem_append.1 h6 with h6 | h6
     ·exact .inl (.inr ⟨a,w',h3,p,h4,h5,q,h6,h7⟩)
     ·have:=k.lb q h6;omega
    ·have hp:=k.fb p h4;have hq:=Pt.rng k.nb hp h7;rcases List.mem_append.1 h6 with h6 | h6
     ·have:=h.lb q h6;omega
     ·exact .inr (.inr ⟨a,w',h3,p,h4,h5,q,h6,h7⟩)
theorem GL.alt (h:GL P V s L0 N0 e L N) (k:GL Q V' s' L N f L' N'):GL (fun w=>P w\/Q w) (V++V') (s+s') L0 N0 (e.1 || f.1,e.2.1++f.2.1,e.2.2.1++f.2.2.1,()) L' N':=by
 obtain ⟨h1,h2⟩:=h.pre;have m1:=Nat.mul_le_mul_left 400000000 (show s<=s+s' by omega)
 have m2:=Nat.mul_le_mul_left 400000000 (show s'<=s+s' by omega)
 refine ⟨h.toGQ.alt k.toGQ,by have:=h.sz;have:=k.sz;omega,?_,?_,fun p a b => ?_⟩
 ·show (e.2.1++f.2.1).length<=_;rw [List.length_append];have:=h.fl;have:=k.fl;omega
 ·show (e.2.2.1++f.2.2.1).length<=_;rw [List.length_append];have:=h.tl;have:=k.tl;omega
 ·by_cases c:p < L.length
  ·rw [k.np p (by omega) c]
   have:=h.nl p a c;omega
  ·have:=k.nl p (by omega) b;omega
theorem GQ.row (h:GQ P V L0 N0 e L N) (k:GQ Q V' L N f L' N') {N2:List (List Int)} (n1:N2.length=N'.length) (n2:∀ p q:Int,0<=p->p < N'.length->(q∈ix N2 p↔q∈ix N' p\/(p∈e.2.2.1/\q∈f.2.1))) (n3:∀ p:Int,0<=p->p < N'.length->p∉e.2.2.1->ix N2 p=ix N' p) {fi la:List Int} (hfi:∀ p,p∈fi↔p∈e.2.1\/(e.1=true/\p∈f.2.1)) (hla:∀ p,p∈la↔p∈f.2.2.1\/(f.1=true/\p∈e.2.2.1)):
  GQ (fun w=>∃ u x,w=u++x/\P u/\Q x) (V++V') L0 N0 (e.1 && f.1,fi,la,()) L' N2:=by
 obtain ⟨h1,h2⟩:=h.pre;obtain ⟨k1,k2⟩:=k.pre;have hll:=k.ll;have hkn:∀ p:Int,(L0.length:Int)<=p->p < L.length->ix N' p=ix N p:=fun p a b=>k.np p (by omega) b
 have hkl:∀ p:Int,(L0.length:Int)<=p->p < L.length->ix L' p=ix L p:=fun p a b=>k2 p (by omega) b
 have hk2:∀ p:Int,(L.length:Int)<=p->p < L'.length->ix N2 p=ix N' p:=fun p a b=>n3 p (by omega) (by omega) (fun hh=>by have:=h.lb p hh;omega)
 have hkc:∀ {w:List Int} {p q:Int},(L.length:Int)<=p/\p < L'.length->(Pt L' N2 p w q↔Pt L' N' p w q):=fun {w p q} hp=>Pt.cong k.nb hk2 (fun _ _ _=>rfl) hp
 have path:∀ (w:List Int) (p q:Int),(L0.length:Int)<=p/\p < L.length->(Pt L' N2 p w q↔Pt L N p w q\/∃ u a x pe pf,w=u++a::x/\pe∈e.2.2.1/\Pt L N p u pe/\pf∈f.2.1/\ix L' pf=a/\Pt L' N' pf x q):=by
  intro w
  induction w with
  | nil=>
   intro p q hp;constructor
   ·intro h;exact .inl h
   ·rintro (h | ⟨u,a,x,pe,pf,h,_⟩)
    ·exact h
    ·have:=congrArg List.length h;rw [List.length_append] at this;simp at this
  | cons a w ih=>
   intro p q hp;have hrow:∀ r,r∈ix N2 p↔r∈ix N p\/(p∈e.2.2.1/\r∈f.2.1):=fun r=>by rw [n2 p r (by omega) (by omega),hkn p hp.1 hp.2]
   constructor
   ·rintro ⟨r,h3,h4,h5⟩;rcases (hrow r).1 h3 with h3 | ⟨h3,h6⟩
    ·have hr:=h.nb p hp.1 hp.2 r h3;rw [hkl r hr.1 hr.2] at h4;rcases (ih r q hr).1 h5 with h5 | ⟨u,b,x,pe,pf,rfl,g1,g2,g3,g4,g5⟩
     ·exact .inl ⟨r,h3,h4,h5⟩
     ·exact .inr ⟨a::u,b,x,pe,pf,rfl,g1,⟨r,h3,h4,g2⟩,g3,g4,g5⟩
    ·exact .inr ⟨[],a,w,p,r,rfl,h3,rfl,h6,h4,(hkc (k.fb r h6)).1 h5⟩
   ·rintro (⟨r,h3,h4,h5⟩ | ⟨u,b,x,pe,pf,hw,g1,g2,g3,g4,g5⟩)
    ·have hr:=h.nb p hp.1 hp.2 r h3;exact ⟨r,(hrow r).2 (.inl h3),by rw [hkl r hr.1 hr.2];exact h4,(ih r q hr).2 (.inl h5)⟩
    ·cases u with
     | nil=>
      injection hw with hw1 hw2
      subst hw1 hw2;have g2:p=pe:=g2;subst g2;exact ⟨pf,(hrow pf).2 (.inr ⟨g1,g3⟩),g4,(hkc (k.fb pf g3)).2 g5⟩
     | cons c u=>
      injection hw with hw1 hw2
      subst hw1 hw2;obtain ⟨r,h3,h4,h5⟩:=g2;have hr:=h.nb p hp.1 hp.2 r h3;exact ⟨r,(hrow r).2 (.inl h3),by rw [hkl r hr.1 hr.2];exact h4,(ih r q hr).2 (.inr ⟨u,b,x,pe,pf,rfl,g1,h5,g3,g4,g5⟩)⟩
 refine ⟨?_,by omega,fun p a b => ?_,fun p hp => ?_,fun p hp => ?_,fun p a b q hq => ?_,fun w => ?_⟩
 ·rw [k.lp,h.lp,List.append_assoc]
 ·rw [n3 p a (by omega) (fun hh=>by have:=h.lb p hh;omega)]
  exact (k.np p a (by omega)).trans (h.np p a b)
 ·rcases (hfi p).1 hp with hp | ⟨_,hp⟩
  ·have:=h.fb p hp;omega
  ·have:=k.fb p hp;omega
 ·rcases (hla p).1 hp with hp | ⟨_,hp⟩
  ·have:=k.lb p hp;omega
  ·have:=h.lb p hp;omega
 ·rcases (n2 p q (by omega) (by omega)).1 hq with hq | ⟨_,hq⟩
  ·by_cases c:p < L.length
   ·rw [hkn p a c] at hq;have:=h.nb p a c q hq;omega
   ·have:=k.nb p (by omega) b q hq;omega
  ·have:=k.fb q hq;omega
 ·have sp:(∃ u x,w=u++x/\P u/\Q x)↔∃ u x,w=u++x/\LE L N e u/\LE L' N' f x:=by
   refine exists_congr fun u=>exists_congr fun x=>and_congr_right fun _ => ?_
   rw [h.lg u,k.lg x]
  rw [sp];constructor
  ·rintro ⟨u,x,rfl,(⟨rfl,h4⟩ | ⟨a,u',rfl,p,h4,h5,q,h6,h7⟩),(⟨rfl,g4⟩ | ⟨b,x',rfl,p2,g4,g5,q2,g6,g7⟩)⟩
   ·exact .inl ⟨rfl,by show (e.1 && f.1)=true;rw [h4,g4];rfl⟩
   ·exact .inr ⟨b,x',rfl,p2,(hfi p2).2 (.inr ⟨h4,g4⟩),g5,q2,(hla q2).2 (.inl g6),(hkc (k.fb p2 g4)).2 g7⟩
   ·have hp:=h.fb p h4;rw [List.append_nil];exact .inr ⟨a,u',rfl,p,(hfi p).2 (.inl h4),by rw [hkl p hp.1 hp.2];exact h5,q,(hla q).2 (.inr ⟨g4,h6⟩),(path u' p q hp).2 (.inl h7)⟩
   ·have hp:=h.fb p h4;exact .inr ⟨a,u'++b::x',rfl,p,(hfi p).2 (.inl h4),by rw [hkl p hp.1 hp.2];exact h5,q2,(hla q2).2 (.inl g6),(path _ p q2 hp).2 (.inr ⟨u',b,x',q,p2,rfl,h6,h7,g4,g5,g7⟩)⟩
  ·rintro (⟨rfl,h4⟩ | ⟨a,w',rfl,p,h4,h5,q,h6,h7⟩)
   ·have h4:(e.1 && f.1)=true:=h4;rw [Bool.and_eq_true] at h4;obtain ⟨h4,h5⟩:=h4;exact ⟨[],[],rfl,.inl ⟨rfl,h4⟩,.inl ⟨rfl,h5⟩⟩
   ·rcases (hfi p).1 h4 with h4 | ⟨h4,h8⟩
    ·have hp:=h.fb p h4;rw [hkl p hp.1 hp.2] at h5;rcases (path w' p q hp).1 h7 with h7 | ⟨u,b,x,pe,pf,rfl,g1,g2,g3,g4,g5⟩
     ·have hq:=Pt.rng h.nb hp h7;rcases (hla q).1 h6 with h6 | ⟨h6,h9⟩
      ·have:=k.lb q h6;omega
      ·exact ⟨a::w',[],by simp,.inr ⟨a,w',rfl,p,h4,h5,q,h9,h7⟩,.inl ⟨rfl,h6⟩⟩
     ·have hq:=Pt.rng k.nb (k.fb pf g3) g5;rcases (hla q).1 h6 with h6 | ⟨h6,h9⟩
      ·exact ⟨a::u,b::x,by simp,.inr ⟨a,u,rfl,p,h4,h5,pe,g1,g2⟩,.inr ⟨b,x,rfl,pf,g3,g4,q,h6,g5⟩⟩
      ·have:=h.lb q h9;omega
    ·have hp:=k.fb p h8;have h7:=(hkc hp).1 h7;have hq:=Pt.rng k.nb hp h7;rcases (hla q).1 h6 with h6 | ⟨h6,h9⟩
     ·exact ⟨[],a::w',rfl,.inl ⟨rfl,h4⟩,.inr ⟨a,w',rfl,p,h8,h5,q,h6,h7⟩⟩
     ·have:=h.lb q h9;omega
theorem GL.row (h:GL P V s L0 N0 e L N) (k:GL Q V' s' L N f L' N') (hs:s<=20000) (hs':s'<=20000) (hs1:1<=s') {N2:List (List Int)} (n1:N2.length=N'.length) (n2:∀ p q:Int,0<=p->p < N'.length->(q∈ix N2 p↔q∈ix N' p\/(p∈e.2.2.1/\q∈f.2.1))) (n3:∀ p:Int,0<=p->p < N'.length->p∉e.2.2.1->ix N2 p=ix N' p) (n4:∀ p:Int,0<=p->p < N'.length->(ix N2 p).length<=(ix N' p).length+e.2.2.1.length * f.2.1.length) {fi la:List Int} (hfi:∀ p,p∈fi↔p∈e.2.1\/(e.1=true/\p∈f.2.1)) (hla:∀ p,p∈la↔p∈f.2.2.1\/(f.1=true/\p∈e.2.2.1)) (lfi:fi.length<=s+s') (lla:la.length<=s+s'):
  GL (fun w=>∃ u x,w=u++x/\P u/\Q x) (V++V') (s+s') L0 N0 (e.1 && f.1,fi,la,()) L' N2:=by
 obtain ⟨h1,h2⟩:=h.pre;have hll:=k.ll;have hmul:e.2.2.1.length * f.2.1.length<=20000 * 20000:=Nat.mul_le_mul (by have:=h.tl;omega) (by have:=k.fl;omega)
 refine ⟨h.toGQ.row k.toGQ n1 n2 n3 hfi hla,by have:=h.sz;have:=k.sz;omega,lfi,lla,fun p a b => ?_⟩
 have h4:=n4 p (by omega) (by omega)
 by_cases c:p < L.length
 ·rw [k.np p (by omega) c] at h4
  have:=h.nl p a c;omega
 ·rw [n3 p (by omega) (by omega) (fun hh=>by have:=h.lb p hh;omega)]
  have:=k.nl p (by omega) b;omega
theorem GQ.star (h:GQ P V L0 N0 e L N) {N2:List (List Int)} (n1:N2.length=N.length) (n2:∀ p q:Int,0<=p->p < N.length->(q∈ix N2 p↔q∈ix N p\/(p∈e.2.2.1/\q∈e.2.1))) (n3:∀ p:Int,0<=p->p < N.length->p∉e.2.2.1->ix N2 p=ix N p):
  GQ (St P) V L0 N0 (true,e.2.1,e.2.2.1,()) L N2:=by
 obtain ⟨h1,h2⟩:=h.pre;have hll:=h.ll;have up:∀ (w:List Int) (p q:Int),(L0.length:Int)<=p/\p < L.length->Pt L N p w q->Pt L N2 p w q:=by
  intro w
  induction w with
  | nil=>intro p q _ h;exact h
  | cons a w ih=>
   rintro p q hp ⟨r,h3,h4,h5⟩;have hr:=h.nb p hp.1 hp.2 r h3;exact ⟨r,(n2 p r (by omega) (by omega)).2 (.inl h3),h4,ih r q hr h5⟩
 have join:∀ (w:List Int) (p q:Int) (b:Int) (x:List Int) (pf q2:Int),(L0.length:Int)<=p/\p < L.length->Pt L N p w q->q∈e.2.2.1->pf∈e.2.1->ix L pf=b->Pt L N2 pf x q2->Pt L N2 p (w++b::x) q2:=by
  intro w
  induction w with
  | nil=>
   intro p q b x pf q2 hp hq hq2 hpf hb hx;have hq:p=q:=hq;subst hq;exact ⟨pf,(n2 p pf (by omega) (by omega)).2 (.inr ⟨hq2,hpf⟩),hb,hx⟩
  | cons a w ih=>
   rintro p q b x pf q2 hp ⟨r,h3,h4,h5⟩ hq2 hpf hb hx;have hr:=h.nb p hp.1 hp.2 r h3;exact ⟨r,(n2 p r (by omega) (by omega)).2 (.inl h3),h4,ih r q b x pf q2 hr h5 hq2 hpf hb hx⟩
 have cut:∀ (w:List Int) (p q:Int),(L0.length:Int)<=p/\p < L.length->q∈e.2.2.1->Pt L N2 p w q->∃ u x pe,w=u++x/\pe∈e.2.2.1/\Pt L N p u pe/\St P x:=by
  intro w
  induction w with
  | nil=>
   intro p q hp hq h3;have h3:p=q:=h3;subst h3;exact ⟨[],[],p,rfl,hq,rfl,.nil⟩
  | cons a w ih=>
   rintro p q hp hq ⟨r,h3,h4,h5⟩;rcases (n2 p r (by omega) (by omega)).1 h3 with h3 | ⟨h3,h6⟩
   ·obtain ⟨u,x,pe,rfl,g1,g2,g3⟩:=ih r q (h.nb p hp.1 hp.2 r h3) hq h5;exact ⟨a::u,x,pe,rfl,g1,⟨r,h3,h4,g2⟩,g3⟩
   ·obtain ⟨u,x,pe,rfl,g1,g2,g3⟩:=ih r q (h.fb r h6) hq h5;exact ⟨[],a::(u++x),p,rfl,h3,rfl,St.cons (a::u) x ((h.lg _).2 (.inr ⟨a,u,rfl,r,h6,h4,pe,g1,g2⟩)) g3⟩
 refine ⟨h.lp,by omega,fun p a b => ?_,h.fb,h.lb,fun p a b q hq => ?_,fun w => ?_⟩
 ·rw [n3 p a (by omega) (fun hh=>by have:=h.lb p hh;omega)]
  exact h.np p a b
 ·rcases (n2 p q (by omega) (by omega)).1 hq with hq | ⟨_,hq⟩
  ·exact h.nb p a b q hq
  ·exact h.fb q hq
 ·constructor
  ·intro hw;have key:∀ w,St P w->w=[]\/Ac L N2 e.2.1 e.2.2.1 w:=by
    intro w hw
    induction hw with
    | nil=>exact .inl rfl
    | cons u x hu hx ih=>
     rcases (h.lg u).1 hu with ⟨rfl,_⟩ | ⟨a,u',rfl,p,h4,h5,q,h6,h7⟩
     ·exact ih
     ·right
      have hp:=h.fb p h4;rcases ih with rfl | ⟨b,x',rfl,p2,g4,g5,q2,g6,g7⟩
      ·rw [List.append_nil];exact ⟨a,u',rfl,p,h4,h5,q,h6,up u' p q hp h7⟩
      ·exact ⟨a,u'++b::x',rfl,p,h4,h5,q2,g6,join u' p q b x' p2 q2 hp h7 h6 g4 g5 g7⟩
   exact (key w hw).imp (fun h=>⟨h,rfl⟩) id
  ·rintro (⟨rfl,_⟩ | ⟨a,w',rfl,p,h4,h5,q,h6,h7⟩)
   ·exact .nil
   ·obtain ⟨u,x,pe,rfl,g1,g2,g3⟩:=cut w' p q (h.fb p h4) h6 h7;exact St.cons (a::u) x ((h.lg _).2 (.inr ⟨a,u,rfl,p,h4,h5,pe,g1,g2⟩)) g3
theorem GL.star (h:GL P V s L0 N0 e L N) (hs:s<=20000) {N2:List (List Int)} (n1:N2.length=N.length) (n2:∀ p q:Int,0<=p->p < N.length->(q∈ix N2 p↔q∈ix N p\/(p∈e.2.2.1/\q∈e.2.1))) (n3:∀ p:Int,0<=p->p < N.length->p∉e.2.2.1->ix N2 p=ix N p) (n4:∀ p:Int,0<=p->p < N.length->(ix N2 p).length<=(ix N p).length+e.2.2.1.length * e.2.1.length):
  GL (St P) V (s+1) L0 N0 (true,e.2.1,e.2.2.1,()) L N2:=by
 obtain ⟨h1,h2⟩:=h.pre;have hll:=h.ll;have hmul:e.2.2.1.length * e.2.1.length<=20000 * 20000:=Nat.mul_le_mul (by have:=h.tl;omega) (by have:=h.fl;omega)
 refine ⟨h.toGQ.star n1 n2 n3,by have:=h.sz;omega,?_,?_,fun p a b => ?_⟩
 ·show e.2.1.length<=_;have:=h.fl;omega
 ·show e.2.2.1.length<=_;have:=h.tl;omega
 ·have h4:=n4 p (by omega) (by omega)
  have:=h.nl p a b;omega
end
theorem GQ.none (L0:List Int) (N0:List (List Int)) (hl:N0.length=L0.length):GQ (fun _=>False) [] L0 N0 (false,[],[],()) L0 N0:=
 ⟨by simp,hl,fun _ _ _=>rfl,fun p hp=>(by cases hp),fun p hp=>(by cases hp),fun p a b=>by omega,fun w=>⟨fun h=>h.elim,fun h=>by
  rcases h with ⟨_,h⟩ | ⟨a,w',_,p,h,_⟩
  ·cases h
  ·cases h⟩⟩
theorem GL.none (L0:List Int) (N0:List (List Int)) (hl:N0.length=L0.length):GL (fun _=>False) [] 0 L0 N0 (false,[],[],()) L0 N0:=
 ⟨GQ.none L0 N0 hl,by omega,by simp,by simp,fun p a b=>by omega⟩
theorem GQ.empty (L0:List Int) (N0:List (List Int)) (hl:N0.length=L0.length):GQ (fun w=>w=[]) [] L0 N0 (true,[],[],()) L0 N0:=
 ⟨by simp,hl,fun _ _ _=>rfl,fun p hp=>(by cases hp),fun p hp=>(by cases hp),fun p a b=>by omega,fun w=>⟨fun h => .inl ⟨h,rfl⟩,fun h=>by
  rcases h with ⟨h,_⟩ | ⟨a,w',_,p,h,_⟩
  ·exact h
  ·cases h⟩⟩
theorem GQ.letter {x:Int} (L0:List Int) (N0:List (List Int)) (hl:N0.length=L0.length):GQ (fun w=>w=[x]) [x] L0 N0 (false,[(L0.length:Int)],[(L0.length:Int)],()) (L0++[x]) (N0++[[]]):=by
 have hrow:ix (N0++[([]:List Int)]) (L0.length:Int)=[]:=by rw [<- hl,zau]
 have hlt:((L0++[x]).length:Int)=L0.length+1:=by rw [List.length_append,List.length_singleton];omega
 refine ⟨rfl,by simp [hl],fun p a b=>zan a (by omega),fun p hp => ?_,fun p hp => ?_,fun p a b q hq => ?_,fun w => ?_⟩
 ·rw [List.mem_singleton.1 hp];omega
 ·rw [List.mem_singleton.1 hp];omega
 ·obtain rfl:p=L0.length:=by omega
  rw [hrow] at hq;cases hq
 ·have hpt:∀ w' q,Pt (L0++[x]) (N0++[[]]) (L0.length:Int) w' q->w'=[]:=fun w' q h=>by
   cases w' with
   | nil=>rfl
   | cons a w'=>
    obtain ⟨r,hr,_⟩:=h;rw [hrow] at hr;cases hr
  constructor
  ·rintro rfl;exact .inr ⟨_,[],rfl,_,List.mem_singleton.2 rfl,zau,_,List.mem_singleton.2 rfl,rfl⟩
  ·rintro (⟨_,h⟩ | ⟨a,w',rfl,p,h,h3,q,h4,h5⟩)
   ·cases h
   ·have h:p∈[(L0.length:Int)]:=h;rw [List.mem_singleton.1 h] at h3 h5;rw [zau] at h3;rw [hpt w' q h5,h3]
theorem GQ.eqv {P:List Int->Prop} {V L0 L:List Int} {N0 N:List (List Int)} {e e':EN} (h:GQ P V L0 N0 e L N) (h1:e'.1=e.1) (hf:∀ p,p∈e'.2.1↔p∈e.2.1) (hl:∀ p,p∈e'.2.2.1↔p∈e.2.2.1):GQ P V L0 N0 e' L N:=by
 refine ⟨h.lp,h.ll,h.np,fun p hp=>h.fb p ((hf p).1 hp),fun p hp=>h.lb p ((hl p).1 hp),h.nb,fun w=>(h.lg w).trans ?_⟩
 unfold LE Ac;rw [h1];refine or_congr Iff.rfl (exists_congr fun a=>exists_congr fun w'=>and_congr_right fun _=>exists_congr fun p=>and_congr (hf p).symm (and_congr_right fun _=>exists_congr fun q=>and_congr (hl q).symm Iff.rfl))
theorem GQ.move {P:List Int->Prop} {V L0 L:List Int} {N0 N N0' N':List (List Int)} {e:EN} (h:GQ P V L0 N0 e L N) (h0:N'.length=N.length) (h1:∀ p:Int,0<=p->p < L0.length->ix N' p=ix N0' p) (h2:∀ p:Int,(L0.length:Int)<=p->p < L.length->ix N' p=ix N p):GQ P V L0 N0' e L N':=by
 refine ⟨h.lp,h0.trans h.ll,h1,h.fb,h.lb,fun p a b q hq=>h.nb p a b q (by rw [<- h2 p a b];exact hq),fun w=>(h.lg w).trans ?_⟩
 exact (LE.cong (n0:=L0.length) (n1:=L.length) h.fb h.nb h2 (fun _ _ _=>rfl)).symm
theorem zuL {P Q:List Int->Prop} {V V':List Int} {s s':Nat} {L0 L L':List Int} {N0 N N':List (List Int)} {e f:EN} (h:GL P V s L0 N0 e L N) (k:GL Q V' s' L N f L' N') (hs:s<=12001) (hs':s'<=12001) (hs1:1<=s'):∃ g N2,zbU e f L' N'=some (g,L',N2)/\GL (fun w=>∃ u x,w=u++x/\P u/\Q x) (V++V') (s+s') L0 N0 g L' N2:=by
 have hfl:=h.fl;have htl:=h.tl;have kfl:=k.fl;have ktl:=k.tl;have kll:=k.ll;obtain ⟨h1,h2⟩:=h.pre;obtain ⟨k1,k2⟩:=k.pre;obtain ⟨N2,e1,e2,e3,e4,e5⟩:=zwl (last:=e.2.2.1) (first:=f.2.1) (L:=L') (N:=N') (fun p hp=>by have:=h.lb p hp;omega) (by omega) (by omega) (fun p hp=>by
  have hp2:=h.lb p hp;rw [k.np p (by omega) hp2.2]
  have:=h.nl p hp2.1 hp2.2;have:400000000 * s<=400000000 * 12001:=Nat.mul_le_mul_left _ hs;omega)
 have hc1:za5 e.2.1=some e.2.1:=zfJ (by omega)
 have hc2:za5 f.2.2.1=some f.2.2.1:=zfJ (by omega)
 have fin:∀ (b:Bool),b=(e.1 && f.1)->∃ g,zaq e f L' N2 b e.2.1 f.2.2.1=some (g,L',N2)/\GL (fun w=>∃ u x,w=u++x/\P u/\Q x) (V++V') (s+s') L0 N0 g L' N2:=fun b hb=>by
  subst hb;have row:∀ fi la:List Int,(∀ p,p∈fi↔p∈e.2.1\/(e.1=true/\p∈f.2.1))->(∀ p,p∈la↔p∈f.2.2.1\/(f.1=true/\p∈e.2.2.1))->fi.length<=s+s'->la.length<=s+s'->GL (fun w=>∃ u x,w=u++x/\P u/\Q x) (V++V') (s+s') L0 N0 (e.1 && f.1,fi,la,()) L' N2:=fun fi la a1 a2 a3 a4=>h.row k (by omega) (by omega) hs1 e2 e3 e4 e5 a1 a2 a3 a4
  unfold zaq;by_cases ce:e.1=true
  ·rw [if_pos ce,zak (by unfold room;omega)]
   unfold zbX;by_cases cf:f.1=true
   ·rw [if_pos cf,zak (by unfold room;omega)]
    exact ⟨_,rfl,row _ _ (fun p=>by simp [ce]) (fun p=>by simp [cf]) (by rw [List.length_append];omega) (by rw [List.length_append];omega)⟩
   ·rw [if_neg cf];exact ⟨_,rfl,row _ _ (fun p=>by simp [ce]) (fun p=>by simp [cf]) (by rw [List.length_append];omega) (by omega)⟩
  ·rw [if_neg ce];unfold zbX;by_cases cf:f.1=true
   ·rw [if_pos cf,zak (by unfold room;omega)]
    exact ⟨_,rfl,row _ _ (fun p=>by simp [ce]) (fun p=>by simp [cf]) (by omega) (by rw [List.length_append];omega)⟩
   ·rw [if_neg cf];exact ⟨_,rfl,row _ _ (fun p=>by simp [ce]) (fun p=>by simp [cf]) (by omega) (by omega)⟩
 obtain ⟨g,g1,g2⟩:=fin _ rfl;refine ⟨g,N2,?_,g2⟩
 unfold zbU;refine zao e1 ?_
 by_cases ce:e.1=true
 ·have g1':zaq e f L' N2 f.1 e.2.1 f.2.2.1=some (g,L',N2):=by rw [ce,Bool.true_and] at g1;exact g1
  rw [if_pos ce]
  repeat' first | exact g1' | (with_reducible refine zgh ?_ ?_) | (with_reducible refine zao hc1 ?_) | (with_reducible refine zao hc2 ?_)
 ·have ce':e.1=false:=by simpa using ce
  have g1':zaq e f L' N2 false e.2.1 f.2.2.1=some (g,L',N2):=by rw [ce',Bool.false_and] at g1;exact g1
  rw [if_neg ce]
  repeat' first | exact g1' | (with_reducible refine zgh ?_ ?_) | (with_reducible refine zao hc1 ?_) | (with_reducible refine zao hc2 ?_)
theorem zhW:∀ (K:List (Tr ND)) (j:Nat),tszL (K.take j)<=tszL K
 | [],j=>by simp [tszL]
 | k::K,0=>by simp [tszL]
 | k::K,j+1=>by rw [List.take_succ_cons,tszL,tszL];have:=zhW K j;omega
theorem zyr {l:L5}:∀ (n:Nat) (t:Tr ND) (k:Int),n<=12001->tsz t<=n->Stn l t k->∀ (L0:List Int) (N0:List (List Int)),N0.length=L0.length->L0.length+tsz t<=12001->∃ e L1 N1,zaJ t L0 N0=some (e,L1,N1)/\GL (Lg t) (lvs t) (tsz t) L0 N0 e L1 N1:=by
 intro n
 induction n with
 | zero=>
  intro t k _ hn hs;have:=hs.pos;omega
 | succ n ih=>
  intro t k hn0 hn hs L0 N0 hl hsz
  cases hs with
  | mk k K h0 h1 hwf ha=>
  have hKl:=ha.len;have hts:tsz (Tr.mk ((ix l k).1,(ix l k).2.1,()) K)=tszL K+1:=by rw [tsz]
  rw [hts] at hn hsz ⊢;have hlenK:=zpR K ha.pos;rw [zke];unfold zbt;have eM:(Tr.mk ((ix l k).1,(ix l k).2.1,()) K).isMk=true:=rfl;have eV:(Tr.mk ((ix l k).1,(ix l k).2.1,()) K).val (0,(0,()))=((ix l k).1,(ix l k).2.1,()):=rfl;have eK:(Tr.mk ((ix l k).1,(ix l k).2.1,()) K).kids=K:=rfl;rw [zak eM,eV,eK];dsimp only;have kid:∀ j:Int,0<=j->j < K.length->∀ (L:List Int) (N:List (List Int)),N.length=L.length->L.length+tsz (ix K j)<=12001->∃ e L1 N1,zaJ (ix K j) L N=some (e,L1,N1)/\GL (Lg (ix K j)) (lvs (ix K j)) (tsz (ix K j)) L N e L1 N1:=fun j j0 j1=>by
   have:=ztz (zb9 j0 j1);exact ih _ _ (by omega) (by omega) (ha.get j j0 j1)
  have tk:∀ j:Nat,j < K.length->K.take (j+1)=K.take j++[ix K (j:Int)]:=fun j hj=>by
   have et:=zqt (l:=K) (i:=(j:Int)) (by omega) (by omega)
   rw [Int.toNat_natCast,show ((j:Int)+1).toNat=j+1 from by omega] at et
   exact et
  have hlv:(ix l k).1≠2->lvs (Tr.mk ((ix l k).1,(ix l k).2.1,()) K)=lvsL K:=fun h=>znb h
  have hK0:(ix l k).1<=1->K=[]:=fun h=>by
   unfold wfN at hwf;refine List.length_eq_zero_iff.1 ?_
   rw [hKl];rcases hwf with h2 | h2 | h2 | h2 | h2 | h2
   ·rw [h2.2];rfl
   ·rw [h2.2];rfl
   ·omega
   ·omega
   ·omega
   ·omega
  by_cases c0:(ix l k).1=0
  ·rw [if_pos (by simpa using c0)]
   have hno:∀ w,Lg (Tr.mk ((ix l k).1,(ix l k).2.1,()) K) w↔False:=fun w=>by
    rw [zkc,if_neg (by omega),if_neg (by omega),if_neg (by omega),if_neg (by omega),if_neg (by omega)]
   exact ⟨_,_,_,rfl,(GL.none L0 N0 hl).of (by omega) hno (by rw [hlv (by omega),hK0 (by omega)];rfl)⟩
  rw [if_neg (by simpa using c0)]
  by_cases c1:(ix l k).1=1
  ·rw [if_pos (by simpa using c1)]
   have he:∀ w,Lg (Tr.mk ((ix l k).1,(ix l k).2.1,()) K) w↔w=[]:=fun w=>by rw [zkc,if_pos c1]
   have g:=GL.none L0 N0 hl;refine ⟨_,_,_,rfl,⟨⟨by rw [hlv (by omega),hK0 (by omega)];exact g.lp,g.ll,g.np,fun p hp=>(by cases hp),fun p hp=>(by cases hp),g.nb,fun w => ?_⟩,by omega,by simp,by simp,fun p a b=>by omega⟩⟩
   rw [he];constructor
   ·intro h;exact .inl ⟨h,rfl⟩
   ·rintro (⟨h,_⟩ | ⟨a,w',_,p,h,_⟩)
    ·exact h
    ·cases h
  rw [if_neg (by simpa using c1)]
  by_cases c2:(ix l k).1=2
  ·rw [if_pos (by simpa using c2),zak eM,zak (by unfold room;simp;omega),zak (by unfold room;simp;omega),zak (by unfold fits;simp;omega)]
   have he:∀ w,Lg (Tr.mk ((ix l k).1,(ix l k).2.1,()) K) w↔w=[(ix l k).2.1]:=fun w=>by rw [zkc,if_neg c1,if_pos c2]
   have en:((L0++[(ix l k).2.1]).length:Int) - 1=L0.length:=by rw [List.length_append,List.length_singleton];omega
   rw [en];have hrow:ix (N0++[([]:List Int)]) (L0.length:Int)=[]:=by rw [<- hl,zau]
   have hlt:((L0++[(ix l k).2.1]).length:Int)=L0.length+1:=by rw [List.length_append,List.length_singleton];omega
   refine ⟨_,_,_,rfl,⟨(GQ.letter L0 N0 hl).of he (by rw [lvs,if_pos c2]),by rw [List.length_append,List.length_singleton];omega,by simp,by simp,fun p a b => ?_⟩⟩
   obtain rfl:p=L0.length:=by omega
   rw [hrow];simp
  rw [if_neg (by simpa using c2)]
  by_cases c3:(ix l k).1=3
  ·rw [if_pos (by simpa using c3),zak eM]
   have he:∀ w,Lg (Tr.mk ((ix l k).1,(ix l k).2.1,()) K) w↔∃ x∈K,Lg x w:=fun w=>by rw [zkc,if_neg c1,if_neg c2,if_pos c3,zsn]
   have key:∀ (m j:Nat) (e:EN) (L:List Int) (N:List (List Int)),K.length - j=m->j<=K.length->GL (fun w=>∃ x∈K.take j,Lg x w) (lvsL (K.take j)) (tszL (K.take j)) L0 N0 e L N->
     ∃ e' L1 N1,zaH zaJ (Tr.mk ((ix l k).1,(ix l k).2.1,()) K) (j:Int) e.1 L N e.2.1 e.2.2.1=some (e',L1,N1)/\GL (fun w=>∃ x∈K,Lg x w) (lvsL K) (tszL K) L0 N0 e' L1 N1:=by
    intro m
    induction m with
    | zero=>
     intro j e L N hm hj h;obtain rfl:j=K.length:=by omega
     rw [List.take_length] at h;refine ⟨_,_,_,?_,h⟩
     rw [zdY];unfold zaQ;rw [eK,if_neg (by simp)]
    | succ m ihm=>
     intro j e L N hm hj h;have hle:=zhW K (j+1);rw [tk j (by omega),zk9] at hle
     have hsz2:=h.sz;obtain ⟨f,L',N',f1,f2⟩:=kid (j:Int) (by omega) (by omega) L N h.ll (by omega)
     have hg:=(h.alt f2).of (s':=tszL (K.take (j+1))) (Q:=fun w=>∃ x∈K.take (j+1),Lg x w) (by rw [tk j (by omega),zk9];omega) (fun w=>by
      rw [tk j (by omega)]
      constructor
      ·rintro ⟨x,hx,h⟩;rcases List.mem_append.1 hx with hx | hx
       ·exact .inl ⟨x,hx,h⟩
       ·rw [List.mem_singleton.1 hx] at h;exact .inr h
      ·rintro (⟨x,hx,h⟩ | h)
       ·exact ⟨x,List.mem_append_left _ hx,h⟩
       ·exact ⟨_,List.mem_append_right _ (List.mem_singleton.2 rfl),h⟩) (V':=lvsL (K.take (j+1))) (by rw [tk j (by omega),zgP])
     obtain ⟨e',L1,N1,g1,g2⟩:=ihm (j+1) _ L' N' (by omega) (by omega) hg
     refine ⟨e',L1,N1,?_,g2⟩
     have hfl:=h.fl;have htl:=h.tl;have ffl:=f2.fl;have ftl:=f2.tl;have r1:room e.2.1 f.2.1 8:=by unfold room;omega
     have r2:room e.2.2.1 f.2.2.1 8:=by unfold room;omega
     have hJ:∀ b:Bool,b=(e.1 || f.1)->zaV (j:Int) (zaH zaJ (Tr.mk ((ix l k).1,(ix l k).2.1,()) K)) f L' N' b e.2.1 e.2.2.1=some (e',L1,N1):=fun b hb=>by
      subst hb;have g1':zaG (j:Int) (zaH zaJ (Tr.mk ((ix l k).1,(ix l k).2.1,()) K)) (e.1 || f.1) L' N' (e.2.1++f.2.1) (e.2.2.1++f.2.2.1)=some (e',L1,N1):=by
       unfold zaG;exact G_to (by unfold fits;omega) g1
      unfold zaV
      repeat' first | exact g1' | (with_reducible refine zgh ?_ ?_) | (with_reducible refine G_to r1 ?_) | (with_reducible refine G_to r2 ?_)
     rw [zdY];unfold zaQ;rw [eK,if_pos (by simp;omega),zak (by omega)]
     refine zao f1 ?_
     by_cases ce:e.1=true
     ·rw [if_pos ce];exact hJ _ (by rw [ce];rfl)
     ·rw [if_neg ce];exact hJ _ (by simp [ce])
   obtain ⟨e',L1,N1,g1,g2⟩:=key _ 0 (false,[],[],()) L0 N0 rfl (by omega) ((GL.none L0 N0 hl).of (by simp) (fun w=>by simp) rfl)
   exact ⟨e',L1,N1,g1,g2.of (by omega) he (hlv (by omega))⟩
  rw [if_neg (by simpa using c3)]
  by_cases c4:(ix l k).1=4
  ·rw [if_pos (by simpa using c4),zak eM]
   have hne:(ix l k).2.2.1≠[]:=by
    unfold wfN at hwf;rcases hwf with h | h | h | h | h | h
    ·omega
    ·omega
    ·omega
    ·omega
    ·exact h.2
    ·omega
   have hKp:0 < K.length:=by rw [hKl];exact List.length_pos_iff.2 hne
   have he:∀ w,Lg (Tr.mk ((ix l k).1,(ix l k).2.1,()) K) w↔LgS K w:=fun w=>by rw [zkc,if_neg c1,if_neg c2,if_neg c3,if_pos c4]
   have ecut:cut K 1 (K.length:Int)=K.drop 1:=by
    unfold cut;rw [Int.toNat_natCast,List.take_length];rfl
   have key:∀ (m j:Nat) (e:EN) (L:List Int) (N:List (List Int)),K.length - 1 - j=m->j+1<=K.length->GL (LgS (K.take (j+1))) (lvsL (K.take (j+1))) (tszL (K.take (j+1))) L0 N0 e L N->
     ∃ e' L1 N1,zaM zaJ (Tr.mk ((ix l k).1,(ix l k).2.1,()) K) (j:Int) e.1 e.2.1 e.2.2.1 L N=some (e',L1,N1)/\GL (LgS K) (lvsL K) (tszL K) L0 N0 e' L1 N1:=by
    intro m
    induction m with
    | zero=>
     intro j e L N hm hj h;have hjK:j+1=K.length:=by omega
     rw [show K.take (j+1)=K from List.take_of_length_le (by omega)] at h
     refine ⟨_,_,_,?_,h⟩
     rw [zdZ];unfold zaR;rw [eK,ecut,if_neg (by rw [decide_eq_true_iff,List.length_drop];omega)]
    | succ m ihm=>
     intro j e L N hm hj h;have hle:=zhW K (j+1+1);rw [tk (j+1) (by omega),zk9] at hle
     have hsz2:=h.sz;have eix:ix (K.drop 1) (j:Int)=ix K ((j+1:Nat):Int):=by
      rw [zhf (l:=K.drop 1) (i:=(j:Int)) (by omega) (by rw [List.length_drop];omega),zhf (l:=K) (i:=((j+1:Nat):Int)) (by omega) (by omega)]
      simp [Nat.add_comm]
     obtain ⟨f,L',N',f1,f2⟩:=kid ((j+1:Nat):Int) (by omega) (by omega) L N h.ll (by omega)
     have hpos:=ha.pos _ (zb9 (l:=K) (i:=((j+1:Nat):Int)) (by omega) (by omega))
     obtain ⟨g,N2,b1,b2⟩:=zuL h f2 (by omega) (by omega) hpos
     have hg:=b2.of (s':=tszL (K.take (j+1+1))) (Q:=LgS (K.take (j+1+1))) (by rw [tk (j+1) (by omega),zk9];omega) (fun w=>by rw [tk (j+1) (by omega),zle]) (V':=lvsL (K.take (j+1+1))) (by rw [tk (j+1) (by omega),zgP])
     obtain ⟨e',L1,N1,g1,g2⟩:=ihm (j+1) _ L' N2 (by omega) (by omega) hg
     refine ⟨e',L1,N1,?_,g2⟩
     have hJ:zaW (j:Int) (zaM zaJ (Tr.mk ((ix l k).1,(ix l k).2.1,()) K)) g.1 g.2.1 g.2.2.1 L' N2=some (e',L1,N1):=by
      unfold zaW;exact G_to (by unfold fits;omega) g1
     rw [zdZ];unfold zaR;rw [eK,ecut,eix,if_pos (by rw [decide_eq_true_iff,List.length_drop];omega),zak (by rw [List.length_drop];omega)]
     exact zgh (zao f1 (zao b1 hJ)) (zao f1 (zao b1 hJ))
   have t1:K.take 1=[ix K 0]:=by have:=tk 0 hKp;simpa using this
   have hle:=zhW K 1;have hz1:tszL (K.take 1)=tsz (ix K 0):=by rw [t1];simp [tszL]
   obtain ⟨f,L',N',f1,f2⟩:=kid 0 (by omega) (by omega) L0 N0 hl (by omega)
   have hg:=f2.of (s':=tszL (K.take (0+1))) (Q:=LgS (K.take (0+1))) (by show _<=tszL (K.take 1);omega) (fun w=>by
    rw [Nat.zero_add,t1];constructor
    ·rintro ⟨u,x,rfl,h,h2⟩;have h2:x=[]:=h2;rw [h2,List.append_nil];exact h
    ·intro h;exact ⟨w,[],by simp,h,rfl⟩) (V':=lvsL (K.take (0+1))) (by rw [Nat.zero_add,t1,lvsL,lvsL,List.append_nil])
   obtain ⟨e',L1,N1,g1,g2⟩:=key _ 0 f L' N' rfl (by omega) hg
   refine ⟨e',L1,N1,?_,g2.of (by omega) he (hlv (by omega))⟩
   rw [zak (by omega)]
   exact zao f1 (G_to eM (G_to (by omega) g1))
  rw [if_neg (by simpa using c4),zak eM]
  have c5:(ix l k).1=5/\(ix l k).2.2.1.length=1:=by
   unfold wfN at hwf;rcases hwf with h | h | h | h | h | h
   ·omega
   ·omega
   ·omega
   ·omega
   ·omega
   ·exact h
  obtain ⟨t0,rfl⟩:∃ t0,K=[t0]:=by
   match K,hKl with
   | [t0],_=>exact ⟨t0,rfl⟩
   | [],h=>simp at h;omega
   | _::_::_,h=>simp at h;omega
  have he:∀ w,Lg (Tr.mk ((ix l k).1,(ix l k).2.1,()) [t0]) w↔St (Lg t0) w:=fun w=>by rw [zkc,if_neg c1,if_neg c2,if_neg c3,if_neg c4,if_pos c5.1];rfl
  have hz1:tszL [t0]=tsz t0:=by simp [tszL]
  obtain ⟨f,L',N',f1,f2⟩:=kid 0 (by omega) (by simp) L0 N0 hl (by show L0.length+tsz t0<=_;omega)
  have f1:zaJ t0 L0 N0=some (f,L',N'):=f1;have f2:GL (Lg t0) (lvs t0) (tsz t0) L0 N0 f L' N':=f2;have hfl:=f2.fl;have htl:=f2.tl;have hll:=f2.ll;obtain ⟨N2,e1,e2,e3,e4,e5⟩:=zwl (last:=f.2.2.1) (first:=f.2.1) (L:=L') (N:=N') (fun p hp=>by have:=f2.lb p hp;omega) (by omega) (by omega) (fun p hp=>by
   have hp2:=f2.lb p hp;have:=f2.nl p hp2.1 hp2.2;have:400000000 * tsz t0<=400000000 * 12001:=Nat.mul_le_mul_left _ (by omega)
   omega)
  refine ⟨_,L',N2,?_,(f2.star (by omega) e2 e3 e4 e5).of (by omega) he (by rw [hlv (by omega),lvsL,lvsL,List.append_nil])⟩
  rw [zak (by simp)]
  exact zao f1 (zao e1 rfl)
abbrev LEn:=List (Bool×Int×Int×Unit)
def dE (y:Bool×Int×Int×Unit):EN:=(y.1,bl y.2.1,bl y.2.2.1,())
def dB (m:Nat) (B:List Int):List (List Int):=(B.take m).map bl
theorem zey {m:Nat} {B:List Int} (h:m<=B.length):(dB m B).length=m:=by unfold dB;rw [List.length_map,List.length_take];omega
theorem zkj {m:Nat} {B:List Int} {p:Int} (h:m<=B.length) (p0:0<=p) (p1:p < m):ix (dB m B) p=bl (ix B p):=by
 rw [zhf (l:=dB m B) p0 (by rw [zey h];omega),zhf (l:=B) p0 (by omega)]
 unfold dB;simp
def Tied (n:Nat) (X F:Int) (B B':List Int):Prop:=B'.length=n/\∀ p:Int,0<=p->p < n->(bitP X p->ix B' p=ior .i64 (ix B p) F)/\(¬ bitP X p->ix B' p=ix B p)
section
variable {l:L5} {n:Nat} {i:Int} {e:LEn} {B:List Int}
theorem zwR (hn:n<=10) (hB:B.length=n) {k1:Int} {b:Bool} {x10 X:Int} {r29}:∃ B',Tied n X (ix e (ix (ix l i).2.2.1 k1)).2.1 B B'/\zbO l n i e k1 b x10 X r29 0 B=zbO l n i e k1 b x10 X r29 (n:Int) B':=by
 obtain ⟨B',⟨h1,h2⟩,h3⟩:=zva (len:=(n:Int)) (L:=zbO l n i e k1 b x10 X r29) (lo:=0) (s:=B) (f:=fun j s=>if bitP X j then s.set j.toNat (ior .i64 (ix s j) (ix e (ix (ix l i).2.2.1 k1)).2.1) else s)
  (I:=fun j s=>s.length=n/\∀ p:Int,0<=p->p < n->((p < j/\bitP X p)->ix s p=ior .i64 (ix B p) (ix e (ix (ix l i).2.2.1 k1)).2.1)/\(¬ (p < j/\bitP X p)->ix s p=ix B p)) (by omega)
  ⟨hB,fun p p0 p1=>⟨fun h=>by omega,fun _=>rfl⟩⟩ (fun j s j0 j1 ⟨s1,s2⟩=>by
   have st:=s2 j j0 j1;have ej:ix s j=ix B j:=st.2 (by omega)
   by_cases c:bitP X j
   ·rw [if_pos c];refine ⟨?_,by rw [List.length_set];exact s1,fun p p0 p1 => ?_⟩
    ·rw [zfz];unfold zbE;rw [if_pos (by simpa using j1),zak j0,if_pos (decide_eq_true (show iand .i64 (ishr .i64 X j) 1=1 from c)),zak (by omega),zak (by omega),zak (by omega),zak (by omega),zak (by unfold fits;omega)]
    ·by_cases e2:p=j
     ·subst e2;rw [zaI p0 (by omega),ej]
      exact ⟨fun _=>rfl,fun h=>absurd ⟨by omega,c⟩ h⟩
     ·rw [za9 j0 p0 (fun h=>e2 h.symm)]
      have:=s2 p p0 p1;exact ⟨fun h=>this.1 ⟨by omega,h.2⟩,fun h=>this.2 (fun h2=>h ⟨by omega,h2.2⟩)⟩
   ·rw [if_neg c];refine ⟨?_,s1,fun p p0 p1 => ?_⟩
    ·conv=>lhs;rw [zfz];unfold zbE
     rw [if_pos (by simpa using j1),zak j0,if_neg (fun h=>c (show iand .i64 (ishr .i64 X j) 1=1 from of_decide_eq_true h)),zak (by unfold fits;omega)]
    ·have:=s2 p p0 p1;refine ⟨fun h=>this.1 ⟨?_,h.2⟩,fun h=>this.2 (fun h2=>h ⟨by omega,h2.2⟩)⟩
     by_cases e2:p=j
     ·subst e2;exact absurd h.2 c
     ·omega)
 exact ⟨B',⟨h1,fun p p0 p1=>⟨fun h=>(h2 p p0 p1).1 ⟨p1,h⟩,fun h=>(h2 p p0 p1).2 (fun h3=>h h3.2)⟩⟩,h3⟩
theorem zwS (hn:n<=10) (hB:B.length=n) {at':Int} {S:List Int} {X:Int} (hX:(ix e (ix (ix l i).2.2.1 0)).2.2.1=X) {r6}:∃ B',Tied n X (ix e (ix (ix l i).2.2.1 0)).2.1 B B'/\zbu l n at' i S e r6 0 B=zbu l n at' i S e r6 (n:Int) B':=by
 obtain ⟨B',⟨h1,h2⟩,h3⟩:=zva (len:=(n:Int)) (L:=zbu l n at' i S e r6) (lo:=0) (s:=B) (f:=fun j s=>if bitP X j then s.set j.toNat (ior .i64 (ix s j) (ix e (ix (ix l i).2.2.1 0)).2.1) else s)
  (I:=fun j s=>s.length=n/\∀ p:Int,0<=p->p < n->((p < j/\bitP X p)->ix s p=ior .i64 (ix B p) (ix e (ix (ix l i).2.2.1 0)).2.1)/\(¬ (p < j/\bitP X p)->ix s p=ix B p)) (by omega)
  ⟨hB,fun p p0 p1=>⟨fun h=>by omega,fun _=>rfl⟩⟩ (fun j s j0 j1 ⟨s1,s2⟩=>by
   have st:=s2 j j0 j1;have ej:ix s j=ix B j:=st.2 (by omega)
   by_cases c:bitP X j
   ·rw [if_pos c];refine ⟨?_,by rw [List.length_set];exact s1,fun p p0 p1 => ?_⟩
    ·rw [zfB];unfold zbF;rw [hX,if_pos (by simpa using j1),zak j0,if_pos (decide_eq_true (show iand .i64 (ishr .i64 X j) 1=1 from c)),zak (by omega),zak (by omega),zak (by omega),zak (by omega),zak (by unfold fits;omega)]
    ·by_cases e2:p=j
     ·subst e2;rw [zaI p0 (by omega),ej]
      exact ⟨fun _=>rfl,fun h=>absurd ⟨by omega,c⟩ h⟩
     ·rw [za9 j0 p0 (fun h=>e2 h.symm)]
      have:=s2 p p0 p1;exact ⟨fun h=>this.1 ⟨by omega,h.2⟩,fun h=>this.2 (fun h2=>h ⟨by omega,h2.2⟩)⟩
   ·rw [if_neg c];refine ⟨?_,s1,fun p p0 p1 => ?_⟩
    ·conv=>lhs;rw [zfB];unfold zbF
     rw [hX,if_pos (by simpa using j1),zak j0,if_neg (fun h=>c (show iand .i64 (ishr .i64 X j) 1=1 from of_decide_eq_true h)),zak (by unfold fits;omega)]
    ·have:=s2 p p0 p1;refine ⟨fun h=>this.1 ⟨?_,h.2⟩,fun h=>this.2 (fun h2=>h ⟨by omega,h2.2⟩)⟩
     by_cases e2:p=j
     ·subst e2;exact absurd h.2 c
     ·omega)
 exact ⟨B',⟨h1,fun p p0 p1=>⟨fun h=>(h2 p p0 p1).1 ⟨p1,h⟩,fun h=>(h2 p p0 p1).2 (fun h3=>h h3.2)⟩⟩,h3⟩
end
structure RS (n at':Nat) (B S:List Int):Prop where
 lB:B.length=n
 lS:S.length=n
 ha:at'<=n
 sB:∀ p:Int,0<=p->p < n->SetP (ix B p)
 z:∀ p:Int,(at':Int)<=p->p < n->ix B p=0
inductive Ch (B S:List Int):Nat->List (Tr ND)->LEn->Nat->Prop
 | nil (a:Nat):Ch B S a [] [] a
 | cons (a b c:Nat) (t:Tr ND) (K:List (Tr ND)) (y:Bool×Int×Int×Unit) (ys:LEn) (hb:b=a+(lvs t).length) (y1:SetP y.2.1) (y2:SetP y.2.2.1) (h:GQ (Lg t) (lvs t) (S.take a) (dB a B) (dE y) (S.take b) (dB b B)) (hs:Ch B S b K ys c):Ch B S a (t::K) (y::ys) c
theorem Ch.end {B S:List Int}:∀ {a:Nat} {K:List (Tr ND)} {ys:LEn} {c:Nat},Ch B S a K ys c->c=a+(lvsL K).length
 | _,_,_,_,.nil a=>by simp [lvsL]
 | _,_,_,_,.cons a b c t K y ys hb _ _ h hs=>by rw [hs.end,hb,lvsL,List.length_append];omega
theorem zy8 {m:Nat} {B B':List Int} (h:m<=B.length) (h':m<=B'.length) (he:∀ p:Int,0<=p->p < m->ix B' p=ix B p):dB m B'=dB m B:=by
 refine zqs (by rw [zey h,zey h']) fun p p0 p1 => ?_
 rw [zey h'] at p1;rw [zkj h' p0 (by omega),zkj h p0 (by omega),he p p0 (by omega)]
theorem Tied.rows {n m:Nat} {X F:Int} {B B':List Int} (hn:n<=10) (hm:m<=n) (hB:B.length=n) (sB:∀ p:Int,0<=p->p < n->SetP (ix B p)) (hF:SetP F) (h:Tied n X F B B'):
  (dB m B').length=(dB m B).length/\(∀ p q:Int,0<=p->p < (dB m B).length->(q∈ix (dB m B') p↔q∈ix (dB m B) p\/(p∈bl X/\q∈bl F)))/\(∀ p:Int,0<=p->p < (dB m B).length->p∉bl X->ix (dB m B') p=ix (dB m B) p):=by
 obtain ⟨h1,h2⟩:=h;have e1:=zey (m:=m) (B:=B') (by omega)
 have e2:=zey (m:=m) (B:=B) (by omega)
 refine ⟨by rw [e1,e2],fun p q p0 p1 => ?_,fun p p0 p1 hp => ?_⟩
 ·rw [e2] at p1;rw [zkj (by omega) p0 (by omega),zkj (by omega) p0 (by omega)]
  have h3:=h2 p p0 (by omega)
  by_cases c:bitP X p
  ·rw [h3.1 c,zgn,zgn,zgn,zgn];constructor
   ·rintro ⟨q0,q1,hq⟩;rcases ((zdR (sB p p0 (by omega)) hF).2 q q0 q1).1 hq with hq | hq
    ·exact .inl ⟨q0,q1,hq⟩
    ·exact .inr ⟨⟨p0,by omega,c⟩,q0,q1,hq⟩
   ·rintro (⟨q0,q1,hq⟩ | ⟨_,q0,q1,hq⟩)
    ·exact ⟨q0,q1,((zdR (sB p p0 (by omega)) hF).2 q q0 q1).2 (.inl hq)⟩
    ·exact ⟨q0,q1,((zdR (sB p p0 (by omega)) hF).2 q q0 q1).2 (.inr hq)⟩
  ·rw [h3.2 c];refine ⟨.inl,fun hh=>hh.resolve_right fun hh=>c (zgn.1 hh.1).2.2⟩
 ·rw [e2] at p1;rw [zkj (by omega) p0 (by omega),zkj (by omega) p0 (by omega),(h2 p p0 (by omega)).2 (fun c=>hp (zgn.2 ⟨p0,by omega,c⟩))]
theorem Tied.set {n:Nat} {X F:Int} {B B':List Int} (sB:∀ p:Int,0<=p->p < n->SetP (ix B p)) (hF:SetP F) (h:Tied n X F B B'):∀ p:Int,0<=p->p < n->SetP (ix B' p):=fun p p0 p1=>by
 by_cases c:bitP X p
 ·rw [(h.2 p p0 p1).1 c];exact (zdR (sB p p0 p1) hF).1
 ·rw [(h.2 p p0 p1).2 c];exact sB p p0 p1
theorem Ch.move {B S B' S':List Int}:∀ {a:Nat} {K:List (Tr ND)} {ys:LEn} {c:Nat},Ch B S a K ys c->c<=B.length->c<=S.length->B'.length=B.length->S'.take c=S.take c->(∀ p:Int,(a:Int)<=p->p < c->ix B' p=ix B p)->Ch B' S' a K ys c
 | _,_,_,_,.nil a,_,_,_,_,_ => .nil a
 | _,_,_,_,.cons a b c t K y ys hb y1 y2 h hs,hc,hc2,hB,hS,he=>by
  have hbc:=hs.end;have tk:∀ m,m<=c->S'.take m=S.take m:=fun m hm=>by
   have:=congrArg (List.take m) hS
   rwa [List.take_take,List.take_take,Nat.min_eq_left hm] at this
  refine .cons a b c t K y ys hb y1 y2 ?_ (hs.move hc hc2 hB hS (fun p p0 p1=>he p (by omega) p1))
  rw [tk a (by omega),tk b (by omega)]
  have la:(S.take a).length=a:=by rw [List.length_take];omega
  have lb:(S.take b).length=b:=by rw [List.length_take];omega
  refine h.move (by rw [zey (by omega),zey (by omega)]) (fun p p0 p1 => ?_) (fun p p0 p1 => ?_)
  ·rw [la] at p1;rw [zkj (by omega) p0 (by omega),zkj (by omega) p0 (by omega)]
  ·rw [la] at p0;rw [lb] at p1;rw [zkj (by omega) (by omega) (by omega),zkj (by omega) (by omega) (by omega),he p p0 (by omega)]
theorem znd {s f:Int} (hs:SetP s) (hf:SetP f) {p:Int}:p∈bl (ior .i64 s f)↔p∈bl s\/p∈bl f:=by
 rw [zgn,zgn,zgn];constructor
 ·rintro ⟨p0,p1,h⟩;exact (((zdR hs hf).2 p p0 p1).1 h).imp (fun h=>⟨p0,p1,h⟩) (fun h=>⟨p0,p1,h⟩)
 ·rintro (⟨p0,p1,h⟩ | ⟨p0,p1,h⟩)
  ·exact ⟨p0,p1,((zdR hs hf).2 p p0 p1).2 (.inl h)⟩
  ·exact ⟨p0,p1,((zdR hs hf).2 p p0 p1).2 (.inr h)⟩
theorem zwU {l:L5} {n:Nat} {i:Int} {e:LEn} {S B:List Int} {r6} {K:List (Tr ND)} {ys:LEn} {ks:List Int} {a0 c:Nat} {N0:List (List Int)} {bv:Int} (hn:n<=10) (hi:ix l i=(4,bv,ks,())) (hks:ks.length=K.length) (hys:ys.length=K.length) (hK:K.length<=100000)
  (hkid:∀ j:Int,0<=j->j < K.length->0<=ix ks j/\ix ks j < e.length/\ix e (ix ks j)=ix ys j):∀ (m j aj:Nat) (Bj:List Int) (em:Bool) (F La:Int),K.length - j=m->j<=K.length->RS n c Bj S->SetP F->SetP La->Ch Bj S aj (K.drop j) (ys.drop j) c->
   GQ (LgS (K.take j)) (lvsL (K.take j)) (S.take a0) N0 (em,bl F,bl La,()) (S.take aj) (dB aj Bj)->(∀ p:Int,0<=p->p < a0->ix Bj p=ix B p)->a0<=aj->
   ∃ B' em' F' La',zch l n c i S e r6 (j:Int) Bj em F La=zaS i e r6 c B' S em' F' La'/\RS n c B' S/\SetP F'/\SetP La'/\GQ (LgS K) (lvsL K) (S.take a0) N0 (em',bl F',bl La',()) (S.take c) (dB c B')/\∀ p:Int,0<=p->p < a0->ix B' p=ix B p:=by
 intro m
 induction m with
 | zero=>
  intro j aj Bj em F La hm hj hr hF hLa hch hg hp haj;obtain rfl:j=K.length:=by omega
  rw [List.drop_length] at hch;have hc:=hch.end;have hc2:c=aj:=by rw [hc];simp [lvsL]
  subst hc2;rw [List.take_length] at hg;refine ⟨Bj,em,F,La,?_,hr,hF,hLa,hg,hp⟩
  rw [ziC];unfold zb3;rw [hi,if_neg (by simp [hks])]
 | succ m ih=>
  intro j aj Bj em F La hm hj hr hF hLa hch hg hp haj;have hjK:j < K.length:=by omega
  have hdK:K.drop j=K[j]::K.drop (j+1):=List.drop_eq_getElem_cons hjK;have hdy:ys.drop j=ys[j]'(by omega)::ys.drop (j+1):=List.drop_eq_getElem_cons (by omega)
  have hyj:ix ys (j:Int)=ys[j]'(by omega):=by rw [zhf (by omega) (by omega)];simp
  have htk:K.take (j+1)=K.take j++[K[j]]:=by rw [List.take_append_getElem]
  rw [hdK,hdy] at hch;generalize K[j]=t at hch htk;generalize ys[j]'(by omega)=y at hch hyj
  obtain ⟨k1,k2,k3⟩:=hkid j (by omega) (by omega)
  rw [hyj] at k3
  cases hch with
  | cons _ b _ _ _ _ _ hb y1 y2 hk hs=>
  have hbc:=hs.end;obtain ⟨B',hT,hL⟩:=zwR (l:=l) (n:=n) (i:=i) (e:=e) (B:=Bj) hn hr.lB (k1:=(j:Int)) (b:=em) (x10:=F) (X:=La) (r29:=zch l n c i S e r6);rw [hi] at hT;dsimp only at hT;rw [k3] at hT;have lc:=hr.ha;have lS:=hr.lS;have lB:=hr.lB;have la0:(S.take a0).length=a0:=by rw [List.length_take];omega
  have laj:(S.take aj).length=aj:=by rw [List.length_take];omega
  have lab:(S.take b).length=b:=by rw [List.length_take];omega
  have out:∀ p:Int,bitP La p->0<=p->p < n->(a0:Int)<=p/\p < aj:=fun p hpL p0 p1=>by
   have:=hg.lb p (zgn.2 ⟨p0,by omega,hpL⟩)
   rw [la0,laj] at this;exact this
  have same:∀ p:Int,0<=p->p < n -> ¬ ((a0:Int)<=p/\p < aj)->ix B' p=ix Bj p:=fun p p0 p1 hh=>(hT.2 p p0 p1).2 (fun c=>hh (out p c p0 p1))
  obtain ⟨t1,t2,t3⟩:=hT.rows (m:=b) hn (by omega) lB hr.sB y1
  have hr':RS n c B' S:=⟨hT.1,lS,lc,hT.set hr.sB y1,fun p p0 p1=>by rw [same p (by omega) p1 (by omega)];exact hr.z p p0 p1⟩
  have hch':Ch B' S b (K.drop (j+1)) (ys.drop (j+1)) c:=hs.move (by omega) (by omega) (by rw [hT.1,lB]) rfl (fun p p0 p1=>same p (by omega) (by omega) (by omega))
  have hF':SetP (if em=true then ior .i64 F y.2.1 else F):=by split;exact (zdR hF y1).1;exact hF
  have hL':SetP (if y.1=true then ior .i64 La y.2.2.1 else y.2.2.1):=by split;exact (zdR hLa y2).1;exact y2
  have hg':=(hg.row hk t1 t2 t3 (fi:=bl (if em=true then ior .i64 F y.2.1 else F)) (la:=bl (if y.1=true then ior .i64 La y.2.2.1 else y.2.2.1)) (fun p=>by
   show _↔p∈bl F\/(em=true/\p∈bl y.2.1);by_cases ce:em=true
   ·rw [if_pos ce,znd hF y1];simp [ce]
   ·rw [if_neg ce];simp [ce]) (fun p=>by
   show _↔p∈bl y.2.2.1\/(y.1=true/\p∈bl La);by_cases ce:y.1=true
   ·rw [if_pos ce,znd hLa y2];simp [ce,or_comm]
   ·rw [if_neg ce];simp [ce])).of (Q:=LgS (K.take (j+1))) (V':=lvsL (K.take (j+1))) (fun w=>by rw [htk,zle]) (by rw [htk,zgP])
  obtain ⟨B2,em2,F2,La2,g1,g2⟩:=ih (j+1) b B' (em && y.1) _ _ (by omega) (by omega) hr' hF' hL' hch' hg' (fun p p0 p1=>by rw [same p p0 (by omega) (by omega)];exact hp p p0 p1) (by omega)
  refine ⟨B2,em2,F2,La2,?_,g2⟩
  rw [ziC];unfold zb3;rw [hi];dsimp only;rw [if_pos (by rw [decide_eq_true_iff];omega),zak (by omega),zak ⟨k1,k2⟩,zak (by omega)]
  refine Eq.trans hL ?_
  rw [zfz];unfold zbE;rw [if_neg (by simp),hi]
  dsimp only;rw [k3];refine Eq.trans ?_ g1
  unfold zdr zds zdt;rw [hi];dsimp only;rw [k3];have fj:fits ((j:Int)+1):=by unfold fits;omega
  cases em<;>cases y.1<;>simp [zak fj]
theorem zwT {l:L5} {i at':Int} {e:LEn} {S B behind:List Int} {r6} {K:List (Tr ND)} {ys:LEn} {ks:List Int} {a0 c:Nat} {N0:List (List Int)} {bv:Int} (hi:ix l i=(3,bv,ks,())) (hks:ks.length=K.length) (hys:ys.length=K.length) (hK:K.length<=100000)
  (hkid:∀ j:Int,0<=j->j < K.length->0<=ix ks j/\ix ks j < e.length/\ix e (ix ks j)=ix ys j):∀ (m j aj:Nat) (em:Bool) (F La:Int),K.length - j=m->j<=K.length->SetP F->SetP La->Ch B S aj (K.drop j) (ys.drop j) c->
   GQ (fun w=>∃ x∈K.take j,Lg x w) (lvsL (K.take j)) (S.take a0) N0 (em,bl F,bl La,()) (S.take aj) (dB aj B)->
   ∃ em' F' La',zcK l at' i behind S e r6 (j:Int) em F La=zaS i e r6 at' behind S em' F' La'/\SetP F'/\SetP La'/\GQ (fun w=>∃ x∈K,Lg x w) (lvsL K) (S.take a0) N0 (em',bl F',bl La',()) (S.take c) (dB c B):=by
 intro m
 induction m with
 | zero=>
  intro j aj em F La hm hj hF hLa hch hg;obtain rfl:j=K.length:=by omega
  rw [List.drop_length] at hch;have hc:=hch.end;have hc2:c=aj:=by rw [hc];simp [lvsL]
  subst hc2;rw [List.take_length] at hg;refine ⟨em,F,La,?_,hF,hLa,hg⟩
  rw [ziB];unfold zb2;rw [hi,if_neg (by simp [hks])]
 | succ m ih=>
  intro j aj em F La hm hj hF hLa hch hg;have hjK:j < K.length:=by omega
  have hdK:K.drop j=K[j]::K.drop (j+1):=List.drop_eq_getElem_cons hjK;have hdy:ys.drop j=ys[j]'(by omega)::ys.drop (j+1):=List.drop_eq_getElem_cons (by omega)
  have hyj:ix ys (j:Int)=ys[j]'(by omega):=by rw [zhf (by omega) (by omega)];simp
  have htk:K.take (j+1)=K.take j++[K[j]]:=by rw [List.take_append_getElem]
  rw [hdK,hdy] at hch;generalize K[j]=t at hch htk;generalize ys[j]'(by omega)=y at hch hyj
  obtain ⟨k1,k2,k3⟩:=hkid j (by omega) (by omega)
  rw [hyj] at k3
  cases hch with
  | cons _ b _ _ _ _ _ hb y1 y2 hk hs=>
  have hg':=((hg.alt hk).eqv (e':=(em || y.1,bl (ior .i64 F y.2.1),bl (ior .i64 La y.2.2.1),())) rfl (fun p=>by
   show _↔p∈bl F++bl y.2.1;rw [List.mem_append,znd hF y1]) (fun p=>by
   show _↔p∈bl La++bl y.2.2.1;rw [List.mem_append,znd hLa y2])).of (Q:=fun w=>∃ x∈K.take (j+1),Lg x w) (V':=lvsL (K.take (j+1))) (fun w=>by
    rw [htk];constructor
    ·rintro ⟨x,hx,h⟩;rcases List.mem_append.1 hx with hx | hx
     ·exact .inl ⟨x,hx,h⟩
     ·rw [List.mem_singleton.1 hx] at h;exact .inr h
    ·rintro (⟨x,hx,h⟩ | h)
     ·exact ⟨x,List.mem_append_left _ hx,h⟩
     ·exact ⟨_,List.mem_append_right _ (List.mem_singleton.2 rfl),h⟩) (by rw [htk,zgP])
  obtain ⟨em2,F2,La2,g1,g2⟩:=ih (j+1) b (em || y.1) _ _ (by omega) (by omega) (zdR hF y1).1 (zdR hLa y2).1 hs hg'
  refine ⟨em2,F2,La2,?_,g2⟩
  rw [ziB];unfold zb2;rw [hi];dsimp only;rw [if_pos (by rw [decide_eq_true_iff];omega),zak (by omega),zak ⟨k1,k2⟩,zak (by omega)]
  refine Eq.trans ?_ g1
  unfold zdq;rw [hi];dsimp only;rw [k3];have fj:fits ((j:Int)+1):=by unfold fits;omega
  cases em<;>cases y.1<;>simp [zak fj]
theorem zvi {l:L5} {n:Nat} {i:Int} {e:LEn} {S B:List Int} {r6} {t:Tr ND} {y:Bool×Int×Int×Unit} {k0:Int} {a0 c:Nat} {N0:List (List Int)} {bv:Int} (hn:n<=10) (hi:ix l i=(5,bv,[k0],())) (hkid:ix e k0=y) (y1:SetP y.2.1) (y2:SetP y.2.2.1) (hr:RS n c B S) (ha:a0<=c) (hg:GQ (Lg t) (lvs t) (S.take a0) N0 (dE y) (S.take c) (dB c B)):
  ∃ B',zbu l n c i S e r6 0 B=zaS i e r6 c B' S true y.2.1 y.2.2.1/\RS n c B' S/\GQ (St (Lg t)) (lvs t) (S.take a0) N0 (true,bl y.2.1,bl y.2.2.1,()) (S.take c) (dB c B')/\∀ p:Int,0<=p->p < a0->ix B' p=ix B p:=by
 have lc:=hr.ha;have lS:=hr.lS;have lB:=hr.lB;have hk0:ix (ix l i).2.2.1 0=k0:=by rw [hi];rfl
 obtain ⟨B',hT,hL⟩:=zwS (l:=l) (n:=n) (i:=i) (e:=e) (B:=B) hn lB (at':=(c:Int)) (S:=S) (X:=y.2.2.1) (by rw [hk0,hkid]) (r6:=r6)
 rw [hk0,hkid] at hT;have la0:(S.take a0).length=a0:=by rw [List.length_take];omega
 have lac:(S.take c).length=c:=by rw [List.length_take];omega
 have out:∀ p:Int,bitP y.2.2.1 p->0<=p->p < n->(a0:Int)<=p/\p < c:=fun p hpL p0 p1=>by
  have:=hg.lb p (zgn.2 ⟨p0,by omega,hpL⟩)
  rw [la0,lac] at this;exact this
 have same:∀ p:Int,0<=p->p < n -> ¬ ((a0:Int)<=p/\p < c)->ix B' p=ix B p:=fun p p0 p1 hh=>(hT.2 p p0 p1).2 (fun c=>hh (out p c p0 p1))
 obtain ⟨t1,t2,t3⟩:=hT.rows (m:=c) hn (by omega) lB hr.sB y1
 refine ⟨B',?_,⟨hT.1,lS,lc,hT.set hr.sB y1,fun p p0 p1=>by rw [same p (by omega) p1 (by omega)];exact hr.z p p0 p1⟩,hg.star t1 t2 t3,fun p p0 p1=>same p p0 (by omega) (by omega)⟩
 refine hL.trans ?_
 rw [zfB];unfold zbF;rw [if_neg (by simp),hk0,hkid]
def SegR (l:L5) (n:Nat) (letters:Int) (t:Tr ND) (z:L5) (o:Int):Prop:=∀ (a0:Nat) (B S:List Int) (e:LEn),(e.length:Int)=o->RS n a0 B S->a0+(lvs t).length<=n->
 ∃ B' S' es y,za7 letters l n a0 o B S e=za7 letters l n ((a0+(lvs t).length:Nat):Int) (o+z.length) B' S' (e++(es++[y]))/\(es++[y]).length=z.length/\RS n (a0+(lvs t).length) B' S'/\SetP y.2.1/\SetP y.2.2.1/\
  GQ (Lg t) (lvs t) (S.take a0) (dB a0 B) (dE y) (S'.take (a0+(lvs t).length)) (dB (a0+(lvs t).length) B')/\(∀ p:Int,0<=p->p < a0->ix B' p=ix B p)/\S'.take a0=S.take a0
def SegL (l:L5) (n:Nat) (letters:Int) (K:List (Tr ND)) (ks:List Int) (z:L5) (o:Int):Prop:=∀ (a0:Nat) (B S:List Int) (e:LEn),(e.length:Int)=o->RS n a0 B S->a0+(lvsL K).length<=n->
 ∃ B' S' es ys,za7 letters l n a0 o B S e=za7 letters l n ((a0+(lvsL K).length:Nat):Int) (o+z.length) B' S' (e++es)/\es.length=z.length/\RS n (a0+(lvsL K).length) B' S'/\Ch B' S' a0 K ys (a0+(lvsL K).length)/\ys.length=K.length/\
  (∀ j:Int,0<=j->j < K.length->0<=ix ks j/\ix ks j < (e++es).length/\ix (e++es) (ix ks j)=ix ys j)/\(∀ p:Int,0<=p->p < a0->ix B' p=ix B p)/\S'.take a0=S.take a0
theorem SegL.nil {l:L5} {n:Nat} {letters o:Int}:SegL l n letters [] [] [] o:=by
 intro a0 B S e he hr hn;refine ⟨B,S,[],[],by simp [lvsL],rfl,by simpa [lvsL] using hr,by simpa [lvsL] using Ch.nil (B:=B) (S:=S) a0,rfl,fun j j0 j1=>by simp at j1;omega,fun _ _ _=>rfl,rfl⟩
theorem SegL.cons {l:L5} {n:Nat} {letters o:Int} {t:Tr ND} {K:List (Tr ND)} {ks:List Int} {z w:L5} (h:SegR l n letters t z o) (hs:SegL l n letters K ks w (o+z.length)):SegL l n letters (t::K) ((o+z.length - 1)::ks) (z++w) o:=by
 intro a0 B S e he hr hn;have hlv:(lvsL (t::K)).length=(lvs t).length+(lvsL K).length:=by rw [lvsL,List.length_append]
 rw [hlv] at hn ⊢;obtain ⟨B1,S1,es1,y,f1,f2,f3,f4,f5,f6,f7,f8⟩:=h a0 B S e he hr (by omega)
 obtain ⟨B2,S2,es2,ys,g1,g2,g3,g4,g5,g6,g7,g8⟩:=hs (a0+(lvs t).length) B1 S1 (e++(es1++[y])) (by rw [List.length_append];omega) f3 (by omega)
 rw [Nat.add_assoc] at g1 g3 g4;have e1:(o+((z++w).length:Int))=o+z.length+w.length:=by rw [List.length_append];omega
 have hlast:ix ((e++(es1++[y]))++es2) (o+z.length - 1)=y:=by
  have hl1:((e++(es1++[y])).length:Int)=o+z.length:=by rw [List.length_append];omega
  have hl2:((e++es1).length:Int)=o+z.length - 1:=by rw [List.length_append];rw [List.length_append,List.length_singleton] at f2;omega
  rw [zan (by rw [<- hl2];omega) (by omega),<- List.append_assoc,<- hl2,zau]
 refine ⟨B2,S2,(es1++[y])++es2,y::ys,by rw [e1,<- List.append_assoc];exact f1.trans g1,by rw [List.length_append (bs:=es2),List.length_append (as:=z),f2,g2],g3,?_,by simp [g5],?_,fun p p0 p1=>(g7 p p0 (by omega)).trans (f7 p p0 p1),?_⟩
 ·have l1:=f3.lS;have l2:=g3.lS;have b1:=f3.lB;have b2:=g3.lB;have t0:S2.take a0=S.take a0:=by
   have:=congrArg (List.take a0) g8;rw [List.take_take,List.take_take,Nat.min_eq_left (by omega)] at this
   exact this.trans f8
  have la0:(S.take a0).length=a0:=by rw [List.length_take];have:=hr.lS;omega
  have la1:(S1.take (a0+(lvs t).length)).length=a0+(lvs t).length:=by rw [List.length_take];omega
  refine .cons a0 (a0+(lvs t).length) _ t K y ys rfl f4 f5 ?_ g4
  rw [t0,g8];refine f6.move (by rw [zey (by omega),zey (by omega)]) (fun p p0 p1 => ?_) (fun p p0 p1 => ?_)
  ·rw [la0] at p1;rw [zkj (by omega) p0 (by omega),zkj (by omega) p0 (by omega)]
  ·rw [la0] at p0;rw [la1] at p1;rw [zkj (by omega) (by omega) (by omega),zkj (by omega) (by omega) (by omega),g7 p (by omega) p1]
 ·intro j j0 j1;have hl1:((e++(es1++[y])).length:Int)=o+z.length:=by rw [List.length_append];omega
  have hz1:(z.length:Int) ≥ 1:=by rw [<- f2,List.length_append,List.length_singleton];omega
  rw [<- List.append_assoc];by_cases c:j=0
  ·subst c;have i0:ix ((o+z.length - 1)::ks) 0=o+z.length - 1:=rfl;rw [i0];exact ⟨by omega,by rw [List.length_append];omega,hlast⟩
  ·obtain ⟨i,rfl⟩:∃ i,j=i+1:=⟨j - 1,by omega⟩
   rw [List.length_cons] at j1;have:=g6 i (by omega) (by omega)
   rw [zhC (by omega),zhC (by omega),show i+1 - 1=i by omega]
   exact this
 ·have:=congrArg (List.take a0) g8;rw [List.take_take,List.take_take,Nat.min_eq_left (by omega)] at this
  exact this.trans f8
theorem SegR.node {l:L5} {n:Nat} {letters o a b:Int} {K:List (Tr ND)} {ks:List Int} {z:L5} (hn:n<=10) (hw:wfN (a,b,ks,())) (hlt:o+z.length < l.length) (hix:ix l (o+z.length)=(a,b,ks,())) (hl:l.length<=20000) (hks:ks.length=K.length) (hKl:K.length<=20000) (h:SegL l n letters K ks z o):SegR l n letters (Tr.mk (a,b,()) K) (z++[(a,b,ks,())]) o:=by
 intro a0 B S e he hr hlv;have hm:(lvs (Tr.mk (a,b,()) K)).length ≥ (lvsL K).length:=by
  rw [lvs]
  split
  ·have:ks=[]:=by
    have h2:a=2:=by assumption
    unfold wfN at hw;rcases hw with hw | hw | hw | hw | hw | hw
    ·exact hw.2
    ·exact hw.2
    ·exact hw.2.2.2
    ·have:=hw.1;simp at this;omega
    ·have:=hw.1;simp at this;omega
    ·have:=hw.1;simp at this;omega
   have hK0:K=[]:=List.length_eq_zero_iff.1 (by rw [<- hks,this];rfl)
   rw [hK0];simp [lvsL]
  ·exact Nat.le_refl _
 obtain ⟨B1,S1,es,ys,f1,f2,f3,f4,f5,f6,f7,f8⟩:=h a0 B S e he hr (by omega)
 have hel:((e++es).length:Int)=o+z.length:=by rw [List.length_append];omega
 have l1:=f3.lS;have b1:=f3.lB;have hac:=f3.ha;have st:∀ (at2:Int) (B2 S2:List Int) (x:Bool) (F La:Int),zaS (o+z.length) (e++es) (za7 letters l n) at2 B2 S2 x F La=za7 letters l n at2 (o+((z++[(a,b,ks,())]).length:Int)) B2 S2 (e++(es++[(x,F,La,())])):=fun at2 B2 S2 x F La=>by
  unfold zaS;rw [zak (by unfold room;simp only [List.length_singleton];omega),zak (by unfold fits;omega),List.append_assoc]
  congr 1
  rw [List.length_append,List.length_singleton];omega
 have hlen:∀ y,(es++[y]).length=(z++[(a,b,ks,())]).length:=fun y=>by rw [List.length_append,List.length_append,f2];rfl
 have hB:za7 letters l n ((a0+(lvsL K).length:Nat):Int) (o+z.length) B1 S1 (e++es)=zbS letters l n (za7 letters l n) ((a0+(lvsL K).length:Nat):Int) (o+z.length) B1 S1 (e++es):=by rw [zjO]
 unfold zbS at hB;rw [if_pos (by simpa using hlt),zak ⟨by omega,hlt⟩,hix] at hB
 dsimp only at hB;by_cases c3:a=3
 ·subst c3;simp only [Int.reduceEq,decide_false,Bool.false_eq_true,if_false,decide_true,if_true] at hB;have hq:=znb (a:=3) (b:=b) (K:=K) (by decide)
  rw [hq];have la0:(S.take a0).length=a0:=by rw [List.length_take];have:=hr.lS;omega
  obtain ⟨em,F,La,g1,g2,g3,g4⟩:=zwT (l:=l) (i:=o+z.length) (at':=((a0+(lvsL K).length:Nat):Int)) (e:=e++es) (S:=S1) (B:=B1) (behind:=B1) (r6:=za7 letters l n) (K:=K) (ys:=ys) (a0:=a0) (N0:=dB a0 B) (c:=a0+(lvsL K).length) hix hks f5 (by omega) f6 K.length 0 a0 false 0 0 (by omega) (by omega) zbY.1 zbY.1 f4 (by
   rw [f8];have hd:dB a0 B1=dB a0 B:=zy8 (by have:=hr.lB;have:=hr.ha;omega) (by omega) f7
   rw [hd,zmp];exact (GQ.none (S.take a0) (dB a0 B) (by rw [zey (by have:=hr.lB;have:=hr.ha;omega),la0])).of (by simp) rfl)
  refine ⟨B1,S1,es,(em,F,La,()),f1.trans (hB.trans (g1.trans (st _ _ _ _ _ _))),hlen _,f3,g2,g3,?_,f7,f8⟩
  rw [f8] at g4;exact g4.of (fun w=>by rw [zkc,if_neg (by decide),if_neg (by decide),if_pos rfl,zsn]) rfl
 by_cases c4:a=4
 ·subst c4;simp only [Int.reduceEq,decide_false,Bool.false_eq_true,if_false,decide_true,if_true] at hB;have hq:=znb (a:=4) (b:=b) (K:=K) (by decide)
  rw [hq];have la0:(S.take a0).length=a0:=by rw [List.length_take];have:=hr.lS;omega
  obtain ⟨B2,em,F,La,g1,g5,g2,g3,g4,g6⟩:=zwU (l:=l) (n:=n) (i:=o+z.length) (e:=e++es) (S:=S1) (B:=B1) (r6:=za7 letters l n) (K:=K) (ys:=ys) (a0:=a0) (N0:=dB a0 B) (c:=a0+(lvsL K).length) hn hix hks f5 (by omega) f6 K.length 0 a0 B1 true 0 0 (by omega) (by omega) f3 zbY.1 zbY.1 f4 (by
   rw [f8];have hd:dB a0 B1=dB a0 B:=zy8 (by have:=hr.lB;have:=hr.ha;omega) (by omega) f7
   rw [hd,zmp];exact (GQ.empty (S.take a0) (dB a0 B) (by rw [zey (by have:=hr.lB;have:=hr.ha;omega),la0])).of (fun w=>Iff.rfl) rfl) (fun _ _ _=>rfl) (Nat.le_refl _)
  refine ⟨B2,S1,es,(em,F,La,()),f1.trans (hB.trans (g1.trans (st _ _ _ _ _ _))),hlen _,g5,g2,g3,?_,fun p p0 p1=>(g6 p p0 p1).trans (f7 p p0 p1),f8⟩
  rw [f8] at g4;exact g4.of (fun w=>by rw [zkc,if_neg (by decide),if_neg (by decide),if_neg (by decide),if_pos rfl]) rfl
 by_cases c5:a=5
 ·subst c5;simp only [Int.reduceEq,decide_false,Bool.false_eq_true,if_false,decide_true,if_true] at hB;have hq:=znb (a:=5) (b:=b) (K:=K) (by decide)
  rw [hq];have hk1:ks.length=1:=by
   unfold wfN at hw;rcases hw with hw | hw | hw | hw | hw | hw
   ·have:=hw.1;simp at this
   ·have:=hw.1;simp at this
   ·have:=hw.1;simp at this
   ·have:=hw.1;simp at this
   ·have:=hw.1;simp at this
   ·exact hw.2
  obtain ⟨k0,rfl⟩:=List.length_eq_one_iff.1 hk1;obtain ⟨t0,rfl⟩:=List.length_eq_one_iff.1 (show K.length=1 by rw [<- hks];rfl)
  obtain ⟨y,rfl⟩:=List.length_eq_one_iff.1 (show ys.length=1 by rw [f5];rfl)
  obtain ⟨k1,k2,k3⟩:=f6 0 (by omega) (by simp)
  have k1:0<=k0:=k1;have k2:k0 < (e++es).length:=k2;have k3:ix (e++es) k0=y:=k3;have e1:lvsL [t0]=lvs t0:=by simp [lvsL]
  have h4:=f4;generalize hcc:a0+(lvsL [t0]).length=cc at h4 f3 hB hac
  cases h4 with
  | cons _ b2 _ _ _ _ _ hb y1 y2 hk hs=>
  have hc2:cc=b2:=by have:=hs.end;simp [lvsL] at this;omega
  subst hc2;have hd:dB a0 B1=dB a0 B:=zy8 (by have:=hr.lB;have:=hr.ha;omega) (by omega) f7
  obtain ⟨B2,g1,g5,g4,g6⟩:=zvi (l:=l) (n:=n) (i:=o+z.length) (e:=e++es) (S:=S1) (B:=B1) (r6:=za7 letters l n) hn hix k3 y1 y2 f3 (by omega) hk
  have i0:ix [k0] (0:Int)=k0:=rfl;rw [i0,zak (by simp),zak ⟨k1,k2⟩,zak (by omega)] at hB
  try rw [hcc] at f1
  rw [e1];refine ⟨B2,S1,es,(true,y.2.1,y.2.2.1,()),f1.trans (hB.trans (g1.trans (st _ _ _ _ _ _))),hlen _,g5,y1,y2,?_,fun p p0 p1=>(g6 p p0 p1).trans (f7 p p0 p1),f8⟩
  rw [f8,hd] at g4;exact g4.of (fun w=>by rw [zkc,if_neg (by decide),if_neg (by decide),if_neg (by decide),if_neg (by decide),if_pos rfl];rfl) rfl
 have hks0:ks=[]:=by
  unfold wfN at hw;rcases hw with hw | hw | hw | hw | hw | hw
  ·exact hw.2
  ·exact hw.2
  ·exact hw.2.2.2
  ·exact absurd hw.1 c3
  ·exact absurd hw.1 c4
  ·exact absurd hw.1 c5
 subst hks0;have hK0:K=[]:=List.length_eq_zero_iff.1 (by rw [<- hks];rfl)
 subst hK0;have la0:(S.take a0).length=a0:=by rw [List.length_take];have:=hr.lS;omega
 have hd:dB a0 B1=dB a0 B:=zy8 (by have:=hr.lB;have:=hr.ha;omega) (by omega) f7
 have hl0:(dB a0 B).length=(S.take a0).length:=by rw [zey (by have:=hr.lB;have:=hr.ha;omega),la0]
 by_cases c2:a=2
 ·subst c2;have e0:a0+(lvsL []).length=a0:=by simp [lvsL]
  rw [e0] at hB f1 f3;have hlb:lvs (Tr.mk (2,b,()) [])=[b]:=by rw [lvs,if_pos rfl]
  rw [hlb] at hlv ⊢;have hlv:a0+1<=n:=hlv;simp only [Int.reduceEq,decide_false,Bool.false_eq_true,if_false,decide_true,if_true] at hB;rw [zak (by omega),zak (by omega),zak (by omega),zak (by omega),zak (by unfold fits;omega),st,Int.toNat_natCast] at hB
  obtain ⟨q1,q2⟩:=zyR (q:=(a0:Int)) (by omega) (by omega)
  have hmem:∀ p:Int,p∈bl (ishl .i64 1 (a0:Int))↔p=a0:=fun p=>by
   rw [zgn];constructor
   ·rintro ⟨p0,p1,h⟩;exact (q2 p p0 p1).1 h
   ·rintro rfl;exact ⟨by omega,by omega,(q2 _ (by omega) (by omega)).2 rfl⟩
  have eS:(S1.set a0 b).take (a0+1)=S.take a0++[b]:=by
   rw [<- f8,List.take_add_one,List.take_set_of_le (by omega),List.getElem?_set_self (by omega)];rfl
  have eB:dB (a0+1) B1=dB a0 B++[[]]:=by
   rw [<- hd];refine zqs (by rw [zey (by omega),List.length_append,zey (by omega)];rfl) fun p p0 p1 => ?_
   rw [zey (by omega)] at p1
   rw [zkj (by omega) p0 p1]
   by_cases c:p < a0
   ·rw [zan p0 (by rw [zey (by omega)];omega),zkj (by omega) p0 c]
   ·obtain rfl:p=(a0:Int):=by omega
    rw [f3.z _ (by omega) (by omega),zmp]
    have:(a0:Int)=((dB a0 B1).length:Int):=by rw [zey (by omega)]
    rw [this,zau]
  refine ⟨B1,S1.set a0 b,es,(false,ishl .i64 1 (a0:Int),ishl .i64 1 (a0:Int),()),f1.trans hB,hlen _,⟨b1,by rw [List.length_set];exact l1,hlv,f3.sB,fun p p0 p1=>f3.z p (by simp at p0;omega) p1⟩,q1,q1,?_,f7,by rw [List.take_set_of_le (by omega)];exact f8⟩
  show GQ _ _ _ _ _ ((S1.set a0 b).take (a0+1)) (dB (a0+1) B1);rw [eS,eB];refine ((GQ.letter (x:=b) (S.take a0) (dB a0 B) hl0).eqv (e':=dE (false,ishl .i64 1 (a0:Int),ishl .i64 1 (a0:Int),())) rfl (fun p => ?_) (fun p => ?_)).of (fun w=>by rw [zkc,if_neg (by decide),if_pos rfl]) rfl
  ·show p∈bl _↔p∈[((S.take a0).length:Int)];rw [hmem,la0,List.mem_singleton]
  ·show p∈bl _↔p∈[((S.take a0).length:Int)];rw [hmem,la0,List.mem_singleton]
 have hq:=znb (a:=a) (b:=b) (K:=[]) c2;rw [hq];by_cases c1:a=1
 ·subst c1;simp only [Int.reduceEq,decide_false,Bool.false_eq_true,if_false,decide_true,if_true] at hB;refine ⟨B1,S1,es,(true,0,0,()),f1.trans (hB.trans (st _ _ _ _ _ _)),hlen _,f3,zbY.1,zbY.1,?_,f7,f8⟩
  have e0:a0+(lvsL []).length=a0:=by simp [lvsL]
  rw [e0,f8,hd];refine ((GQ.empty (S.take a0) (dB a0 B) hl0).eqv (e':=dE (true,0,0,())) rfl (fun p => ?_) (fun p => ?_)).of (fun w=>by rw [zkc,if_pos rfl]) rfl
  ·show p∈bl 0↔_;rw [zmp]
  ·show p∈bl 0↔_;rw [zmp]
 ·simp only [c1,c2,c3,c4,c5,decide_false,Bool.false_eq_true,if_false] at hB;refine ⟨B1,S1,es,(false,0,0,()),f1.trans (hB.trans (st _ _ _ _ _ _)),hlen _,f3,zbY.1,zbY.1,?_,f7,f8⟩
  have e0:a0+(lvsL []).length=a0:=by simp [lvsL]
  rw [e0,f8,hd];refine ((GQ.none (S.take a0) (dB a0 B) hl0).eqv (e':=dE (false,0,0,())) rfl (fun p => ?_) (fun p => ?_)).of (fun w=>by rw [zkc,if_neg c1,if_neg c2,if_neg c3,if_neg c4,if_neg c5]) rfl
  ·show p∈bl 0↔_;rw [zmp]
  ·show p∈bl 0↔_;rw [zmp]
theorem SgL.kl {o:Int} {K:List (Tr ND)} {ks:List Int} {y:L5} (h:SgL o K ks y):K.length<=y.length:=by
 match h with
 | .nil _=>exact Nat.le_refl _
 | .cons o t K ks z y h hs=>
  have h1:=hs.kl;have h2:1<=z.length:=by
   cases h with
   | mk=>rw [List.length_append,List.length_singleton];omega
  rw [List.length_cons,List.length_append];omega
mutual
theorem Sg.seg {l:L5} {n:Nat} {letters:Int} (hn:n<=10) (hl:l.length<=20000) {o:Int} {t:Tr ND} {z:L5} (h:Sg o t z) (hx:∀ p:Int,0<=p->p < z.length->ix l (o+p)=ix z p) (hlen:o+z.length<=l.length) (ho:0<=o):SegR l n letters t z o:=by
 match h with
 | .mk o a b K ks z hw h=>
  rw [List.length_append,List.length_singleton] at hx hlen;have hk:=h.kl;refine SegR.node hn hw (by omega) (by rw [hx z.length (by omega) (by omega),zau]) hl h.len.symm (by omega) (h.seg hn hl (fun p p0 p1 => ?_) (by omega) ho)
  rw [hx p p0 (by omega),zan p0 p1]
theorem SgL.seg {l:L5} {n:Nat} {letters:Int} (hn:n<=10) (hl:l.length<=20000) {o:Int} {K:List (Tr ND)} {ks:List Int} {z:L5} (h:SgL o K ks z) (hx:∀ p:Int,0<=p->p < z.length->ix l (o+p)=ix z p) (hlen:o+z.length<=l.length) (ho:0<=o):SegL l n letters K ks z o:=by
 match h with
 | .nil o=>exact SegL.nil
 | .cons o t K ks z y h hs=>
  rw [List.length_append] at hx hlen;refine SegL.cons (h.seg hn hl (fun p p0 p1 => ?_) (by omega) ho) (hs.seg hn hl (fun p p0 p1 => ?_) (by omega) (by omega))
  ·rw [hx p p0 (by omega),zan p0 p1]
  ·rw [show o+z.length+p=o+(z.length+p) by omega,hx _ (by omega) (by omega),zkB (by omega)]
   congr 1;omega
end
abbrev St3:=Int×Int×Int×Unit
section
variable {B S:List Int} {e:LEn} {n:Nat}
theorem zBP (hn:n<=10) (hS:S.length=n) {j:Int} {r55} {from':Int} {o1 o2:Int} {o3:List Int} {fi:List Int}:∀ (m k:Nat) (st:List St3),n - k=m->k<=n->st.length+m<=1000->
  ∃ T:List St3,T.length<=m/\(∀ x:St3,x∈T↔∃ q:Int,k<=q/\q < n/\bitP from' q/\x=(j,ix S q,q,()))/\
   zbv n S e j r55 from' k o1 o2 o3 st fi=zbv n S e j r55 from' n o1 o2 o3 (st++T) fi:=by
 intro m
 induction m with
 | zero=>
  intro k st hm hk hl;obtain rfl:k=n:=by omega
  exact ⟨[],by simp,fun x=>⟨fun h=>(by cases h),fun ⟨q,a,b,_⟩=>by omega⟩,by rw [List.append_nil]⟩
 | succ m ih=>
  intro k st hm hk hl;by_cases c:bitP from' (k:Int)
  ·obtain ⟨T,t1,t2,t3⟩:=ih (k+1) (st++[(j,ix S (k:Int),(k:Int),())]) (by omega) (by omega) (by rw [List.length_append,List.length_singleton];omega)
   refine ⟨(j,ix S (k:Int),(k:Int),())::T,by rw [List.length_cons];omega,fun x => ?_,?_⟩
   ·rw [List.mem_cons,t2];constructor
    ·rintro (rfl | ⟨q,a,b,h⟩)
     ·exact ⟨k,by omega,by omega,c,rfl⟩
     ·exact ⟨q,by omega,b,h⟩
    ·rintro ⟨q,a,b,h1,h2⟩;by_cases d:q=k
     ·subst d;exact .inl h2
     ·exact .inr ⟨q,by omega,b,h1,h2⟩
   ·conv=>lhs;rw [zco];unfold za0
    rw [if_pos (by rw [decide_eq_true_iff];omega),zak (by omega),if_pos (decide_eq_true (show iand .i64 (ishr .i64 from' (k:Int)) 1=1 from c)),zak (by omega),zak (by omega),zak (by unfold room;simp only [List.length_singleton];omega),zak (by unfold fits;omega)]
    rw [List.append_assoc] at t3;exact t3
  ·obtain ⟨T,t1,t2,t3⟩:=ih (k+1) st (by omega) (by omega) (by omega)
   refine ⟨T,by omega,fun x => ?_,?_⟩
   ·rw [t2];constructor
    ·rintro ⟨q,a,b,h⟩;exact ⟨q,by omega,b,h⟩
    ·rintro ⟨q,a,b,h1,h2⟩;by_cases d:q=k
     ·subst d;exact absurd h1 c
     ·exact ⟨q,by omega,b,h1,h2⟩
   ·conv=>lhs;rw [zco];unfold za0
    rw [if_pos (by rw [decide_eq_true_iff];omega),zak (by omega),if_neg (fun h=>c (show iand .i64 (ishr .i64 from' (k:Int)) 1=1 from of_decide_eq_true h)),zak (by unfold fits;omega)]
    exact t3
def Gd (n:Nat) (y:Bool×Int×Int×Unit) (j:Int):Prop:=(j < n/\bitP y.2.2.1 j)\/(j=n/\y.1=true)
def fr (n:Nat) (B:List Int) (y:Bool×Int×Int×Unit) (j:Int):Int:=if j < n then ix B j else y.2.1
theorem zBQ (hn:n<=10) {y:Bool×Int×Int×Unit} (hy:ix e ((e.length:Int) - 1)=y) {j:Int} (j0:0<=j) (j1:j<=n) {r55} {from':Int} {o1 o2:Int} {o3:List Int} {st:List St3} {fi:List Int} (hf:fi.length<=1000):
  ∃ F:List Int,F.length<=1/\(∀ q,q∈F↔q=j/\Gd n y j)/\zbv n S e j r55 from' n o1 o2 o3 st fi=r55 (j+1) o1 o2 o3 st (fi++F):=by
 have k1:Gd n y j->(∀ q,q∈[j]↔q=j/\Gd n y j):=fun h q=>by rw [List.mem_singleton];exact ⟨fun e=>⟨e,h⟩,fun h=>h.1⟩
 have k2 : ¬ Gd n y j->(∀ q,q∈([]:List Int)↔q=j/\Gd n y j):=fun h q=>⟨fun hh=>(by cases hh),fun hh=>absurd hh.2 h⟩
 by_cases c:j < n
 ·by_cases d:bitP y.2.2.1 j
  ·refine ⟨[j],by simp,k1 (.inl ⟨c,d⟩),?_⟩
   rw [zco];unfold za0;rw [if_neg (by simp),if_pos (decide_eq_true c),zak j0,hy,if_pos (decide_eq_true (show iand .i64 (ishr .i64 y.2.2.1 j) 1=1 from d)),zak (by unfold room;simp only [List.length_singleton];omega),zak (by unfold fits;omega)]
  ·refine ⟨[],by simp,k2 (fun h=>h.elim (fun h=>d h.2) (fun h=>by omega)),?_⟩
   rw [zco];unfold za0;rw [if_neg (by simp),if_pos (decide_eq_true c),zak j0,hy,if_neg (fun h=>d (show iand .i64 (ishr .i64 y.2.2.1 j) 1=1 from of_decide_eq_true h)),if_neg (by rw [decide_eq_true_iff];omega),zak (by unfold fits;omega),List.append_nil]
 ·obtain rfl:j=n:=by omega
  by_cases d:y.1=true
  ·refine ⟨[(n:Int)],by simp,k1 (.inr ⟨rfl,d⟩),?_⟩
   rw [zco];unfold za0;rw [if_neg (by simp),if_neg (by simp),if_pos (by simp),hy,if_pos d,zak (by unfold room;simp only [List.length_singleton];omega),zak (by unfold fits;omega)]
  ·refine ⟨[],by simp,k2 (fun h=>h.elim (fun h=>by omega) (fun h=>d h.2)),?_⟩
   rw [zco];unfold za0;rw [if_neg (by simp),if_neg (by simp),if_pos (by simp),hy,if_neg d,zak (by unfold fits;omega),List.append_nil]
theorem zBO (hn:n<=10) (hS:S.length=n) (hB:B.length=n) {y:Bool×Int×Int×Unit} (hy:ix e ((e.length:Int) - 1)=y) {o1 o2:Int} {o3:List Int}:∀ (m j:Nat) (st:List St3) (fi:List Int),n+1 - j=m->j<=n+1->st.length+m * n<=900->fi.length+m<=900->
  ∃ T F,T.length<=900/\F.length<=900/\(∀ x:St3,x∈T↔x∈st\/∃ p q:Int,j<=p/\p<=n/\0<=q/\q < n/\bitP (fr n B y p) q/\x=(p,ix S q,q,()))/\(∀ q,q∈F↔q∈fi\/(j<=q/\q<=n/\Gd n y q))/\
   zci n B S e j o1 o2 o3 st fi=some (o1,o2,o3,T,F,()):=by
 intro m
 induction m with
 | zero=>
  intro j st fi hm hj hl hf;obtain rfl:j=n+1:=by omega
  refine ⟨st,fi,by omega,by omega,fun x=>⟨.inl,fun h=>h.elim id (fun ⟨p,q,a,b,_⟩=>by omega)⟩,fun q=>⟨.inl,fun h=>h.elim id (fun ⟨a,b,_⟩=>by omega)⟩,?_⟩
  rw [ziD];unfold zb4;rw [if_neg (by rw [decide_eq_true_iff];omega)]
 | succ m ih=>
  intro j st fi hm hj hl hf;have hmn:(m+1) * n=m * n+n:=Nat.succ_mul m n;obtain ⟨T1,a1,a2,a3⟩:=zBP (S:=S) (e:=e) (j:=(j:Int)) (r55:=zci n B S e) (from':=fr n B y j) (o1:=o1) (o2:=o2) (o3:=o3) (fi:=fi) hn hS n 0 st (by omega) (by omega) (by omega)
  obtain ⟨F1,b1,b2,b3⟩:=zBQ (S:=S) (e:=e) (j:=(j:Int)) (r55:=zci n B S e) (from':=fr n B y j) (o1:=o1) (o2:=o2) (o3:=o3) (st:=st++T1) (fi:=fi) hn hy (by omega) (by omega) (by omega)
  obtain ⟨T,F,c1,c2,c3,c4,c5⟩:=ih (j+1) (st++T1) (fi++F1) (by omega) (by omega) (by rw [List.length_append];omega) (by rw [List.length_append];omega)
  refine ⟨T,F,c1,c2,fun x => ?_,fun q => ?_,?_⟩
  ·rw [c3,List.mem_append,a2,or_assoc];refine or_congr Iff.rfl ?_
   constructor
   ·rintro (⟨q,q0,q1,h,h2⟩ | ⟨p,q,p0,p1,h⟩)
    ·exact ⟨j,q,by omega,by omega,by omega,q1,h,h2⟩
    ·exact ⟨p,q,by omega,p1,h⟩
   ·rintro ⟨p,q,p0,p1,q0,q1,h,h2⟩;by_cases d:p=j
    ·subst d;exact .inl ⟨q,by omega,q1,h,h2⟩
    ·exact .inr ⟨p,q,by omega,p1,q0,q1,h,h2⟩
  ·rw [c4,List.mem_append,b2,or_assoc];refine or_congr Iff.rfl ?_
   constructor
   ·rintro (⟨rfl,h⟩ | ⟨p0,p1,h⟩)
    ·exact ⟨by omega,by omega,h⟩
    ·exact ⟨by omega,p1,h⟩
   ·rintro ⟨p0,p1,h⟩;by_cases d:q=j
    ·subst d;exact .inl ⟨rfl,h⟩
    ·exact .inr ⟨by omega,p1,h⟩
  ·have hs:zci n B S e j o1 o2 o3 st fi=zbv n S e j (zci n B S e) (fr n B y j) (0:Nat) o1 o2 o3 st fi:=by
    rw [ziD];unfold zb4 zdu;rw [if_pos (by rw [decide_eq_true_iff];omega)]
    by_cases d:j < n
    ·rw [if_pos (by rw [decide_eq_true_iff];omega),zak (by omega),zak (by omega)]
     unfold fr;rw [if_pos (by omega)];rfl
    ·rw [if_neg (by rw [decide_eq_true_iff];omega),hy]
     unfold fr;rw [if_neg (by omega)];rfl
   rw [hs,a3,b3];exact c5
end
theorem zui {a:Tr ND} {l:L5} {letters:Int} (h:Sg 0 a l) {n:Nat} (hv:(lvs a).length=n) (hn:n<=10) (hl:l.length<=20000):
  ∃ B y T F,B.length=n/\(∀ p:Int,0<=p->p < n->SetP (ix B p))/\SetP y.2.1/\SetP y.2.2.1/\GQ (Lg a) (lvs a) [] [] (dE y) (lvs a) (dB n B)/\T.length<=900/\F.length<=900/\
   (∀ x:St3,x∈T↔∃ p q:Int,0<=p/\p<=n/\0<=q/\q < n/\bitP (fr n B y p) q/\x=(p,ix (lvs a) q,q,()))/\(∀ q:Int,q∈F↔(0<=q/\q<=n/\Gd n y q))/\
   zly letters l n=some (letters,(n:Int)+1,[(n:Int)],T,F,()):=by
 have hs:=h.seg (l:=l) (n:=n) (letters:=letters) hn hl (fun p p0 p1=>by rw [Int.zero_add]) (by omega) (by omega)
 obtain ⟨B,S,es,y,f1,f2,f3,f4,f5,f6,f7,f8⟩:=hs 0 (List.replicate n 0) (List.replicate n 0) [] rfl
  ⟨by simp,by simp,by omega,fun p p0 p1=>by rw [zcy p0 p1];exact zbY.1,fun p p0 p1=>by rw [zcy (by simpa using p0) p1]⟩ (by omega)
 rw [hv,Nat.zero_add] at f1 f3 f6;have hS:=f3.lS;have hB:=f3.lB;have d0:dB 0 (List.replicate n (0:Int))=[]:=rfl;rw [d0,List.take_zero,List.take_of_length_le (l:=S) (by omega)] at f6
 have hS2:S=lvs a:=f6.lp;subst hS2;have hel:(([]++(es++[y]):LEn).length:Int)=l.length:=by rw [List.nil_append,f2]
 have hlast:ix ([]++(es++[y]):LEn) ((([]++(es++[y]):LEn).length:Int) - 1)=y:=by
  rw [List.nil_append,List.length_append,List.length_singleton];rw [show (((es.length+1:Nat):Int) - 1)=(es.length:Int) by omega,zau]
 have hpos:1<=l.length:=by rw [<- f2,List.length_append,List.length_singleton];omega
 obtain ⟨T,F,t1,t2,t3,t4,t5⟩:=zBO (e:=[]++(es++[y])) (o1:=letters) (o2:=(n:Int)+1) (o3:=[(n:Int)]) hn hv hB hlast (n+1) 0 [] [] (by omega) (by omega) (by
  have:(n+1) * n<=11 * 10:=Nat.mul_le_mul (by omega) hn
  simp;omega) (by simp;omega)
 refine ⟨B,y,T,F,hB,f3.sB,f4,f5,f6,t1,t2,fun x => ?_,fun q => ?_,?_⟩
 ·rw [t3];simp
 ·rw [t4];simp
 ·unfold zly;rw [zak (by unfold mkOK;omega),zak (by unfold mkOK;omega)]
  refine f1.trans ?_
  rw [zjO];unfold zbS;rw [if_neg (by rw [decide_eq_true_iff];omega),zak (by unfold fits;omega),zak (by omega),zak (by omega),zak (by unfold fits;omega)]
  exact t5
open Classical in
def stM (p:Int->Prop):Nat->Int
 | 0=>0
 | k+1=>if p (k:Int) then ior .i64 (stM p k) (ishl .i64 1 (k:Int)) else stM p k
theorem zyS (p:Int->Prop):∀ k:Nat,k<=11->SetP (stM p k)/\∀ r:Int,0<=r->r < 11->(bitP (stM p k) r↔r < k/\p r)
 | 0,_=>⟨zbY.1,fun r r0 r1=>⟨fun h=>absurd h (zbY.2 r r0 r1),fun h=>by omega⟩⟩
 | k+1,hk=>by
  obtain ⟨h1,h2⟩:=zyS p k (by omega)
  unfold stM;by_cases c:p (k:Int)
  ·rw [if_pos c];obtain ⟨h3,h4⟩:=zus h1 (q:=(k:Int)) (by omega) (by omega)
   refine ⟨h3,fun r r0 r1 => ?_⟩
   rw [h4 r r0 r1,h2 r r0 r1];constructor
   ·rintro (⟨a,b⟩ | rfl)
    ·exact ⟨by omega,b⟩
    ·exact ⟨by omega,c⟩
   ·rintro ⟨a,b⟩;by_cases d:r=k
    ·exact .inr d
    ·exact .inl ⟨by omega,b⟩
  ·rw [if_neg c];refine ⟨h1,fun r r0 r1 => ?_⟩
   rw [h2 r r0 r1];constructor
   ·rintro ⟨a,b⟩;exact ⟨by omega,b⟩
   ·rintro ⟨a,b⟩;by_cases d:r=k
    ·subst d;exact absurd b c
    ·exact ⟨by omega,b⟩
def stOf (p:Int->Prop):Int:=stM p 11
theorem zoL (p:Int->Prop):SetP (stOf p)/\∀ r:Int,0<=r->r < 11->(bitP (stOf p) r↔p r):=
 ⟨(zyS p 11 (Nat.le_refl _)).1,fun r r0 r1=>((zyS p 11 (Nat.le_refl _)).2 r r0 r1).trans ⟨fun h=>h.2,fun h=>⟨r1,h⟩⟩⟩
theorem SetP.ext {s t:Int} (hs:SetP s) (ht:SetP t) (h:∀ r:Int,0<=r->r < 11->(bitP s r↔bitP t r)):s=t:=by
 obtain ⟨m,rfl,hm⟩:=hs;obtain ⟨k,rfl,hk⟩:=ht;have:m=k:=by
  refine Nat.eq_of_testBit_eq fun i => ?_
  by_cases c:i < 11
  ·have:=h i (by omega) (by omega)
   rw [zdx hm (by omega),zdx hk (by omega)] at this
   exact Bool.eq_iff_iff.2 this
  ·have h2:2 ^ 11<=2 ^ i:=Nat.pow_le_pow_right (by omega) (by omega)
   rw [Nat.testBit_lt_two_pow (by omega),Nat.testBit_lt_two_pow (by omega)]
 rw [this]
theorem zyT {s:Int} {p:Int->Prop} (hs:SetP s) (h:∀ r:Int,0<=r->r < 11->(bitP s r↔p r)):s=stOf p:=
 hs.ext (zoL p).1 fun r r0 r1=>(h r r0 r1).trans ((zoL p).2 r r0 r1).symm
theorem bit0 {s q:Int} (hs:SetP s) (q0:0<=q) (q1:q<=11):iand .i64 (ishr .i64 s q) 1=0 ↔ ¬ bitP s q:=by
 obtain ⟨m,rfl,hm⟩:=hs;obtain ⟨k,rfl⟩:∃ k:Nat,q=k:=⟨q.toNat,by omega⟩
 unfold bitP;have hs2:m >>> k<=m:=Nat.shiftRight_le m k;rw [zpK (by omega),show (1:Int)=((1:Nat):Int) from rfl,zs2 (by omega) (by omega),Nat.and_one_is_mod]
 omega
theorem SetP.lt {s:Int} {n:Nat} (hs:SetP s) (hn:n<=11) (h:∀ r:Int,0<=r->r < 11->bitP s r->r < n):0<=s/\s < ((2 ^ n:Nat):Int):=by
 obtain ⟨m,rfl,hm⟩:=hs;refine ⟨by omega,?_⟩
 have:m < 2 ^ n:=by
  refine Nat.lt_pow_two_of_testBit m fun i hi => ?_
  by_cases c:i < 11
  ·cases e:m.testBit i with
   | false=>rfl
   | true=>
    have:=h i (by omega) (by omega) ((zdx hm (by omega)).2 e)
    omega
  ·have h2:2 ^ 11<=2 ^ i:=Nat.pow_le_pow_right (by omega) (by omega)
   exact Nat.testBit_lt_two_pow (by omega)
 omega
def SX (L:List Int) (M:List (List Int)) (n:Nat) (s t q:Int):Prop:=∃ p:Int,0<=p/\p<=n/\bitP s p/\q∈ix M p/\ix L q=t
def nxA (L:List Int) (M:List (List Int)) (n:Nat) (s t:Int):Int:=stOf (SX L M n s t)
open Classical in
def mkA (n:Nat) (e:EN) (s:Int):Int:=if ∃ k:Int,0<=k/\k<=n/\bitP s k/\((k < n/\k∈e.2.2.1)\/(k=n/\e.1=true)) then 1 else 0
section
variable {L:List Int} {M:List (List Int)} {n:Nat}
def SmN (n:Nat) (s:Int):Prop:=SetP s/\∀ r:Int,0<=r->r < 11->bitP s r->r<=n
theorem zyD (hb:∀ p:Int,0<=p->p<=n->∀ q∈ix M p,0<=q/\q < n) (s t:Int):SmN n (nxA L M n s t):=
 ⟨(zoL _).1,fun r r0 r1 h=>by
  obtain ⟨p,p0,p1,_,hq,_⟩:=((zoL _).2 r r0 r1).1 h;have:=hb p p0 p1 r hq;omega⟩
theorem zv6 (hn:n<=10) (hb:∀ p:Int,0<=p->p<=n->∀ q∈ix M p,0<=q/\q < n):∀ (w:List Int) (s:Int),SmN n s->SmN n (w.foldl (nxA L M n) s)/\∀ q:Int,0<=q->q < 11->(bitP (w.foldl (nxA L M n) s) q↔∃ p:Int,0<=p/\p<=n/\bitP s p/\Pt L M p w q)
 | [],s,hs=>⟨hs,fun q q0 q1=>by
   constructor
   ·intro h;exact ⟨q,q0,hs.2 q q0 q1 h,h,rfl⟩
   ·rintro ⟨p,_,_,h,rfl⟩;exact h⟩
 | a::w,s,hs=>by
  obtain ⟨h1,h2⟩:=zv6 hn hb w (nxA L M n s a) (zyD hb s a);refine ⟨h1,fun q q0 q1 => ?_⟩
  show bitP (w.foldl (nxA L M n) (nxA L M n s a)) q↔_;rw [h2 q q0 q1];constructor
  ·rintro ⟨r,r0,r1,h,h3⟩;obtain ⟨p,p0,p1,h4,h5,h6⟩:=((zoL _).2 r r0 (by omega)).1 h
   exact ⟨p,p0,p1,h4,r,h5,h6,h3⟩
  ·rintro ⟨p,p0,p1,h4,r,h5,h6,h3⟩;have hr:=hb p p0 p1 r h5;exact ⟨r,hr.1,by omega,((zoL _).2 r hr.1 (by omega)).2 ⟨p,p0,p1,h4,h5,h6⟩,h3⟩
theorem zya (hn:n<=10):SmN n (ishl .i64 1 (n:Int))/\∀ r:Int,0<=r->r < 11->(bitP (ishl .i64 1 (n:Int)) r↔r=n):=by
 obtain ⟨h1,h2⟩:=zyR (q:=(n:Int)) (by omega) (by omega)
 exact ⟨⟨h1,fun r r0 r1 h=>by have:=(h2 r r0 r1).1 h;omega⟩,h2⟩
theorem zv2 {P:List Int->Prop} {V:List Int} {e:EN} {N:List (List Int)} (hg:GQ P V [] [] e L N) (hL:L.length=n) (hn:n<=10):(∀ p:Int,0<=p->p<=n->∀ q∈ix (N++[e.2.1]) p,0<=q/\q < n)/\∀ w,mkA n e (w.foldl (nxA L (N++[e.2.1]) n) (ishl .i64 1 (n:Int)))=1↔P w:=by
 have hll:=hg.ll;have hMl:∀ p:Int,0<=p->p < n->ix (N++[e.2.1]) p=ix N p:=fun p p0 p1=>zan p0 (by omega)
 have hMn:ix (N++[e.2.1]) (n:Int)=e.2.1:=by rw [<- hL,<- hll];exact zau
 have hnb:∀ p:Int,0<=p->p < n->∀ q∈ix N p,0<=q/\q < n:=fun p p0 p1 q hq=>by
  have:=hg.nb p (by simpa using p0) (by omega) q hq
  rw [hL] at this;simpa using this
 have hfb:∀ q∈e.2.1,0<=q/\q < n:=fun q hq=>by
  have:=hg.fb q hq;rw [hL] at this;simpa using this
 have hlb:∀ q∈e.2.2.1,0<=q/\q < n:=fun q hq=>by
  have:=hg.lb q hq;rw [hL] at this;simpa using this
 have hb:∀ p:Int,0<=p->p<=n->∀ q∈ix (N++[e.2.1]) p,0<=q/\q < n:=fun p p0 p1 q hq=>by
  by_cases c:p=n
  ·subst c;rw [hMn] at hq;exact hfb q hq
  ·rw [hMl p p0 (by omega)] at hq;exact hnb p p0 (by omega) q hq
 refine ⟨hb,fun w => ?_⟩
 obtain ⟨f1,f2⟩:=zya hn;obtain ⟨s1,s2⟩:=zv6 hn hb (L:=L) w _ f1;have hbit:∀ k:Int,0<=k->k<=n->(bitP (w.foldl (nxA L (N++[e.2.1]) n) (ishl .i64 1 (n:Int))) k↔Pt L (N++[e.2.1]) n w k):=fun k k0 k1=>by
  rw [s2 k k0 (by omega)]
  constructor
  ·rintro ⟨p,p0,p1,h,h2⟩;rw [f2 p p0 (by omega)] at h
   subst h;exact h2
  ·intro h;exact ⟨n,by omega,by omega,(f2 n (by omega) (by omega)).2 rfl,h⟩
 have e1:mkA n e (w.foldl (nxA L (N++[e.2.1]) n) (ishl .i64 1 (n:Int)))=1↔∃ k:Int,0<=k/\k<=n/\Pt L (N++[e.2.1]) n w k/\((k < n/\k∈e.2.2.1)\/(k=n/\e.1=true)):=by
  rw [show (∃ k:Int,0<=k/\k<=n/\Pt L (N++[e.2.1]) n w k/\((k < n/\k∈e.2.2.1)\/(k=n/\e.1=true)))↔(∃ k:Int,0<=k/\k<=n/\bitP (w.foldl (nxA L (N++[e.2.1]) n) (ishl .i64 1 (n:Int))) k/\((k < n/\k∈e.2.2.1)\/(k=n/\e.1=true))) from
   exists_congr fun k=>and_congr_right fun k0=>and_congr_right fun k1=>and_congr (hbit k k0 k1).symm Iff.rfl]
  unfold mkA
  split
  ·rename_i h;exact ⟨fun _=>h,fun _=>rfl⟩
  ·rename_i h;exact ⟨fun hh=>absurd hh (by decide),fun hh=>absurd hh h⟩
 rw [e1,hg.lg w]
 cases w with
 | nil=>
  constructor
  ·rintro ⟨k,k0,k1,h,h6⟩;have h:(n:Int)=k:=h;subst h;exact .inl ⟨rfl,h6.elim (fun h=>by omega) (fun h=>h.2)⟩
  ·rintro (⟨_,h⟩ | ⟨a,w',h,_⟩)
   ·exact ⟨n,by omega,by omega,rfl,.inr ⟨rfl,h⟩⟩
   ·cases h
 | cons x w=>
  have hpt:∀ k:Int,Pt L (N++[e.2.1]) n (x::w) k↔∃ p∈e.2.1,ix L p=x/\Pt L N p w k:=fun k=>by
   show (∃ r∈ix (N++[e.2.1]) n,_)↔_;rw [hMn];refine exists_congr fun r=>and_congr_right fun hr=>and_congr_right fun _ => ?_
   exact Pt.cong (n0:=0) (n1:=n) (fun p p0 p1=>hnb p p0 p1) hMl (fun _ _ _=>rfl) (hfb r hr)
  constructor
  ·rintro ⟨k,k0,k1,h,h6⟩;obtain ⟨p,hp,h7,h8⟩:=(hpt k).1 h;have hk:=Pt.rng (n0:=0) (n1:=n) (fun p p0 p1=>hnb p p0 p1) (hfb p hp) h8
   exact .inr ⟨x,w,rfl,p,hp,h7,k,h6.elim (fun h=>h.2) (fun h=>by omega),h8⟩
  ·rintro (⟨h,_⟩ | ⟨a,w',h,p,hp,h7,q,hq,h8⟩)
   ·cases h
   ·injection h with h9 h10
    subst h9 h10;have hq2:=hlb q hq;exact ⟨q,hq2.1,by omega,(hpt q).2 ⟨p,hp,h7,h8⟩,.inl ⟨hq2.2,hq⟩⟩
end
section
variable {L:List Int} {M:List (List Int)} {n:Nat} {good:List Bool}
theorem d2_L7 (hn:n<=10) (hL:L.length=n) (hM:M.length=n+1) (hb:∀ p:Int,0<=p->p<=n->∀ q∈ix M p,0<=q/\q < n) (hrow:∀ p:Int,0<=p->p<=n->(ix M p).length<=9000000000000) {a p:Int} (p0:0<=p) (p1:p<=n) {r3}:∀ (m k:Nat) (to:Int),(ix M p).length - k=m->k<=(ix M p).length->SetP to->
  ∃ to',SetP to'/\(∀ r:Int,0<=r->r < 11->(bitP to' r↔bitP to r\/∃ j:Int,k<=j/\j < (ix M p).length/\ix (ix M p) j=r/\ix L r=a))/\zb7 a (L,(M,())) p r3 to k=r3 to' (p+1):=by
 have hr:=hrow p p0 p1;intro m
 induction m with
 | zero=>
  intro k to hm hk ht;refine ⟨to,ht,fun r r0 r1=>⟨.inl,fun h=>h.elim id (fun ⟨j,j0,j1,_⟩=>by omega)⟩,?_⟩
  rw [zew];unfold zbi;rw [if_neg (by rw [decide_eq_true_iff];dsimp only;omega),zak (by unfold fits;omega)]
 | succ m ih=>
  intro k to hm hk ht;have hx:=hb p p0 p1 _ (zb9 (i:=(k:Int)) (by omega) (by omega))
  by_cases c:ix L (ix (ix M p) (k:Int))=a
  ·obtain ⟨h3,h4⟩:=zus ht hx.1 (by omega)
   obtain ⟨to',t1,t2,t3⟩:=ih (k+1) _ (by omega) (by omega) h3
   refine ⟨to',t1,fun r r0 r1 => ?_,?_⟩
   ·rw [t2 r r0 r1,h4 r r0 r1];constructor
    ·rintro ((h | h) | ⟨j,j0,j1,h⟩)
     ·exact .inl h
     ·exact .inr ⟨k,by omega,by omega,h.symm,by rw [h];exact c⟩
     ·exact .inr ⟨j,by omega,j1,h⟩
    ·rintro (h | ⟨j,j0,j1,h1,h2⟩)
     ·exact .inl (.inl h)
     ·by_cases d:j=k
      ·subst d;exact .inl (.inr h1.symm)
      ·exact .inr ⟨j,by omega,j1,h1,h2⟩
   ·rw [zew];unfold zbi;dsimp only;rw [if_pos (by rw [decide_eq_true_iff];omega),zak (by omega),zak (by omega),if_pos (decide_eq_true c),zak hx.1,zak (by unfold fits;omega)]
    exact t3
  ·obtain ⟨to',t1,t2,t3⟩:=ih (k+1) to (by omega) (by omega) ht
   refine ⟨to',t1,fun r r0 r1 => ?_,?_⟩
   ·rw [t2 r r0 r1];constructor
    ·rintro (h | ⟨j,j0,j1,h⟩)
     ·exact .inl h
     ·exact .inr ⟨j,by omega,j1,h⟩
    ·rintro (h | ⟨j,j0,j1,h1,h2⟩)
     ·exact .inl h
     ·by_cases d:j=k
      ·subst d;subst h1;exact absurd h2 c
      ·exact .inr ⟨j,by omega,j1,h1,h2⟩
   ·rw [zew];unfold zbi;dsimp only;rw [if_pos (by rw [decide_eq_true_iff];omega),zak (by omega),zak (by omega),if_neg (by rw [decide_eq_true_iff];exact c),zak (by unfold fits;omega)]
    exact t3
theorem zAm (hn:n<=10) (hL:L.length=n) (hM:M.length=n+1) (hg:good.length=n+1) (hb:∀ p:Int,0<=p->p<=n->∀ q∈ix M p,0<=q/\q < n) (hrow:∀ p:Int,0<=p->p<=n->(ix M p).length<=9000000000000) {s:Int} (hs:SetP s) (a:Int):zgA s a good (L,(M,()))=some (nxA L M n s a,L,M,()):=by
 have key:∀ (m k:Nat) (to:Int),n+1 - k=m->k<=n+1->SetP to->(∀ r:Int,0<=r->r < 11->(bitP to r↔∃ p:Int,0<=p/\p < k/\bitP s p/\r∈ix M p/\ix L r=a))->zdo s a good (L,(M,())) to k=some (nxA L M n s a,L,M,()):=by
  intro m
  induction m with
  | zero=>
   intro k to hm hk ht hq;obtain rfl:k=n+1:=by omega
   rw [zg6];unfold zbB;rw [if_neg (by rw [decide_eq_true_iff];omega)]
   have:to=nxA L M n s a:=zyT ht fun r r0 r1=>by
    rw [hq r r0 r1];constructor
    ·rintro ⟨p,p0,p1,h⟩;exact ⟨p,p0,by omega,h⟩
    ·rintro ⟨p,p0,p1,h⟩;exact ⟨p,p0,by omega,h⟩
   rw [this]
  | succ m ih=>
   intro k to hm hk ht hq;rw [zg6];unfold zbB;rw [if_pos (by rw [decide_eq_true_iff];omega),zak (by omega)]
   by_cases c:bitP s (k:Int)
   ·rw [if_neg (by rw [decide_eq_true_iff,bit0 hs (by omega) (by omega)];exact not_not_intro c),zak (by dsimp only;omega)]
    obtain ⟨to',t1,t2,t3⟩:=d2_L7 (r3:=zdo s a good (L,(M,()))) (a:=a) hn hL hM hb hrow (p:=(k:Int)) (by omega) (by omega) _ 0 to rfl (by omega) ht
    refine t3.trans (ih (k+1) to' (by omega) (by omega) t1 fun r r0 r1 => ?_)
    rw [t2 r r0 r1,hq r r0 r1];constructor
    ·rintro (⟨p,p0,p1,h⟩ | ⟨j,j0,j1,h1,h2⟩)
     ·exact ⟨p,p0,by omega,h⟩
     ·exact ⟨k,by omega,by omega,c,by rw [<- h1];exact zb9 (by omega) j1,h2⟩
    ·rintro ⟨p,p0,p1,h1,h2,h3⟩;by_cases d:p=k
     ·subst d;obtain ⟨j,j0,j1,h4⟩:=(zoe (P:=fun x=>x=r)).1 ⟨r,h2,rfl⟩
      exact .inr ⟨j,j0,j1,h4,h3⟩
     ·exact .inl ⟨p,p0,by omega,h1,h2,h3⟩
   ·rw [if_pos (by rw [decide_eq_true_iff,bit0 hs (by omega) (by omega)];exact c),zak (by unfold fits;omega)]
    refine ih (k+1) to (by omega) (by omega) ht fun r r0 r1 => ?_
    rw [hq r r0 r1];constructor
    ·rintro ⟨p,p0,p1,h⟩;exact ⟨p,p0,by omega,h⟩
    ·rintro ⟨p,p0,p1,h1,h2⟩;by_cases d:p=k
     ·subst d;exact absurd h1 c
     ·exact ⟨p,p0,by omega,h1,h2⟩
 unfold zgA;exact key _ 0 0 rfl (by omega) zbY.1 fun r r0 r1=>⟨fun h=>absurd h (zbY.2 r r0 r1),fun ⟨p,p0,p1,_⟩=>by omega⟩
def zmL (n:Nat) (e:EN) (la:Int):Prop:=SetP la/\∀ k:Int,0<=k->k < 11->(bitP la k↔k<=n/\((k < n/\k∈e.2.2.1)\/(k=n/\e.1=true)))
theorem zyx {e:EN} {la s:Int} (hn:n<=10) (hla:zmL n e la) (hs:SmN n s):0<=iand .i64 s la/\(¬ iand .i64 s la=0↔mkA n e s=1)/\(iand .i64 s la=0↔mkA n e s=0):=by
 obtain ⟨h0,h1⟩:=zzN hs.1 hla.1;have h2:(∃ r:Int,0<=r/\r < 11/\bitP s r/\bitP la r)↔∃ k:Int,0<=k/\k<=n/\bitP s k/\((k < n/\k∈e.2.2.1)\/(k=n/\e.1=true)):=by
  constructor
  ·rintro ⟨r,r0,r1,h,h2⟩;have:=(hla.2 r r0 r1).1 h2;exact ⟨r,r0,this.1,h,this.2⟩
  ·rintro ⟨r,r0,r1,h,h2⟩;exact ⟨r,r0,by omega,h,(hla.2 r r0 (by omega)).2 ⟨r1,h2⟩⟩
 rw [h2] at h1;refine ⟨h0,?_,?_⟩
 ·rw [h1];unfold mkA
  split
  ·rename_i h;exact ⟨fun _=>rfl,fun _=>h⟩
  ·rename_i h;exact ⟨fun hh=>absurd hh h,fun hh=>absurd hh (by decide)⟩
 ·rw [<- Decidable.not_iff_not,h1];unfold mkA
  split
  ·rename_i h;exact ⟨fun _=>by decide,fun _=>h⟩
  ·rename_i h;exact ⟨fun hh=>absurd hh h,fun hh=>absurd rfl hh⟩
theorem zAn {e:EN} {la s:Int} (hn:n<=10) (hla:zmL n e la) (hs:SmN n s):zgB s la=some (mkA n e s):=by
 obtain ⟨h0,h1,h2⟩:=zyx hn hla hs;unfold zgB;by_cases c:iand .i64 s la=0
 ·rw [if_neg (by simpa using c),h2.1 c]
 ·rw [if_pos (by simpa using c),h1.1 c]
theorem zwn {e:EN} {g:Nat} (hn:n<=10) (hb:∀ p:Int,0<=p->p<=n->∀ q∈ix M p,0<=q/\q < n):XOk (nxA L M n) (mkA n e) g (ishl .i64 1 (n:Int)) 2048 (SmN n):=
 XOk.int (fun s ⟨⟨m,e,hm⟩,_⟩=>by omega) (zya hn).1 (fun s _ t _ _=>zyD hb s t) (fun s _=>by unfold mkA;split<;>simp)
theorem x_row {e:EN} {g la:Int} (hn:n<=10) (hL:L.length=n) (hM:M.length=n+1) (hg:good.length=n+1) (hb:∀ p:Int,0<=p->p<=n->∀ q∈ix M p,0<=q/\q < n) (hrow:∀ p:Int,0<=p->p<=n->(ix M p).length<=9000000000000) (hla:zmL n e la) (h1:1<=g/\g<=4)
  {L0:List Int} {D2:List (List Int)} {D3:List Int} {r4} {s:Int} {l:List Int} (hs:SmN n s) (hl:LiOk 2048 (SmN n) l) (eL:ix L0 (D2.length:Int)=s) (h2:D2.length<=3000) (h3:D3.length<=3000):
  zcf g la 3000 g 0 L0 D2 D3 r4 good 0 (L,(M,())) l (iota l.length) l (List.replicate g.toNat 0)=
   r4 good (L,(M,())) g 0 (xRow (nxA L M n) s l g.toNat).1 (iota (xRow (nxA L M n) s l g.toNat).1.length) (xRow (nxA L M n) s l g.toNat).1 (D2++[(xRow (nxA L M n) s l g.toNat).2]) (D3++[mkA n e s]):=by
 have hx:=zwn (L:=L) (e:=e) (g:=g.toNat) hn hb;have key:∀ (m t:Nat) (row:List Int),g.toNat - t=m->t<=g.toNat->row.length=g.toNat->(∀ j:Int,0<=j->j < t->ix row j=ix (xRow (nxA L M n) s l t).2 j)->
   zcf g la 3000 g 0 L0 D2 D3 r4 good t (L,(M,())) (xRow (nxA L M n) s l t).1 (iota (xRow (nxA L M n) s l t).1.length) (xRow (nxA L M n) s l t).1 row=
   r4 good (L,(M,())) g 0 (xRow (nxA L M n) s l g.toNat).1 (iota (xRow (nxA L M n) s l g.toNat).1.length) (xRow (nxA L M n) s l g.toNat).1 (D2++[(xRow (nxA L M n) s l g.toNat).2]) (D3++[mkA n e s]):=by
  intro m
  induction m with
  | zero=>
   intro t row hm ht hr hj;obtain rfl:t=g.toNat:=by omega
   obtain ⟨g1,⟨_,g2,_⟩⟩:=zoQ hx hs hl g.toNat (Nat.le_refl _);have:row=(xRow (nxA L M n) s l g.toNat).2:=zqs (by omega) fun j j0 j1=>hj j j0 (by omega)
   rw [zir];unfold zb1;rw [if_neg (by simp;omega),this]
   refine G_to (by unfold room;simp;omega) ?_
   rw [eL];refine zao (zAn hn hla hs) ?_
   exact G_to (by unfold room;simp;omega) rfl
  | succ m ih=>
   intro t row hm ht hr hj;obtain ⟨g1,⟨_,g2,_⟩⟩:=zoQ hx hs hl t (by omega)
   have hlen:=g1.len hx;have ih':=fun row=>ih (t+1) row (by omega) (by omega)
   rw [zir];unfold zb1 zcY;rw [if_pos (by simp;omega),eL]
   refine zao (zAm hn hL hM hg hb hrow hs.1 t) ?_
   dsimp only
   cases e:zbo (xRow (nxA L M n) s l t).1 (nxA L M n s t) with
   | some j=>
    rw [zld e] at ih';have hm:mhas (xRow (nxA L M n) s l t).1 (nxA L M n s t)=true:=by unfold mhas;rw [e];rfl
    rw [if_neg (by rw [hm];simp),zqB e]
    refine G_to (by omega) (G_to (by omega) (G_to (by unfold fits;omega) ?_))
    refine ih' (row.set ((t:Int)).toNat (j:Int)) (by rw [List.length_set];exact hr) (fun k k0 k1 => ?_)
    by_cases c:k < t
    ·rw [za9 (by omega) k0 (by omega),zan k0 (by omega)];exact hj k k0 c
    ·obtain rfl:k=(t:Int):=by omega
     rw [zaI k0 (by omega)]
     have:(t:Int)=((xRow (nxA L M n) s l t).2.length:Int):=by omega
     rw [this,zau]
   | none=>
    rw [zlc e] at ih';have hnm:=zbD.1 e;have hm:mhas (xRow (nxA L M n) s l t).1 (nxA L M n s t)=false:=by unfold mhas;rw [e];rfl
    rw [if_pos (by rw [hm];rfl),if_neg (by simp;omega),zqD hnm,zoj hnm]
    refine G_to (by unfold room;simp;omega) (G_to (by omega) (G_to (by omega) (G_to (by unfold fits;omega) ?_)))
    refine ih' (row.set ((t:Int)).toNat ((xRow (nxA L M n) s l t).1.length:Int)) (by rw [List.length_set];exact hr) (fun k k0 k1 => ?_)
    by_cases c:k < t
    ·rw [za9 (by omega) k0 (by omega),zan k0 (by omega)];exact hj k k0 c
    ·obtain rfl:k=(t:Int):=by omega
     rw [zaI k0 (by omega)]
     have:(t:Int)=((xRow (nxA L M n) s l t).2.length:Int):=by omega
     rw [this,zau]
 exact key _ 0 _ rfl (by omega) (by rw [List.length_replicate]) (fun j j0 j1=>by omega)
theorem zCa {e:EN} {g la:Int} (hn:n<=10) (hL:L.length=n) (hM:M.length=n+1) (hg:good.length=n+1) (hb:∀ p:Int,0<=p->p<=n->∀ q∈ix M p,0<=q/\q < n) (hrow:∀ p:Int,0<=p->p<=n->(ix M p).length<=9000000000000) (hla:zmL n e la) (h1:1<=g/\g<=4)
  {k:Nat} (hG:XGo (nxA L M n) (mkA n e) g.toNat (ishl .i64 1 (n:Int)) k) (hk:(xSt (nxA L M n) (mkA n e) g.toNat (ishl .i64 1 (n:Int)) k).1.length=k):zjg g (ishl .i64 1 (n:Int)) good la 3000 (L,(M,()))=some (xAut (nxA L M n) (mkA n e) g.toNat (ishl .i64 1 (n:Int)) k,true,L,M,()):=by
 have hx:=zwn (L:=L) (e:=e) (g:=g.toNat) hn hb;have key:∀ (f i:Nat),k - i=f->i<=k->zfP g la 3000 good (L,(M,())) g 0 (xSt (nxA L M n) (mkA n e) g.toNat (ishl .i64 1 (n:Int)) i).1 (iota (xSt (nxA L M n) (mkA n e) g.toNat (ishl .i64 1 (n:Int)) i).1.length) (xSt (nxA L M n) (mkA n e) g.toNat (ishl .i64 1 (n:Int)) i).1 (xSt (nxA L M n) (mkA n e) g.toNat (ishl .i64 1 (n:Int)) i).2.1 (xSt (nxA L M n) (mkA n e) g.toNat (ishl .i64 1 (n:Int)) i).2.2=some (xAut (nxA L M n) (mkA n e) g.toNat (ishl .i64 1 (n:Int)) k,true,L,M,()):=by
  intro f
  induction f with
  | zero=>
   intro i hf hi;obtain rfl:i=k:=by omega
   obtain ⟨g1,g2,g3⟩:=zmn hx i hG;have hr:=g3.r;rw [ziq];unfold zb0;rw [if_neg (by rw [decide_eq_true_iff];omega)]
   unfold xAut;rw [Int.toNat_of_nonneg (by omega)]
  | succ f ih=>
   intro i hf hi;obtain ⟨g1,g2,g3⟩:=zmn hx i (fun k' hk'=>hG k' (by omega))
   have hlt:=hG i (by omega)
   have hr:=g3.r;have hm:=g3.m;have hlen:=g1.len hx;have hP:=g1.p _ (zb9 (i:=(i:Int)) (by omega) (by omega))
   rw [ziq];unfold zb0;rw [if_pos (by rw [decide_eq_true_iff];omega)]
   refine G_to (by omega) (G_to (by omega) (G_to (by unfold mkOK;omega) ?_))
   rw [x_row (e:=e) hn hL hM hg hb hrow hla h1 hP g1 (by rw [hr]) (by omega) (by omega)]
   exact ih (i+1) (by omega) (by omega)
 exact key _ 0 rfl (by omega)
theorem zAq {e:EN} {g:Int} (hn:n<=10) (hL:L.length=n) (hg:good.length=n+1) (hgd:∀ k:Int,0<=k->k<=n->(ix good k=true↔(k < n/\k∈e.2.2.1)\/(k=n/\e.1=true))):∃ la,zmL n e la/\zbC g (L,(M,())) good 0 0=zbC g (L,(M,())) good ((n:Int)+1) la:=by
 have key:∀ (m k:Nat) (la:Int),n+1 - k=m->k<=n+1->SetP la->(∀ r:Int,0<=r->r < 11->(bitP la r↔r < k/\ix good r=true))->∃ la',zmL n e la'/\zbC g (L,(M,())) good k la=zbC g (L,(M,())) good ((n:Int)+1) la':=by
  intro m
  induction m with
  | zero=>
   intro k la hm hk hs hq;obtain rfl:k=n+1:=by omega
   refine ⟨la,⟨hs,fun r r0 r1 => ?_⟩,rfl⟩
   rw [hq r r0 r1];constructor
   ·rintro ⟨h,h2⟩;exact ⟨by omega,(hgd r r0 (by omega)).1 h2⟩
   ·rintro ⟨h,h2⟩;exact ⟨by omega,(hgd r r0 (by omega)).2 h2⟩
  | succ m ih=>
   intro k la hm hk hs hq;by_cases c:ix good (k:Int)=true
   ·obtain ⟨h3,h4⟩:=zus hs (q:=(k:Int)) (by omega) (by omega)
    obtain ⟨la',a1,a2⟩:=ih (k+1) _ (by omega) (by omega) h3 fun r r0 r1=>by
     rw [h4 r r0 r1,hq r r0 r1];constructor
     ·rintro (⟨h,h2⟩ | rfl)
      ·exact ⟨by omega,h2⟩
      ·exact ⟨by omega,c⟩
     ·rintro ⟨h,h2⟩;by_cases d:r=k
      ·exact .inr d
      ·exact .inl ⟨by omega,h2⟩
    refine ⟨la',a1,?_⟩
    rw [<- a2]
    conv=>lhs;rw [zeY];unfold zbs
    rw [if_pos (by rw [decide_eq_true_iff];omega),zak (by omega),zak (by omega),if_pos c,zak (by omega),zak (by unfold fits;omega)]
    rfl
   ·obtain ⟨la',a1,a2⟩:=ih (k+1) la (by omega) (by omega) hs fun r r0 r1=>by
     rw [hq r r0 r1];constructor
     ·rintro ⟨h,h2⟩;exact ⟨by omega,h2⟩
     ·rintro ⟨h,h2⟩;by_cases d:r=k
      ·subst d;exact absurd h2 c
      ·exact ⟨by omega,h2⟩
    refine ⟨la',a1,?_⟩
    rw [<- a2]
    conv=>lhs;rw [zeY];unfold zbs
    rw [if_pos (by rw [decide_eq_true_iff];omega),zak (by omega),zak (by omega),if_neg c,zak (by unfold fits;omega)]
    rfl
 exact key _ 0 0 rfl (by omega) zbY.1 fun r r0 r1=>⟨fun h=>absurd h (zbY.2 r r0 r1),fun h=>by omega⟩
theorem zxH {e:EN} {g:Int} (hn:n<=10) (hL:L.length=n) (hM:M.length=n+1) (hg:good.length=n+1) (hb:∀ p:Int,0<=p->p<=n->∀ q∈ix M p,0<=q/\q < n) (hrow:∀ p:Int,0<=p->p<=n->(ix M p).length<=9000000000000) (hgd:∀ k:Int,0<=k->k<=n->(ix good k=true↔(k < n/\k∈e.2.2.1)\/(k=n/\e.1=true))) (h1:1<=g/\g<=4)
  {k:Nat} (hG:XGo (nxA L M n) (mkA n e) g.toNat (ishl .i64 1 (n:Int)) k) (hk:(xSt (nxA L M n) (mkA n e) g.toNat (ishl .i64 1 (n:Int)) k).1.length=k) {o:Dt} (ho:zfV (xAut (nxA L M n) (mkA n e) g.toNat (ishl .i64 1 (n:Int)) k)=some o):
  zbC g (L,(M,())) good 0 0=some (o,0):=by
 obtain ⟨la,hla,e1⟩:=zAq (M:=M) (g:=g) hn hL hg hgd;rw [e1,zeY];unfold zbs;rw [if_neg (by rw [decide_eq_true_iff];omega)]
 dsimp only;rw [hL];refine G_to (by omega) ?_
 have hE:=zCa (e:=e) hn hL hM hg hb hrow hla h1 hG hk;have fin:zeX (xAut (nxA L M n) (mkA n e) g.toNat (ishl .i64 1 (n:Int)) k).1 (xAut (nxA L M n) (mkA n e) g.toNat (ishl .i64 1 (n:Int)) k).2.1 (xAut (nxA L M n) (mkA n e) g.toNat (ishl .i64 1 (n:Int)) k).2.2.1 (xAut (nxA L M n) (mkA n e) g.toNat (ishl .i64 1 (n:Int)) k).2.2.2.1=some (o,0):=by
  unfold zeX;exact zao ho rfl
 exact zgh (zao hE fin) (zao hE fin)
end
def NumA (n:Nat) (NA l:List Int):Prop:=NA.length=2 ^ (n+1)/\∀ s:Int,0<=s->s < ((2 ^ (n+1):Nat):Int)->ix NA s=match zbo l s with
 | some j=>(j:Int)
 | none => -1
theorem NumA.push {n:Nat} {NA l:List Int} (h:NumA n NA l) {x:Int} (x0:0<=x) (x1:x < ((2 ^ (n+1):Nat):Int)) (hx:x∉l):NumA n (NA.set x.toNat (l.length:Int)) (l++[x]):=by
 have hl:=h.1;refine ⟨by rw [List.length_set];exact h.1,fun s s0 s1 => ?_⟩
 by_cases e:s=x
 ·subst e;rw [zaI s0 (by omega),znf hx]
 ·rw [za9 x0 s0 (Ne.symm e),h.2 s s0 s1]
  cases hm:zbo l s with
  | some j=>rw [zne _ hm]
  | none=>
   rw [zbD.2 (fun hh=>by
    rcases List.mem_append.1 hh with hh | hh
    ·exact zbD.1 hm hh
    ·exact e (List.mem_singleton.1 hh))]
theorem SmN.lt {n:Nat} {s:Int} (hn:n<=10) (h:SmN n s):0<=s/\s < ((2 ^ (n+1):Nat):Int):=
 h.1.lt (by omega) fun r r0 r1 hb=>by have:=h.2 r r0 r1 hb;omega
section
variable {L:List Int} {M:List (List Int)} {n:Nat} {T:List St3} {F:List Int} {g:Int} {e:EN}
theorem s_L24 (hn:n<=10) (hb:∀ p:Int,0<=p->p<=n->∀ q∈ix M p,0<=q/\q < n) (hT:∀ x:St3,x∈T↔∃ p q:Int,0<=p/\p<=n/\0<=q/\q < n/\q∈ix M p/\x=(p,ix L q,q,())) (hTl:T.length<=900)
  {i k:Int} {l NA next':List Int} {r20} {s:Int} (i0:0<=i) (i1:i < l.length) (he:ix l i=s) (hs:SetP s):zbT (g,(n:Int)+1,[(n:Int)],T,F,()) i k l NA next' r20 0 0=zbT (g,(n:Int)+1,[(n:Int)],T,F,()) i k l NA next' r20 (nxA L M n s k) (T.length:Int):=by
 have key:∀ (m j:Nat) (z:Int),T.length - j=m->j<=T.length->SetP z->(∀ r:Int,0<=r->r < 11->(bitP z r↔∃ y:Int,0<=y/\y < j/\(ix T y).2.1=k/\bitP s (ix T y).1/\(ix T y).2.2.1=r))->
   zbT (g,(n:Int)+1,[(n:Int)],T,F,()) i k l NA next' r20 z j=zbT (g,(n:Int)+1,[(n:Int)],T,F,()) i k l NA next' r20 (nxA L M n s k) (T.length:Int):=by
  intro m
  induction m with
  | zero=>
   intro j z hm hj hz hq;obtain rfl:j=T.length:=by omega
   have:z=nxA L M n s k:=zyT hz fun r r0 r1=>by
    rw [hq r r0 r1];constructor
    ·rintro ⟨y,y0,y1,h1,h2,h3⟩;obtain ⟨p,q,p0,p1,q0,q1,h4,h5⟩:=(hT _).1 (zb9 (l:=T) y0 y1);rw [h5] at h1 h2 h3;dsimp only at h1 h2 h3;subst h3;exact ⟨p,p0,p1,h2,h4,h1⟩
    ·rintro ⟨p,p0,p1,h2,h4,h1⟩;have hq:=hb p p0 p1 r h4;obtain ⟨y,y0,y1,h5⟩:=(zoe (P:=fun x=>x=(p,ix L r,r,()))).1 ⟨_,(hT _).2 ⟨p,r,p0,p1,hq.1,hq.2,h4,rfl⟩,rfl⟩
     exact ⟨y,y0,y1,by rw [h5];exact h1,by rw [h5];exact h2,by rw [h5]⟩
   rw [this]
  | succ m ih=>
   intro j z hm hj hz hq;obtain ⟨p,q,p0,p1,q0,q1,h4,h5⟩:=(hT _).1 (zb9 (l:=T) (i:=(j:Int)) (by omega) (by omega))
   have split:∀ P:Int->Prop,(∃ y:Int,0<=y/\y < ((j+1:Nat):Int)/\P y)↔(∃ y:Int,0<=y/\y < j/\P y)\/P j:=fun P=>by
    constructor
    ·rintro ⟨y,y0,y1,h⟩;by_cases d:y=j
     ·subst d;exact .inr h
     ·exact .inl ⟨y,y0,by omega,h⟩
    ·rintro (⟨y,y0,y1,h⟩ | h)
     ·exact ⟨y,y0,by omega,h⟩
     ·exact ⟨j,by omega,by omega,h⟩
   by_cases c1:(ix T (j:Int)).2.1=k
   ·by_cases c2:bitP s (ix T (j:Int)).1
    ·obtain ⟨o1,o2⟩:=zus hz (q:=(ix T (j:Int)).2.2.1) (by rw [h5];exact q0) (by rw [h5];show q < 11;omega)
     rw [<- ih (j+1) _ (by omega) (by omega) o1 (fun r r0 r1=>by
      rw [o2 r r0 r1,hq r r0 r1,split];exact or_congr Iff.rfl ⟨fun h=>⟨c1,c2,h.symm⟩,fun h=>h.2.2.symm⟩)]
     conv=>lhs;rw [zeU];unfold zbP zc2
     dsimp only;rw [if_pos (by rw [decide_eq_true_iff];omega),zak (by omega),if_pos (decide_eq_true c1),zak (by omega),zak (by omega),zak (by rw [h5];exact p0),he,if_pos (decide_eq_true (show iand .i64 (ishr .i64 s (ix T (j:Int)).1) 1=1 from c2)),zak (by rw [h5];exact q0),zak (by unfold fits;omega)]
     rfl
    ·rw [<- ih (j+1) z (by omega) (by omega) hz (fun r r0 r1=>by
      rw [hq r r0 r1,split];exact ⟨.inl,fun h=>h.resolve_right (fun h=>c2 h.2.1)⟩)]
     conv=>lhs;rw [zeU];unfold zbP zc2
     dsimp only;rw [if_pos (by rw [decide_eq_true_iff];omega),zak (by omega),if_pos (decide_eq_true c1),zak (by omega),zak (by omega),zak (by rw [h5];exact p0),he,if_neg (fun h=>c2 (show iand .i64 (ishr .i64 s (ix T (j:Int)).1) 1=1 from of_decide_eq_true h)),zak (by unfold fits;omega)]
     rfl
   ·rw [<- ih (j+1) z (by omega) (by omega) hz (fun r r0 r1=>by
     rw [hq r r0 r1,split];exact ⟨.inl,fun h=>h.resolve_right (fun h=>c1 h.1)⟩)]
    conv=>lhs;rw [zeU];unfold zbP zc2
    dsimp only;rw [if_pos (by rw [decide_eq_true_iff];omega),zak (by omega),if_neg (by rw [decide_eq_true_iff];exact c1),if_neg (by decide),zak (by unfold fits;omega)]
    rfl
 exact key _ 0 0 rfl (by omega) zbY.1 fun r r0 r1=>⟨fun h=>absurd h (zbY.2 r r0 r1),fun ⟨y,y0,y1,_⟩=>by omega⟩
theorem s_row (hn:n<=10) (hb:∀ p:Int,0<=p->p<=n->∀ q∈ix M p,0<=q/\q < n) (hT:∀ x:St3,x∈T↔∃ p q:Int,0<=p/\p<=n/\0<=q/\q < n/\q∈ix M p/\x=(p,ix L q,q,())) (hTl:T.length<=900) {la:Int} (hla:zmL n e la) (h1:1<=g/\g<=4)
  {i:Int} {D2:List (List Int)} {D3:List Int} {r16} {s:Int} {l NA:List Int} (hs:SmN n s) (hl:LiOk 2048 (SmN n) l) (i0:0<=i) (i1:i < l.length) (he:ix l i=s) (hN:NumA n NA l) (h2:D2.length<=3000) (h3:D3.length<=3000):
  ∃ NA',NumA n NA' (xRow (nxA L M n) s l g.toNat).1/\zcj (g,(n:Int)+1,[(n:Int)],T,F,()) la i g 0 D2 D3 r16 0 l NA []=r16 (i+1) (xRow (nxA L M n) s l g.toNat).1 NA' g 0 (D2++[(xRow (nxA L M n) s l g.toNat).2]) (D3++[mkA n e s]):=by
 have hx:=zwn (L:=L) (e:=e) (g:=g.toNat) hn hb;have h2p:2 ^ (n+1)<=2 ^ 11:=Nat.pow_le_pow_right (by omega) (by omega)
 have key:∀ (m t:Nat) (NA:List Int),g.toNat - t=m->t<=g.toNat->NumA n NA (xRow (nxA L M n) s l t).1->
   ∃ NA',NumA n NA' (xRow (nxA L M n) s l g.toNat).1/\zcj (g,(n:Int)+1,[(n:Int)],T,F,()) la i g 0 D2 D3 r16 t (xRow (nxA L M n) s l t).1 NA (xRow (nxA L M n) s l t).2=r16 (i+1) (xRow (nxA L M n) s l g.toNat).1 NA' g 0 (D2++[(xRow (nxA L M n) s l g.toNat).2]) (D3++[mkA n e s]):=by
  intro m
  induction m with
  | zero=>
   intro t NA hm ht hN;obtain rfl:t=g.toNat:=by omega
   obtain ⟨g1,⟨⟨y,hy⟩,g2,_⟩⟩:=zoQ hx hs hl g.toNat (Nat.le_refl _);have hlen:=g1.len hx;have hi:i < (xRow (nxA L M n) s l g.toNat).1.length:=by rw [hy,List.length_append];omega
   have ei:ix (xRow (nxA L M n) s l g.toNat).1 i=s:=by rw [hy,zan i0 i1];exact he
   refine ⟨NA,hN,?_⟩
   obtain ⟨m0,m1,m2⟩:=zyx hn hla hs;rw [zkP];unfold zcN zeD;rw [if_neg (by rw [decide_eq_true_iff];dsimp only;omega),ei]
   refine G_to (by omega) (G_to (by omega) ?_)
   by_cases c:iand .i64 s la=0
   ·rw [if_neg (by simpa using c),m2.1 c]
    exact G_to (by unfold room;simp;omega) (G_to (by unfold room;simp;omega) (G_to (by unfold fits;omega) rfl))
   ·rw [if_pos (by simpa using c),m1.1 c]
    exact G_to (by unfold room;simp;omega) (G_to (by unfold room;simp;omega) (G_to (by unfold fits;omega) rfl))
  | succ m ih=>
   intro t NA hm ht hN;obtain ⟨g1,⟨⟨y,hy⟩,g2,_⟩⟩:=zoQ hx hs hl t (by omega)
   have hlen:=g1.len hx;have hi:i < (xRow (nxA L M n) s l t).1.length:=by rw [hy,List.length_append];omega
   have ei:ix (xRow (nxA L M n) s l t).1 i=s:=by rw [hy,zan i0 i1];exact he
   have hp:=(zyD (L:=L) hb s t).lt hn;have hNl:=hN.1;have hNs:=hN.2 _ hp.1 hp.2;have ih':=fun NA=>ih (t+1) NA (by omega) (by omega)
   have e1:zcj (g,(n:Int)+1,[(n:Int)],T,F,()) la i g 0 D2 D3 r16 t (xRow (nxA L M n) s l t).1 NA (xRow (nxA L M n) s l t).2=zbT (g,(n:Int)+1,[(n:Int)],T,F,()) i t (xRow (nxA L M n) s l t).1 NA (xRow (nxA L M n) s l t).2 (zcj (g,(n:Int)+1,[(n:Int)],T,F,()) la i g 0 D2 D3 r16) (nxA L M n s t) (T.length:Int):=by
    conv=>lhs;rw [zkP];unfold zcN
    rw [if_pos (by rw [decide_eq_true_iff];dsimp only;omega)]
    exact s_L24 hn hb hT hTl i0 hi ei hs.1
   rw [e1,zeU];unfold zbP zeC;rw [if_neg (by simp)]
   cases em:zbo (xRow (nxA L M n) s l t).1 (nxA L M n s t) with
   | some j=>
    rw [zld em] at ih';rw [em] at hNs;have hNs:ix NA (nxA L M n s t)=(j:Int):=hNs;obtain ⟨NA',z1,z2⟩:=ih' NA hN;refine ⟨NA',z1,?_⟩
    refine G_to (by omega) (G_to (by omega) ?_)
    rw [if_neg (by rw [decide_eq_true_iff,hNs];omega),hNs]
    exact G_to (by omega) (G_to (by omega) (G_to (by unfold room;simp;omega) (G_to (by unfold fits;omega) z2)))
   | none=>
    rw [zlc em] at ih';rw [em] at hNs;have hNs:ix NA (nxA L M n s t) = -1:=hNs;have hnm:=zbD.1 em;obtain ⟨NA',z1,z2⟩:=ih' _ (hN.push hp.1 hp.2 hnm);refine ⟨NA',z1,?_⟩
    refine G_to (by omega) (G_to (by omega) ?_)
    rw [if_pos (by rw [decide_eq_true_iff,hNs];omega)]
    refine G_to (by omega) (G_to (by omega) (G_to (by unfold room;simp;omega) (G_to (by rw [List.length_set];omega) (G_to (by rw [List.length_set];omega) ?_))))
    rw [zaI hp.1 (by omega)]
    exact G_to (by unfold room;simp;omega) (G_to (by unfold fits;omega) z2)
 exact key _ 0 NA rfl (by omega) hN
theorem zBX (hn:n<=10) (hb:∀ p:Int,0<=p->p<=n->∀ q∈ix M p,0<=q/\q < n) (hT:∀ x:St3,x∈T↔∃ p q:Int,0<=p/\p<=n/\0<=q/\q < n/\q∈ix M p/\x=(p,ix L q,q,())) (hTl:T.length<=900) {la:Int} (hla:zmL n e la) (h1:1<=g/\g<=4)
  {k:Nat} (hG:XGo (nxA L M n) (mkA n e) g.toNat (ishl .i64 1 (n:Int)) k) (hk:(xSt (nxA L M n) (mkA n e) g.toNat (ishl .i64 1 (n:Int)) k).1.length=k) {o:Dt} (ho:zlB (xAut (nxA L M n) (mkA n e) g.toNat (ishl .i64 1 (n:Int)) k)=some o):
  ∀ (f i:Nat) (NA:List Int),k - i=f->i<=k->NumA n NA (xSt (nxA L M n) (mkA n e) g.toNat (ishl .i64 1 (n:Int)) i).1->zfY (g,(n:Int)+1,[(n:Int)],T,F,()) la i (xSt (nxA L M n) (mkA n e) g.toNat (ishl .i64 1 (n:Int)) i).1 NA g 0 (xSt (nxA L M n) (mkA n e) g.toNat (ishl .i64 1 (n:Int)) i).2.1 (xSt (nxA L M n) (mkA n e) g.toNat (ishl .i64 1 (n:Int)) i).2.2=some o:=by
 have hx:=zwn (L:=L) (e:=e) (g:=g.toNat) hn hb;intro f
 induction f with
 | zero=>
  intro i NA hf hi hN;obtain rfl:i=k:=by omega
  rw [zkO];unfold zcM;rw [if_neg (by rw [decide_eq_true_iff];omega)]
  unfold xAut at ho;rw [Int.toNat_of_nonneg (by omega)] at ho
  exact zao ho rfl
 | succ f ih=>
  intro i NA hf hi hN;obtain ⟨g1,g2,g3⟩:=zmn hx i (fun k' hk'=>hG k' (by omega))
  have hlt:=hG i (by omega)
  have hr:=g3.r;have hm:=g3.m;have hlen:=g1.len hx;have hP:=g1.p _ (zb9 (i:=(i:Int)) (by omega) (by omega))
  obtain ⟨NA',z1,z2⟩:=s_row (F:=F) (r16:=zfY (g,(n:Int)+1,[(n:Int)],T,F,()) la) (D2:=(xSt (nxA L M n) (mkA n e) g.toNat (ishl .i64 1 (n:Int)) i).2.1) (D3:=(xSt (nxA L M n) (mkA n e) g.toNat (ishl .i64 1 (n:Int)) i).2.2) hn hb hT hTl hla h1 hP g1 (i:=(i:Int)) (by omega) (by omega) rfl hN (by omega) (by omega)
  rw [zkO];unfold zcM;rw [if_pos (by rw [decide_eq_true_iff];omega),z2]
  exact ih (i+1) NA' (by omega) (by omega) z1
theorem zw7 (hn:n<=10) (hb:∀ p:Int,0<=p->p<=n->∀ q∈ix M p,0<=q/\q < n) (hT:∀ x:St3,x∈T↔∃ p q:Int,0<=p/\p<=n/\0<=q/\q < n/\q∈ix M p/\x=(p,ix L q,q,())) (hTl:T.length<=900)
  (hF:∀ q:Int,q∈F↔(0<=q/\q<=n/\((q < n/\q∈e.2.2.1)\/(q=n/\e.1=true)))) (hFl:F.length<=900) (h1:1<=g/\g<=4)
  {k:Nat} (hG:XGo (nxA L M n) (mkA n e) g.toNat (ishl .i64 1 (n:Int)) k) (hk:(xSt (nxA L M n) (mkA n e) g.toNat (ishl .i64 1 (n:Int)) k).1.length=k) {o:Dt} (ho:zlB (xAut (nxA L M n) (mkA n e) g.toNat (ishl .i64 1 (n:Int)) k)=some o):
  zpO (g,(n:Int)+1,[(n:Int)],T,F,())=some o:=by
 have h2p:2 ^ (n+1)<=2 ^ 11:=Nat.pow_le_pow_right (by omega) (by omega)
 have i0:ix [(n:Int)] (0:Int)=n:=rfl;have i1:ix [ishl .i64 1 (n:Int)] (0:Int)=ishl .i64 1 (n:Int):=rfl;obtain ⟨f1,f2⟩:=zya hn;have hf:=f1.lt hn;have hpow:ishl .i64 1 ((n:Int)+1)=((2 ^ (n+1):Nat):Int):=by
  have:=zs4 (m:=1) (k:=n+1) (by omega) (by rw [Nat.one_mul];omega)
  rw [Nat.shiftLeft_eq,Nat.one_mul] at this;exact this
 have k11:∀ (m i:Nat) (la:Int) (NA:List Int),F.length - i=m->i<=F.length->SetP la->(∀ r:Int,0<=r->r < 11->(bitP la r↔∃ j:Int,0<=j/\j < i/\ix F j=r))->NA.length=2 ^ (n+1)->(∀ v:Int,0<=v->v < ((2 ^ (n+1):Nat):Int)->ix NA v = -1)->
   zhF (g,(n:Int)+1,[(n:Int)],T,F,()) NA la i=some o:=by
  intro m
  induction m with
  | zero=>
   intro i la NA hm hi hs hq hNl hN;obtain rfl:i=F.length:=by omega
   have hla:zmL n e la:=⟨hs,fun r r0 r1=>by
    rw [hq r r0 r1];constructor
    ·rintro ⟨j,j0,j1,rfl⟩;exact ((hF _).1 (zb9 j0 j1)).2
    ·intro h;obtain ⟨j,j0,j1,h2⟩:=(zoe (P:=fun x=>x=r)).1 ⟨r,(hF r).2 ⟨r0,h⟩,rfl⟩
     exact ⟨j,j0,j1,h2⟩⟩
   rw [zkN];unfold zcL;dsimp only;rw [if_neg (by simp),i0,i1]
   refine zBX hn hb hT hTl hla h1 hG hk ho k 0 _ rfl (by omega) ⟨by rw [List.length_set];exact hNl,fun s s0 s1 => ?_⟩
   show ix (NA.set (ishl .i64 1 (n:Int)).toNat 0) s=match zbo [ishl .i64 1 (n:Int)] s with
    | some j=>(j:Int)
    | none => -1
   by_cases c:s=ishl .i64 1 (n:Int)
   ·subst c;rw [zaI s0 (by omega),zjm];rfl
   ·rw [za9 hf.1 s0 (Ne.symm c),hN s s0 s1,zbD.2 (by simpa using c)]
  | succ m ih=>
   intro i la NA hm hi hs hq hNl hN;have hx:=(hF _).1 (zb9 (l:=F) (i:=(i:Int)) (by omega) (by omega))
   obtain ⟨o1,o2⟩:=zus hs hx.1 (by omega)
   rw [zkN];unfold zcL;dsimp only;rw [if_pos (by rw [decide_eq_true_iff];omega),zak (by omega),zak hx.1,zak (by unfold fits;omega)]
   refine ih (i+1) _ NA (by omega) (by omega) o1 (fun r r0 r1 => ?_) hNl hN
   rw [o2 r r0 r1,hq r r0 r1];constructor
   ·rintro (⟨j,j0,j1,h⟩ | h)
    ·exact ⟨j,j0,by omega,h⟩
    ·exact ⟨i,by omega,by omega,h.symm⟩
   ·rintro ⟨j,j0,j1,h⟩;by_cases d:j=i
    ·subst d;exact .inr h.symm
    ·exact .inl ⟨j,j0,by omega,h⟩
 have k4:∀ (m i:Nat) (l:List Int),2 ^ (n+1) - i=m->i<=2 ^ (n+1)->l.length=2 ^ (n+1)->(∀ v:Int,0<=v->v < i->ix l v = -1)->zjr (g,(n:Int)+1,[(n:Int)],T,F,()) i l=some o:=by
  intro m
  induction m with
  | zero=>
   intro i l hm hi hll hv;obtain rfl:i=2 ^ (n+1):=by omega
   rw [zl2];unfold zc5;dsimp only;rw [if_neg (by rw [decide_eq_true_iff,hll];omega),i0,i1,zak (by simp),zak (by omega),zak (by unfold room;simp),zak (by simp),zak (by simp),zak (by rw [hll];exact hf),zak (by omega)]
   exact k11 _ 0 0 l rfl (by omega) zbY.1 (fun r r0 r1=>⟨fun h=>absurd h (zbY.2 r r0 r1),fun ⟨j,j0,j1,_⟩=>by omega⟩) hll hv
  | succ m ih=>
   intro i l hm hi hll hv;rw [zl2];unfold zc5;dsimp only;rw [if_pos (by rw [decide_eq_true_iff];omega)]
   refine G_to (by omega) (G_to (by omega) (G_to (by unfold fits;omega) ?_))
   refine ih (i+1) _ (by omega) (by omega) (by rw [List.length_set];exact hll) (fun v v0 v1 => ?_)
   by_cases d:v=(i:Int)
   ·subst d;rw [zaI v0 (by omega)]
   ·rw [za9 (by omega) v0 (Ne.symm d)];exact hv v v0 (by omega)
 unfold zpO;dsimp only;rw [hpow];refine G_to (by omega) (G_to (by unfold mkOK;omega) ?_)
 exact k4 _ 0 _ rfl (by omega) (by rw [List.length_replicate];omega) (fun v v0 v1=>by omega)
end
theorem zue {l:L5} {a:Tr ND} {k:Int} (hz:tsz a<=12001) (hs:Stn l a k):
  ∃ e L N good,zeZ a=some ((L,(N++[e.2.1],())),good)/\GL (Lg a) (lvs a) (tsz a) [] [] e L N/\good.length=L.length+1/\(∀ p:Int,0<=p->p < L.length->(ix good p=true↔p∈e.2.2.1))/\ix good (L.length:Int)=e.1:=by
 obtain ⟨e,L,N,h1,h2⟩:=zyr (tsz a) a k (by omega) (Nat.le_refl _) hs [] [] rfl (by simpa using hz)
 have hsz:=h2.sz;have hll:=h2.ll;have htl:=h2.tl;have hfl:=h2.fl;rw [List.length_nil,Nat.zero_add] at hsz;have hlb:∀ p∈e.2.2.1,0<=p/\p < L.length:=fun p hp=>by have:=h2.lb p hp;simpa using this
 obtain ⟨g,⟨g1,g2⟩,g3⟩:=zva (len:=(e.2.2.1.length:Int)) (L:=zdz e L N) (f:=fun t (s:List Bool)=>s.set (ix e.2.2.1 t).toNat true) (lo:=0)
  (I:=fun t (s:List Bool)=>s.length=L.length+1/\∀ p:Int,0<=p->p < L.length->(ix s p=true↔∃ j:Int,0<=j/\j < t/\ix e.2.2.1 j=p)) (s:=List.replicate ((L.length:Int)+(1:Int)).toNat (false:Bool)) (by omega)
  ⟨by rw [List.length_replicate];omega,fun p p0 p1=>by
   rw [zcy p0 (by omega)]
   constructor
   ·intro h;cases h
   ·rintro ⟨j,j0,j1,_⟩;omega⟩ (fun t s t0 t1 ⟨i1,i2⟩=>by
   have hm:=hlb _ (zb9 (l:=e.2.2.1) (i:=t) t0 t1);refine ⟨?_,by rw [List.length_set];exact i1,fun p p0 p1 => ?_⟩
   ·rw [zf3];unfold zbf;rw [if_pos (by simpa using t1),zak ⟨t0,t1⟩,zak (by omega),zak (by omega),zak (by unfold fits;omega)]
   ·by_cases c:p=ix e.2.2.1 t
    ·subst c;rw [zaI p0 (by omega)]
     exact ⟨fun _=>⟨t,t0,by omega,rfl⟩,fun _=>rfl⟩
    ·rw [za9 hm.1 p0 (fun h=>c h.symm),i2 p p0 p1]
     constructor
     ·rintro ⟨j,j0,j1,rfl⟩;exact ⟨j,j0,by omega,rfl⟩
     ·rintro ⟨j,j0,j1,rfl⟩;refine ⟨j,j0,?_,rfl⟩
      by_cases c2:j=t
      ·subst c2;exact absurd rfl c
      ·omega)
 refine ⟨e,L,N,g.set (L.length:Int).toNat e.1,?_,h2,by rw [List.length_set];exact g1,fun p p0 p1 => ?_,zaI (by omega) (by omega)⟩
 ·unfold zeZ;refine zao h1 ?_
  refine G_to (by unfold fits;dsimp only;omega) (G_to (by unfold mkOK;dsimp only;omega) ?_)
  refine Eq.trans g3 ?_
  rw [zf3];unfold zbf;rw [if_neg (by simp),zak (by omega),zak (by omega),zak (by unfold room;simp only [List.length_singleton];omega)]
 ·rw [za9 (by omega) p0 (by omega),g2 p p0 p1]
  constructor
  ·rintro ⟨j,j0,j1,rfl⟩;exact zb9 j0 j1
  ·intro h;obtain ⟨i,i0,i1,h⟩:=(zoe (P:=fun x=>x=p)).1 ⟨p,h,rfl⟩;exact ⟨i,i0,i1,h⟩
def lts (z:L5):List Int:=(z.filter (fun x=>decide (x.1=2))).map (·.2.1)
theorem ztb (z y:L5):lts (z++y)=lts z++lts y:=by unfold lts;rw [List.filter_append,List.map_append]
mutual
theorem Sg.letters {o:Int} {t:Tr ND} {z:L5} (h:Sg o t z):lts z=lvs t/\∀ x∈lvs t,0<=x/\x<=3:=by
 match h with
 | .mk o a b K ks z hw h=>
  obtain ⟨h1,h2⟩:=h.letters;rw [ztb];by_cases c:a=2
  ·subst c;have hks:ks=[]/\0<=b/\b<=3:=by
    unfold wfN at hw;dsimp only at hw;rcases hw with hw | hw | hw | hw | hw | hw
    ·exact absurd hw.1 (by decide)
    ·exact absurd hw.1 (by decide)
    ·exact ⟨hw.2.2.2,hw.2.1,hw.2.2.1⟩
    ·exact absurd hw.1 (by decide)
    ·exact absurd hw.1 (by decide)
    ·exact absurd hw.1 (by decide)
   obtain ⟨rfl,b0,b1⟩:=hks;have hK:=h.len;have hK:K=[]:=List.length_eq_zero_iff.1 hK;subst hK
   cases h;rw [lvs,if_pos rfl];exact ⟨rfl,fun x hx=>by rw [List.mem_singleton.1 hx];exact ⟨b0,b1⟩⟩
  ·rw [znb c,h1];refine ⟨?_,h2⟩
   have:lts [(a,b,ks,())]=[]:=by unfold lts;simp [c]
   rw [this,List.append_nil]
theorem SgL.letters {o:Int} {K:List (Tr ND)} {ks:List Int} {y:L5} (h:SgL o K ks y):lts y=lvsL K/\∀ x∈lvsL K,0<=x/\x<=3:=by
 match h with
 | .nil o=>exact ⟨rfl,fun x hx=>by cases hx⟩
 | .cons o t K ks z y h hs=>
  obtain ⟨h1,h2⟩:=h.letters;obtain ⟨h3,h4⟩:=hs.letters;rw [ztb,h1,h3,lvsL];exact ⟨rfl,fun x hx=>(List.mem_append.1 hx).elim (h2 x) (h4 x)⟩
end
theorem zud {l:L5} (hl:l.length<=20000):∃ most,zoz l=some (((lts l).length:Int),most)/\∀ g:Int,0<=g->(g<=most↔∃ x∈lts l,g<=x):=by
 have key:∀ (m k:Nat) (mo:Int),l.length - k=m->k<=l.length->(∀ g:Int,0<=g->(g<=mo↔∃ x∈lts (l.take k),g<=x))->(lts (l.take k)).length<=k->
   ∃ most,zgz l (lts (l.take k)).length mo k=some (((lts l).length:Int),most)/\∀ g:Int,0<=g->(g<=most↔∃ x∈lts l,g<=x):=by
  intro m
  induction m with
  | zero=>
   intro k mo hm hk hq hlen;obtain rfl:k=l.length:=by omega
   rw [List.take_length] at hq ⊢;refine ⟨mo,?_,hq⟩
   rw [zjP];unfold zcr;rw [if_neg (by simp)]
  | succ m ih=>
   intro k mo hm hk hq hlen;have htk:l.take (k+1)=l.take k++[ix l (k:Int)]:=by
    have:=zqt (l:=l) (i:=(k:Int)) (by omega) (by omega)
    simpa using this
   rw [zjP];unfold zcr;rw [if_pos (by rw [decide_eq_true_iff];omega),zak (by omega)]
   generalize hx:ix l (k:Int)=x at htk;by_cases c:x.1=2
   ·have e1:lts (l.take (k+1))=lts (l.take k)++[x.2.1]:=by rw [htk,ztb];unfold lts;simp [c]
    have ih':=fun mo=>ih (k+1) mo (by omega) (by omega)
    rw [e1,List.length_append,List.length_singleton] at ih';rw [if_pos (decide_eq_true c),zak (by unfold fits;omega),zak (by omega)]
    by_cases d:mo < x.2.1
    ·rw [if_pos (decide_eq_true d),zak (by omega),zak (by unfold fits;omega)]
     refine ih' x.2.1 (fun g g0 => ?_) (by omega)
     constructor
     ·intro h;exact ⟨x.2.1,by simp,h⟩
     ·rintro ⟨y,hy,h⟩;rcases List.mem_append.1 hy with hy | hy
      ·have:=(hq g g0).2 ⟨y,hy,h⟩;omega
      ·rw [List.mem_singleton.1 hy] at h;exact h
    ·rw [if_neg (by rw [decide_eq_true_iff];exact d),zak (by unfold fits;omega)]
     refine ih' mo (fun g g0 => ?_) (by omega)
     rw [hq g g0];constructor
     ·rintro ⟨y,hy,h⟩;exact ⟨y,List.mem_append_left _ hy,h⟩
     ·rintro ⟨y,hy,h⟩;rcases List.mem_append.1 hy with hy | hy
      ·exact ⟨y,hy,h⟩
      ·rw [List.mem_singleton.1 hy] at h;exact (hq g g0).1 (by omega)
   ·have e1:lts (l.take (k+1))=lts (l.take k):=by rw [htk,ztb];unfold lts;simp [c]
    have ih':=ih (k+1) mo (by omega) (by omega)
    rw [e1] at ih';rw [if_neg (by rw [decide_eq_true_iff];exact c),zak (by unfold fits;omega)]
    exact ih' hq (by omega)
 have h0:=key l.length 0 (-1) rfl (by omega) (fun g g0=>⟨fun h=>by omega,fun ⟨x,hx,_⟩=>by cases hx⟩) (by simp [lts])
 exact h0
theorem zrS {n:Int}:∀ (s:List UInt8) (i:Int),0<=i->(0<=zlV n true s i↔∃ b∈s,97+n<=(b.toNat:Int)/\(b.toNat:Int)<=100)
 | [],i,hi=>by
  show (0:Int) <= -1↔_;constructor
  ·intro h;omega
  ·rintro ⟨b,hb,_⟩;cases hb
 | b::s,i,hi=>by
  rw [zqr];by_cases c:97+n<=(b.toNat:Int)/\(b.toNat:Int)<=100
  ·rw [if_pos (by simp [c.1,c.2])]
   exact ⟨fun _=>⟨b,by simp,c⟩,fun _=>hi⟩
  ·rw [if_neg (fun h=>c (by simpa using h)),zrS s (i+1) (by omega)]
   constructor
   ·rintro ⟨x,hx,h⟩;exact ⟨x,List.mem_cons_of_mem _ hx,h⟩
   ·rintro ⟨x,hx,h⟩;rcases List.mem_cons.1 hx with rfl | hx
    ·exact absurd h c
    ·exact ⟨x,hx,h⟩
theorem zAN {c:List UInt8} {P:Int->Prop}:(∃ b∈c,P (b.toNat:Int))↔∃ j:Int,0<=j/\j < c.length/\P (bAt c j):=by
 constructor
 ·rintro ⟨b,hb,h⟩;obtain ⟨i,hi,rfl⟩:=List.mem_iff_getElem.1 hb;refine ⟨i,by omega,by omega,?_⟩
  unfold bAt;rw [Int.toNat_natCast,List.getD_eq_getElem?_getD,List.getElem?_eq_getElem hi];exact h
 ·rintro ⟨j,j0,j1,h⟩;unfold bAt at h;rw [List.getD_eq_getElem?_getD,List.getElem?_eq_getElem (by omega)] at h
  exact ⟨_,List.getElem_mem _,h⟩
theorem zss {c:List UInt8} {S:List Int} {g:Int} (h:Rd c 0 c.length S) (hS:∀ x∈S,0<=x/\x<=3) (g0:1<=g) (g1:g<=4):∃ b,zcW c g=some b/\(b=true↔∃ x∈S,g<=x):=by
 refine ⟨decide ((0:Int)<=zlV g true c 0),?_,?_⟩
 ·unfold zcW zfL zfM zt7;rw [zak (fun b hb => ?_),zak (by omega)]
  ·rfl
  ·obtain ⟨i,hi,rfl⟩:=List.mem_iff_getElem.1 hb;have:=h.1 (i:Int) (by omega) (by omega)
   unfold bAt at this;rw [Int.toNat_natCast,List.getD_eq_getElem?_getD,List.getElem?_eq_getElem hi] at this;have this:((c[i].toNat:Nat):Int) < 128:=this;omega
 ·rw [decide_eq_true_iff,zrS c 0 (by omega),zAN (P:=fun y=>97+g<=y/\y<=100)]
  constructor
  ·rintro ⟨j,j0,j1,h1,h2⟩;exact ⟨_,(h.2 (bAt c j) (by omega) h2).1 ⟨j,j0,j1,rfl⟩,by omega⟩
  ·rintro ⟨x,hx,h1⟩;have:=hS x hx;obtain ⟨j,j0,j1,h2⟩:=(h.2 (x+97) (by omega) (by omega)).2 (by rw [show x+97 - 97=x by omega];exact hx)
   exact ⟨j,j0,j1,by omega,by omega⟩
theorem zwX {l:L5} {a:Tr ND} {w:List Int} (hl:l.length<=12001) (hz:tsz a<=12001) (hs:Stn l a (l.length - 1)) (hw:w.length<=60):∃ b,zwc l w=some b/\(b=true↔Lg a w):=by
 have hf:((List.replicate ((w.length:Int)+(1:Int)).toNat (false:Bool)).set ((0:Int)).toNat true).length=w.length+1:=by rw [List.length_set,List.length_replicate];omega
 obtain ⟨out,h1,h2,h3⟩:=zxM (w:=w) (l:=l) (by omega) (by omega) (tsz a) a (l.length - 1) _ (by omega) (Nat.le_refl _) hs hf
 refine ⟨ix out (w.length:Int),?_,?_⟩
 ·unfold zwc;refine G_to (by unfold fits;omega) (G_to (by unfold mkOK;omega) (G_to (by rw [List.length_replicate];omega) (G_to (by rw [List.length_replicate];omega) (G_to (by unfold fits;omega) (zao h1 (G_to (by omega) (G_to (by omega) rfl)))))))
 ·rw [h3 w.length (Nat.le_refl _)];have h0:∀ i:Nat,i<=w.length->(ix ((List.replicate ((w.length:Int)+(1:Int)).toNat (false:Bool)).set ((0:Int)).toNat true) (i:Int)=true↔i=0):=fun i hi=>by
   by_cases c:i=0
   ·subst c;rw [show ((0:Nat):Int)=0 from rfl,zaI (by omega) (by rw [List.length_replicate];omega)];simp
   ·rw [za9 (by omega) (by omega) (by omega),zcy (by omega) (by omega)];simp [c]
  have e0:sub w 0 w.length=w:=by unfold sub;simp
  constructor
  ·rintro ⟨i,hi,h4,h5⟩;rw [h0 i hi] at h4;subst h4;rw [e0] at h5;exact h5
  ·intro h;exact ⟨0,by omega,(h0 0 (by omega)).2 rfl,by rw [e0];exact h⟩
theorem law_true (letters:Int) (text:List UInt8) (w:List Int):zcJ letters text w=some true:=by
 rcases zwQ text with ⟨a,l,h1,h2,h3,h4,h5,h6⟩ | ⟨cd,pl,h1,h2,h3⟩
 ·have hl:l.length<=12001:=by omega
  have hz:tsz a<=12001:=by rw [h4.sz];exact hl
  have hst:Stn l a ((l.length:Int) - 1):=by
   have:=Sg.stn (l:=[]) h4;simpa using this
  obtain ⟨q1,q2⟩:=h4.letters;obtain ⟨most,m1,m2⟩:=zud (l:=l) (by omega)
  rw [q1] at m1 m2;by_cases hr:1<=letters/\letters<=4
  ·obtain ⟨bc,c1,c2⟩:=zss h6 q2 hr.1 hr.2;by_cases hbig:∃ x∈lvs a,letters<=x
   ·have g1:zb6 letters text=some ((0,0,[],[],()),2):=by
     unfold zb6;refine zao h1 ?_
     rw [if_neg (by simp),if_neg (by simp;omega),if_neg (by simp;omega)]
     refine zao c1 ?_
     rw [if_pos (c2.2 hbig)]
    have g2:zh4 letters l=some ((0,0,[],[],()),2):=by
     unfold zh4;refine zao m1 ?_
     rw [if_neg (by simp;omega),if_neg (by simp;omega),if_pos (decide_eq_true ((m2 letters (by omega)).2 hbig))]
    unfold zcJ;refine zao g1 (zao zlw (zao h2 ?_))
    rw [if_neg (by simp)]
    refine zao g2 ?_
    rw [if_pos (by simp),if_pos (by simp)]
   ·obtain ⟨e,L,N,good,k1,k2,k3,k4,k5⟩:=zue hz hst;have hLv:L=lvs a:=k2.lp;subst hLv;have pre:zb6 letters text=if (decide ((10:Int) < ((lvs a).length:Int)))=true then some ((0,0,[],[],()),7) else zbC letters (lvs a,(N++[e.2.1],())) good 0 0:=by
     unfold zb6;refine zao h1 ?_
     rw [if_neg (by simp),if_neg (by simp;omega),if_neg (by simp;omega)]
     refine zao c1 ?_
     rw [if_neg (fun h=>hbig (c2.1 h))]
     exact zao k1 rfl
    by_cases hn:(lvs a).length<=10
    ·obtain ⟨n,hv⟩:∃ n,(lvs a).length=n:=⟨_,rfl⟩;have hn':n<=10:=by omega
     rw [if_neg (by rw [decide_eq_true_iff];omega)] at pre
     obtain ⟨b1,a1⟩:=zv2 k2.toGQ hv hn';have hll:=k2.ll;have hMl:∀ p:Int,0<=p->p < n->ix (N++[e.2.1]) p=ix N p:=fun p p0 p1=>zan p0 (by omega)
     have hMn:ix (N++[e.2.1]) (n:Int)=e.2.1:=by rw [<- hv,<- hll];exact zau
     have hrow:∀ p:Int,0<=p->p<=n->(ix (N++[e.2.1]) p).length<=9000000000000:=fun p p0 p1=>by
      have hfl:=k2.fl;by_cases c:p=n
      ·subst c;rw [hMn];omega
      ·rw [hMl p p0 (by omega)]
       have:=k2.nl p (by simpa using p0) (by omega)
       have:400000000 * tsz a<=400000000 * 12001:=Nat.mul_le_mul_left _ hz;omega
     have hgd:∀ k:Int,0<=k->k<=n->(ix good k=true↔(k < n/\k∈e.2.2.1)\/(k=n/\e.1=true)):=fun k k0 k1'=>by
      by_cases c:k=n
      ·subst c;rw [<- hv,k5];constructor
       ·intro h;exact .inr ⟨rfl,h⟩
       ·rintro (⟨h,_⟩ | ⟨_,h⟩)
        ·omega
        ·exact h
      ·rw [k4 k k0 (by omega)]
       constructor
       ·intro h;exact .inl ⟨by omega,h⟩
       ·rintro (⟨_,h⟩ | ⟨h,_⟩)
        ·exact h
        ·exact absurd h c
     have x1:=zwn (L:=lvs a) (e:=e) (g:=letters.toNat) hn' b1;obtain ⟨j1,_,G1,J1⟩:=zuC x1;have d1:=zy0 x1 (by omega) (by omega) G1 J1
     obtain ⟨o,C,Q,K,w1,w2,w3⟩:=zrU d1;have p1:=zxH (good:=good) (e:=e) (g:=letters) hn' hv (by rw [List.length_append,List.length_singleton];omega) (by omega) b1 hrow hgd hr G1 J1 w2
     obtain ⟨B,y,T,F,f1,f2,f3,f4,f5,f6,f7,f8,f9,f10⟩:=zui (letters:=letters) h4 hv hn' (by omega)
     obtain ⟨b2,a2⟩:=zv2 f5 hv hn';have hfr:∀ p:Int,0<=p->p<=n->∀ q:Int,0<=q->q < n->(q∈ix (dB n B++[(dE y).2.1]) p↔bitP (fr n B y p) q):=fun p p0 p1 q q0 q1=>by
      unfold fr;by_cases c:p < n
      ·rw [if_pos c,zan p0 (by rw [zey (by omega)];omega),zkj (by omega) p0 c,zgn]
       exact ⟨fun h=>h.2.2,fun h=>⟨q0,by omega,h⟩⟩
      ·obtain rfl:p=n:=by omega
       rw [if_neg c];have:((n:Nat):Int)=((dB n B).length:Int):=by rw [zey (by omega)]
       rw [this,zau];show q∈bl y.2.1↔_;rw [zgn];exact ⟨fun h=>h.2.2,fun h=>⟨q0,by omega,h⟩⟩
     have hT:∀ x:St3,x∈T↔∃ p q:Int,0<=p/\p<=n/\0<=q/\q < n/\q∈ix (dB n B++[(dE y).2.1]) p/\x=(p,ix (lvs a) q,q,()):=fun x=>by
      rw [f8];refine exists_congr fun p=>exists_congr fun q=>and_congr_right fun p0=>and_congr_right fun p1=>and_congr_right fun q0=>and_congr_right fun q1=>and_congr ?_ Iff.rfl
      exact (hfr p p0 p1 q q0 q1).symm
     have hF:∀ q:Int,q∈F↔(0<=q/\q<=n/\((q < n/\q∈(dE y).2.2.1)\/(q=n/\(dE y).1=true))):=fun q=>by
      rw [f9];refine and_congr_right fun q0=>and_congr_right fun q1=>or_congr (and_congr_right fun q2 => ?_) Iff.rfl
      show _↔q∈bl y.2.2.1;rw [zgn];exact ⟨fun h=>⟨q0,by omega,h⟩,fun h=>h.2.2⟩
     have x2:=zwn (L:=lvs a) (e:=dE y) (g:=letters.toNat) hn' b2;obtain ⟨j2,_,G2,J2⟩:=zuC x2;have d2:=zy0 x2 (by omega) (by omega) G2 J2
     obtain ⟨o',C',Q',K',w1',w2',w3'⟩:=zrU d2;have p2:=zw7 (e:=dE y) (g:=letters) hn' b2 hT f6 hF f7 hr G2 J2 w3';have walk1:∀ v:List Int,(∀ x∈v,0<=x/\x < (letters.toNat:Int))->ix (xAut (nxA (lvs a) (N++[e.2.1]) n) (mkA n e) letters.toNat (ishl .i64 1 (n:Int)) j1).2.2.2.1 (wlk (xAut (nxA (lvs a) (N++[e.2.1]) n) (mkA n e) letters.toNat (ishl .i64 1 (n:Int)) j1).2.2.1 0 v)=mkA n e (v.foldl (nxA (lvs a) (N++[e.2.1]) n) (ishl .i64 1 (n:Int))):=fun v hv'=>by
      obtain ⟨_,_,g3⟩:=zmn x1 j1 G1;have hpos:=d1.n1.1;have hrr:=g3.r;have:1<=(xSt (nxA (lvs a) (N++[e.2.1]) n) (mkA n e) letters.toNat (ishl .i64 1 (n:Int)) j1).2.1.length:=hpos;obtain ⟨y1,y2,y3⟩:=zrk x1 G1 J1 v 0 (by omega) (by omega) hv'
      have e2:=g3.mark _ y1 y2;refine e2.trans ?_
      rw [y3,g3.z]
     have walk2:∀ v:List Int,(∀ x∈v,0<=x/\x < (letters.toNat:Int))->ix (xAut (nxA (lvs a) (dB n B++[(dE y).2.1]) n) (mkA n (dE y)) letters.toNat (ishl .i64 1 (n:Int)) j2).2.2.2.1 (wlk (xAut (nxA (lvs a) (dB n B++[(dE y).2.1]) n) (mkA n (dE y)) letters.toNat (ishl .i64 1 (n:Int)) j2).2.2.1 0 v)=mkA n (dE y) (v.foldl (nxA (lvs a) (dB n B++[(dE y).2.1]) n) (ishl .i64 1 (n:Int))):=fun v hv'=>by
      obtain ⟨_,_,g3⟩:=zmn x2 j2 G2;have hpos:=d2.n1.1;have hrr:=g3.r;have:1<=(xSt (nxA (lvs a) (dB n B++[(dE y).2.1]) n) (mkA n (dE y)) letters.toNat (ishl .i64 1 (n:Int)) j2).2.1.length:=hpos;obtain ⟨y1,y2,y3⟩:=zrk x2 G2 J2 v 0 (by omega) (by omega) hv'
      have e2:=g3.mark _ y1 y2;refine e2.trans ?_
      rw [y3,g3.z]
     have m01:∀ (f:EN) (s:Int),mkA n f s=0\/mkA n f s=1:=fun f s=>by unfold mkA;split<;>simp
     have heq:LEq (xAut (nxA (lvs a) (N++[e.2.1]) n) (mkA n e) letters.toNat (ishl .i64 1 (n:Int)) j1) 0 (xAut (nxA (lvs a) (dB n B++[(dE y).2.1]) n) (mkA n (dE y)) letters.toNat (ishl .i64 1 (n:Int)) j2) 0:=fun v hv'=>by
      have e1:=walk1 v hv';have e2:=walk2 v hv';refine e1.trans (Eq.trans ?_ e2.symm)
      have i1:=a1 v;have i2:=a2 v;rcases m01 e (v.foldl (nxA (lvs a) (N++[e.2.1]) n) (ishl .i64 1 (n:Int))) with z1 | z1
      ·rcases m01 (dE y) (v.foldl (nxA (lvs a) (dB n B++[(dE y).2.1]) n) (ishl .i64 1 (n:Int))) with z2 | z2
       ·rw [z1,z2]
       ·have:=i1.2 (i2.1 z2);omega
      ·rw [z1,i2.2 (i1.1 z1)]
     have hoo:o=o':=zyl d1 d2 w1 w1' rfl heq;subst hoo;have eo:(o.1,o.2.1,o.2.2.1,o.2.2.2.1,())=o:=rfl;obtain ⟨z1,z2,z3⟩:=w1.sizes d1;have g1:zb6 letters text=some (o,0):=pre.trans p1;have g2:zh4 letters l=some (o,0):=by
      unfold zh4;refine zao m1 ?_
      rw [if_neg (by simp;omega),if_neg (by simp;omega),if_neg (by rw [decide_eq_true_iff];exact fun h=>hbig ((m2 letters (by omega)).1 h)),if_neg (by rw [decide_eq_true_iff];omega),hv]
      refine zao f10 ?_
      exact zao p2 rfl
     obtain ⟨b,hb⟩:∃ b,zix o=some b:=by
      unfold zix
      split
      ·split
       ·rw [zak (by unfold fits;omega)];exact ⟨_,rfl⟩
       ·exact ⟨_,rfl⟩
      ·exact ⟨_,rfl⟩
     unfold zcJ;refine zao g1 ?_
     dsimp only;rw [eo];refine zao hb (zao h2 ?_)
     rw [if_neg (by simp)]
     refine zao g2 ?_
     rw [if_neg (by simp)]
     dsimp only;rw [eo];refine zao (zun (by omega) (by omega) (fun r hr=>by have:=z3 r hr;omega)) ?_
     rw [if_neg (by simp),if_neg (by simp)]
     refine zao zvl ?_
     by_cases hm:mayE letters w=0
     ·rw [if_neg (by simpa using hm)]
      have hw:=zyt hm;have hwl:∀ x∈w,0<=x/\x < (letters.toNat:Int):=fun x hx'=>by
       have:=hw.2.2 x hx';omega
      obtain ⟨l1,l2,l3⟩:=zwJ d1 w1 hwl;have hos:=w1.st;have hol:=w1.all;have hoz:=w1.part.q.z;have ho1:o.1=(letters.toNat:Int):=w1.let1;have hl3:=w1.part.l3;have hacc:zlz o w=some (decide (ix o.2.2.2.1 (wlk o.2.2.1 o.2.1 w)=1)):=by
       unfold zlz;rw [eo];refine zao (ztp (d:=o) (L:=o.1) w1.tab' (fun x hx'=>by have:=hwl x hx';rw [ho1];exact this) (by omega) (by omega) (by omega)) ?_
       exact G_to (by omega) rfl
      refine zao hacc ?_
      obtain ⟨b',r1,r2⟩:=zwX hl hz hst (w:=w) (by omega)
      refine zao r1 ?_
      have e3:=walk1 w hwl;have e4:wlk (xAut (nxA (lvs a) (N++[e.2.1]) n) (mkA n e) letters.toNat (ishl .i64 1 (n:Int)) j1).2.2.1 (xAut (nxA (lvs a) (N++[e.2.1]) n) (mkA n e) letters.toNat (ishl .i64 1 (n:Int)) j1).2.1 w=wlk (xAut (nxA (lvs a) (N++[e.2.1]) n) (mkA n e) letters.toNat (ishl .i64 1 (n:Int)) j1).2.2.1 0 w:=rfl;rw [l3,e4,e3];have e5:decide (mkA n e (w.foldl (nxA (lvs a) (N++[e.2.1]) n) (ishl .i64 1 (n:Int)))=1)=b':=by
       rw [Bool.eq_iff_iff,decide_eq_true_iff,a1 w,r2]
      rw [e5];simp
     ·rw [if_pos (by simpa using hm)]
    ·have g1:zb6 letters text=some ((0,0,[],[],()),7):=by
      rw [pre,if_pos (by rw [decide_eq_true_iff];omega)]
     have g2:zh4 letters l=some ((0,0,[],[],()),7):=by
      unfold zh4;refine zao m1 ?_
      rw [if_neg (by simp;omega),if_neg (by simp;omega),if_neg (by rw [decide_eq_true_iff];exact fun h=>hbig ((m2 letters (by omega)).1 h)),if_pos (by rw [decide_eq_true_iff];omega)]
     unfold zcJ;refine zao g1 (zao zlw (zao h2 ?_))
     rw [if_neg (by simp)]
     refine zao g2 ?_
     rw [if_pos (by simp),if_pos (by simp)]
  ·have g1:zb6 letters text=some ((0,0,[],[],()),2):=by
    unfold zb6;refine zao h1 ?_
    rw [if_neg (by simp)]
    by_cases c:letters < 1
    ·rw [if_pos (decide_eq_true c)]
    ·rw [if_neg (by simpa using c),if_pos (by rw [decide_eq_true_iff];omega)]
   have g2:zh4 letters l=some ((0,0,[],[],()),2):=by
    unfold zh4;refine zao m1 ?_
    by_cases c:letters < 1
    ·rw [if_pos (decide_eq_true c)]
    ·rw [if_neg (by simpa using c),if_pos (by rw [decide_eq_true_iff];omega)]
   unfold zcJ;refine zao g1 (zao zlw (zao h2 ?_))
   rw [if_neg (by simp)]
   refine zao g2 ?_
   rw [if_pos (by simp),if_pos (by simp)]
 ·have g1:zb6 letters text=some ((0,0,[],[],()),4):=by
   unfold zb6;refine zao h1 ?_
   rw [if_pos (by simpa using h3)]
  unfold zcJ;refine zao g1 (zao zlw (zao h2 ?_))
  rw [if_pos (by simpa using h3),if_pos (by simp)]
end
end Go.Proofs.Ytheahfijmfffcaa.regularDetW
