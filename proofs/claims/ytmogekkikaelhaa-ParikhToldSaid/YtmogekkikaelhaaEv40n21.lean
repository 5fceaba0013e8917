import Derived.Test.YtmogekkikaelhaaEv40n20
import Derived.Test.YtmogekkikaelhaaAb24n14
import Derived.Test.YtmogekkikaelhaaAb24n16
import Derived.Lib.Bytealg
import Derived.LoopTactic
import Derived.Lib.OthersKept
import Derived.Below
import Derived.RangeFuncBox
import Derived.RangeFuncLeaves
import Derived.RangeFuncWrites
import Derived.OwnWalkIn
import Derived.TacticsInMore
import Derived.LoopNIn
import Derived.LoopIn
set_option linter.unusedVariables false
set_option linter.unusedSimpArgs false
set_option linter.unusedSectionVars false
namespace Go.Ab
noncomputable section
theorem ziL {R:Type} {p:Prop} [Decidable p] {a b x:R} (h1:p->a=x) (h2 : ¬ p->b=x):(if decide p=true then a else b)=x:=by
 by_cases h:p
 ·rw [if_pos (decide_eq_true h)];exact h1 h
 ·rw [if_neg (by simpa using h)];exact h2 h
theorem ztR {R:Type} {p:Prop} [Decidable p] {a b x:R} (h1:p->a=x) (h2 : ¬ p->b=x):(if p then a else b)=x:=by
 by_cases h:p
 ·rw [if_pos h];exact h1 h
 ·rw [if_neg h];exact h2 h
theorem iteb_to {R:Type} {t:Bool} {a b x:R} (h1:t=true->a=x) (h2:t=false->b=x):(if t=true then a else b)=x:=by
 cases t
 ·exact h2 rfl
 ·exact h1 rfl
theorem zfN {R:Type} {a b x:R} (h:a=x):(if true=true then a else b)=x:=h
theorem zfM {R:Type} {a b x:R} (h:b=x):(if false=true then a else b)=x:=h
theorem zeV {ts:List Ty} {a b x:Option (Tup ts)} (h1:a=x) (h2:b=x):both ts a b=x:=by rw [h1,h2,zkM]
theorem G_to {R:Type} {c:Prop} [Decidable c] {k x:Option R} (h:c) (h2:k=x):G c k=x:=(if_pos h).trans h2
theorem ztw {A B:Type} {o:Option A} {f:A->Option B} {x:Option B} {y:A} (h:o=some y) (h2:f y=x):o.bind f=x:=by rw [h];exact h2
theorem fits_of {x:Int} (h : -9223372036854775808<=x) (h2:x<=9223372036854775807):fits x:=⟨h,h2⟩
theorem zua {α:Type} {xs ys:List α} {b:Nat} (h:(xs.length+ys.length) * b<=140737488355328):room xs ys b:=h
section
variable {α:Type} [Inhabited α]
theorem zqW {l:List α} {i j:Int} (h0:0<=i) (h1:i<=j) (h2:j<=l.length):((cut l i j).length:Int)=j - i:=by
 unfold cut;rw [List.length_drop,List.length_take];omega
theorem cut_all {l:List α}:cut l 0 (l.length:Int)=l:=by simp [cut]
theorem ix_cut' {l:List α} {i j k:Int} (h0:0<=i) (hk:0<=k) (h:i+k < j):ix (cut l i j) k=ix l (i+k):=zrI h0 hk h
theorem zuE {l u:List α} {i j:Int} (h0:0<=i) (h1:i<=j) (h2:j<=l.length):cut l i j=u↔j - i=u.length/\∀ k:Int,0<=k->k < u.length->ix l (i+k)=ix u k:=by
 constructor
 ·rintro rfl;have:=zqW h0 h1 h2;exact ⟨by omega,fun k hk hk2=>(zrI h0 hk (by omega)).symm⟩
 ·rintro ⟨hl,hx⟩;have:=zqW h0 h1 h2;exact zrJ (by omega) (fun k hk hk2=>by rw [zrI h0 hk (by omega)];exact hx k hk (by omega))
theorem zuT {l u:List α}:l=u↔l.length=u.length/\∀ k:Int,0<=k->k < u.length->ix l k=ix u k:=by
 constructor
 ·rintro rfl;exact ⟨rfl,fun _ _ _=>rfl⟩
 ·rintro ⟨h1,h2⟩;exact zrJ h1 (fun k a b=>h2 k a (by omega))
end
def mayE (letters:Int) (w:List Int):Int:=
 if letters < 1\/4 < letters then 2 else if (60:Int) < w.length then 1 else if ∀ x∈w,0<=x/\x < letters then 0 else 2
theorem zl9 {letters:Int} {w:List Int} (h:letters < 1\/4 < letters):mayE letters w=2:=by unfold mayE;rw [if_pos h]
theorem zrP {letters:Int} {w:List Int} (h:1<=letters/\letters<=4) (h2:(60:Int) < w.length):mayE letters w=1:=by unfold mayE;rw [if_neg (by omega),if_pos h2]
theorem zpL {letters i:Int} {w:List Int} (h:1<=letters/\letters<=4) (h2:w.length<=(60:Int)) (h0:0<=i/\i < w.length) (hx : ¬ (0<=ix w i/\ix w i < letters)):mayE letters w=2:=by
 unfold mayE;rw [if_neg (by omega),if_neg (by omega),if_neg];intro hh;exact hx (hh _ (zgI h0.1 h0.2))
theorem zo2 {letters:Int} {w:List Int} (h:1<=letters/\letters<=4) (h2:w.length<=(60:Int)) (hx:∀ j:Int,0<=j->j < w.length->0<=ix w j/\ix w j < letters):mayE letters w=0:=by
 unfold mayE;rw [if_neg (by omega),if_neg (by omega),if_pos];exact zrx.2 hx
theorem zu3 {letters:Int} {w:List Int} (h:mayE letters w=0):(1<=letters/\letters<=4)/\w.length<=(60:Int)/\∀ x∈w,0<=x/\x < letters:=by
 unfold mayE at h;split at h
 ·omega
 ·split at h
  ·omega
  ·split at h
   ·rename_i h3;exact ⟨by omega,by omega,h3⟩
   ·omega
theorem mayE_012 {letters:Int} {w:List Int}:mayE letters w=0\/mayE letters w=1\/mayE letters w=2:=by
 unfold mayE;repeat' split
 all_goals simp
theorem Fc.pure {P:Program} {f:FuncId} {l:List Value} {r:Value} (hr:r.oneCell'=true) (hc:∀ w,Calls P f l.toArray w (fun e w'=>e = .returned r/\w'=w)) {h:Hp} {R:AV->Hp->Prop} (hR:R (.d (.lit r)) h):Fc P f (l.map fun v => .d (.lit v)) h R:=by
 intro w X H vs hX hH hok hs hv;have e:vs=l.toArray:=by
  apply Array.ext
  ·simpa using hs
  ·intro i h1 h2;have:=hv i (by simpa using h2);have hi:i < l.length:=by simpa using h2
   rw [List.getD_eq_getElem?_getD,List.getElem?_map,List.getElem?_eq_getElem hi,show vs.getD i undef=vs[i] by simp [Array.getD,h1]] at this;simp only [Option.map_some,Option.getD_some] at this;generalize vs[i]=q at this;cases this with
   | d _ _ h3=>cases h3;simp
 subst e;exact (hc w).mono fun e w' ⟨h1,h2⟩=>by
  subst h2;exact ⟨r,_,h,H,h1,hR,⟨rfl,rfl,rfl,Nat.le_refl _⟩,fun _ _ _=>rfl,hok,fun b hb => .inr hb,fun _ _=>rfl,.d _ _ (.lit _ hr)⟩
def ztf (s:List UInt8) (c:Int):Int:=Lib.indexByte s c.toNat.toUInt8
theorem zuO {P:Program} {f:FuncId} (h1:∀ (as:Array Value) (w:World),(callFunc f as).run P w = .ok (.enter f as) w)
  (hc:∀ (s:ByteArray) (c:Int) (w:World),Calls P f #[.string s,.int .u8 c] w fun e w'=>e = .returned (.int .i64 (Lib.indexByte s.data.toList c.toNat.toUInt8))/\w'=w):
  CE.ok P ⟨f,⟨[.str,.int .u8],[(0,.v 0),(1,.v 1)],[]⟩,⟨[.int .i64],[(0,.v 0)],[]⟩,fun X=>some (ztf X.1 X.2)⟩ where
 call:=h1
 fc X Y hY:=by
  cases hY;exact Fc.pure (l:=[.string ⟨⟨X.1⟩⟩,.int .u8 X.2]) (r := .int .i64 (ztf X.1 X.2)) rfl (fun w=>hc ⟨⟨X.1⟩⟩ X.2 w) ⟨rfl,rfl⟩
def znT (n:Int) (c:Bool):List UInt8->Int->Int
 | [],_ => -1
 | b::s,i=>if (decide (97+n<=(b.toNat:Int)) && decide ((b.toNat:Int)<=100))=c then i else znT n c s (i+1)
theorem ztT (n:Int) (c:Bool) (b:UInt8) (s:List UInt8) (i:Int):znT n c (b::s) i=if (decide (97+n<=(b.toNat:Int)) && decide ((b.toNat:Int)<=100))=c then i else znT n c s (i+1):=rfl
def zrH (s:List UInt8) (n:Int) (c:Bool):Option Int:=G (∀ b∈s,b.toNat < 128) (G (0<=n/\n<=1000) (some (znT n c s 0)))
theorem zuP {P:Program} {f m:Nat} (h1:∀ (as:Array Value) (w:World),(callFunc f as).run P w = .ok (.enter f as) w)
  (hc:∀ (s:ByteArray) (n:Int) (c:Bool) (b off:Nat) (w:World),b < w.heap.size->w.cell? ⟨b,off,none⟩=some (.int .i64 n)->(∀ b∈s.data.toList,b.toNat < 128)->0<=n->n<=1000->
   Calls P f #[.string s,.func (.func m) #[] #[.pointer (some ⟨b,off,none⟩)],.bool c] w fun e w'=>e = .returned (.int .i64 (znT n c s.data.toList 0))/\Go.RowKit.Below w.heap.size w w'):
  CE.ok P ⟨f,⟨[.str,.int .i64,.bool],[(0,.v 0),(1,.fn m [.addr 1]),(2,.v 2)],[]⟩,⟨[.int .i64],[(0,.v 0)],[]⟩,fun X=>zrH X.1 X.2.1 X.2.2⟩ where
 call:=h1
 fc X Y hY:=by
  obtain ⟨s,n,c⟩:List UInt8×Int×Bool:=X;have hY:zrH s n c=some Y:=hY;unfold zrH at hY;by_cases ha:∀ b∈s,b.toNat < 128
  ·rw [zal ha] at hY;by_cases hn:0<=n/\n<=1000
   ·rw [zal hn] at hY;cases hY;intro w Xs H vs hX hlow hH hvs hargs;have hsz:vs.size=3:=hvs;have v0:VRel w _ H (.d (.lit (.string ⟨⟨s⟩⟩))) (vs.getD 0 undef):=hargs 0 (by show 0 < 3;omega);have v1:VRel w _ H (.fn m [.addr (.lit (.int .i64 n))]) (vs.getD 1 undef):=hargs 1 (by show 1 < 3;omega);have v2:VRel w _ H (.d (.lit (.bool c))) (vs.getD 2 undef):=hargs 2 (by show 2 < 3;omega);have e:vs=#[vs.getD 0 undef,vs.getD 1 undef,vs.getD 2 undef]:=by
     apply Array.ext
     ·rw [hsz];rfl
     ·intro i h2 h3;have h3:i < 3:=h3
      match i,h3 with
      | 0,_=>simp [Array.getD,h2]
      | 1,_=>simp [Array.getD,h2]
      | 2,_=>simp [Array.getD,h2]
    generalize vs.getD 0 undef=a0 at v0 e;generalize vs.getD 1 undef=a1 at v1 e;generalize vs.getD 2 undef=a2 at v2 e;subst e;cases v0 with
    | d _ _ h0=>
     cases h0 with
     | lit _ _=>
      cases v2 with
      | d _ _ h2=>
       cases h2 with
       | lit _ _=>
        cases v1 with
        | fn _ _ cs hcs hcap=>
         have hcs:cs.size=1:=hcs;have hp:VRel w _ H (.addr (.lit (.int .i64 n))) (cs.getD 0 undef):=hcap 0 (by show 0 < 1;omega);have e2:cs=#[cs.getD 0 undef]:=by
          apply Array.ext
          ·rw [hcs];rfl
          ·intro i h2 h3;have:i=0:=by have h3:i < 1:=h3;omega
           subst this;simp [Array.getD,h2]
         generalize cs.getD 0 undef=p at hp e2;subst e2;cases hp with
         | addr _ b off g hb hcell hrel=>
          have hc0:=hcell 0 (by show 0 < 1;omega);have hr0:DRel w _ (.lit (.int .i64 n)) (g 0):=hrel 0 (by show 0 < 1;omega);have hg0:g 0 = .int .i64 n:=by generalize g 0=q at hr0;cases hr0;rfl
          rw [hg0] at hc0;refine (hc ⟨⟨s⟩⟩ n c b off w hb.1 hc0 ha hn.1 hn.2).mono ?_;rintro e w' ⟨rfl,hbl⟩;have hne:∀ id e,¬ zbm (hpSt [] []) id=some e:=by
           intro id e;show ¬ hpSt [] [] id=some e;unfold hpSt zar;simp only [look];split<;>simp
          refine ⟨_,_,_,H,rfl,⟨rfl,rfl⟩,⟨hbl.os,hbl.tape,hbl.output,hbl.size⟩,fun b hb _=>hbl.block b hb,⟨fun id e he=>absurd he (hne id e),fun id e v b he=>absurd he (hne id e),fun i j e e' v v' b he=>absurd he (hne i e)⟩,fun b ⟨id,e,v,he,_⟩=>absurd he (hne id e),fun _ _=>rfl,?_⟩;exact .d _ _ (.lit _ rfl)
   ·unfold G at hY;rw [if_neg hn] at hY;cases hY
  ·unfold G at hY;rw [if_neg ha] at hY;cases hY
theorem ce_spoil {P:Program} {f E:Nat} (h1:∀ (as:Array Value) (w:World),(callFunc f as).run P w = .ok (.enter f as) w)
  (hn:∀ w,Calls P f #[.slice none 0 0] w fun e w'=>e = .returned (.tuple #[])/\w'=w)
  (hc:∀ (g off n cap:Nat) (cur:Array Value) (w:World),w.heap[g]? =some (.cells cur E (0,0))->n<=cap->cap<=maxLen->off+cap<=cur.size->
   Calls P f #[.slice (some ⟨g,off,none⟩) n cap] w fun e w'=>e = .returned (.tuple #[])/\(w'.os=w.os/\w'.tape=w.tape/\w'.output=w.output/\w.heap.size<=w'.heap.size)/\∀ b,b≠g->w'.heap[b]? =w.heap[b]?):
  CE.ok P ⟨f,⟨[.list (.int .i64)],[(0,.own LIM)],[(LIM,.arr E 0)]⟩,⟨[],[],[]⟩,fun _=>some ()⟩ where
 call:=h1
 fc X Y hY:=by
  intro w Xs H vs hX hlow hH hvs hargs;have hsz:vs.size=1:=hvs;have hv:=hargs 0 (by show 0 < 1;omega);have hv:VRel w _ H (.own LIM) (vs.getD 0 undef):=hv;have e:vs=#[vs.getD 0 undef]:=by
   apply Array.ext
   ·rw [hsz];rfl
   ·intro i h2 h3;have:i=0:=by have h3:i < 1:=h3;omega
    subst this;simp [Array.getD,h2]
  generalize vs.getD 0 undef=v at hv e;subst e;have hid:H LIM=some v:=by cases hv;assumption
  have hent:zbm (hpSt ((⟨[.list (.int .i64)],[(0,.own LIM)],[(LIM,.arr E 0)]⟩:Shape).heap X) ((⟨[.list (.int .i64)],[(0,.own LIM)],[(LIM,.arr E 0)]⟩:Shape).rws X)) LIM=some (.arr E 1 8 ((X:List Int).map (Enc.enc (α:=Int)))):=rfl;obtain ⟨v',g1,g2⟩:=hH.ent LIM _ hent;rw [hid] at g1;cases g1;have hne:∀ id,zbm (hpSt ((⟨[],[],[]⟩:Shape).heap Y) ((⟨[],[],[]⟩:Shape).rws Y)) id=none:=by
   intro id;show hpSt [] [] id=none;unfold hpSt zar;simp only [look];split<;>rfl
  have fin:∀ (e:Ending) (w':World),e = .returned (.tuple #[])->(w'.os=w.os/\w'.tape=w.tape/\w'.output=w.output/\w.heap.size<=w'.heap.size)->(∀ b,blk v≠some b->w'.heap[b]? =w.heap[b]?)->
    ∃ v r h' H',e = .returned v/\(r=(retE ((⟨[],[],[]⟩:Shape).vals Y)).av/\h'=hpSt ((⟨[],[],[]⟩:Shape).heap Y) ((⟨[],[],[]⟩:Shape).rws Y))/\
     (w'.os=w.os/\w'.tape=w.tape/\w'.output=w.output/\w.heap.size<=w'.heap.size)/\(∀ b,b < w.heap.size -> ¬ zcL (hpSt ((⟨[.list (.int .i64)],[(0,.own LIM)],[(LIM,.arr E 0)]⟩:Shape).heap X) ((⟨[.list (.int .i64)],[(0,.own LIM)],[(LIM,.arr E 0)]⟩:Shape).rws X)) H b->w'.heap[b]? =w.heap[b]?)/\
     HOK Xs h' H' w'/\(∀ b,zcL h' H' b->w.heap.size<=b\/zcL (hpSt ((⟨[.list (.int .i64)],[(0,.own LIM)],[(LIM,.arr E 0)]⟩:Shape).heap X) ((⟨[.list (.int .i64)],[(0,.own LIM)],[(LIM,.arr E 0)]⟩:Shape).rws X)) H b)/\(∀ id,pinB id=true->H' id=H id)/\VRel w' (Sh Xs (zbm h') H' w') H' r v:=by
   intro e w' he ho hk;refine ⟨_,_,_,H,he,⟨rfl,rfl⟩,ho,fun b _ hb=>hk b fun hbv=>hb ⟨LIM,_,v,hent,hid,hbv⟩,⟨fun id e he=>(by rw [hne] at he;cases he),fun id e v b he=>(by rw [hne] at he;cases he),fun i j e e' v v' b he=>(by rw [hne] at he;cases he)⟩,
    fun b ⟨id,e,v,he,_⟩=>(by rw [hne] at he;cases he),fun _ _=>rfl,?_⟩
   exact .tup [] #[] rfl (by simp)
  cases g2 with
  | arr _ _ _ _ _ xs hsz hown=>
   obtain ⟨_,h2⟩:=hown;rcases h2 with ⟨rfl,_⟩ | ⟨g,off,cap,cur,rfl,hh,k1,k2,k3,_⟩
   ·exact (hn w).mono fun e w' ⟨a,b⟩=>by subst b;exact fin e w' a ⟨rfl,rfl,rfl,Nat.le_refl _⟩ fun _ _=>rfl
   ·exact (hc g off _ cap cur w hh k1 k2 (by simpa using k3)).mono fun e w' ⟨a,b,c⟩=>fin e w' a b fun q hq=>c q fun hqg=>hq (by rw [hqg];rfl)
def HdOK (w:World) (E:Nat) (g:Nat) (v:Value):Prop:=v = .slice none 0 0\/∃ b off n cap cur,v = .slice (some ⟨b,off,none⟩) n cap/\w.heap[b]? =some (.cells cur E (0,0))/\n<=cap/\cap<=maxLen/\off+cap<=cur.size/\b≠g
structure Spl (S:Nat->Prop) (w wr:World):Prop where
 o:wr.os=w.os/\wr.tape=w.tape/\wr.output=w.output/\wr.heap.size=w.heap.size
 k:∀ b,¬ S b->wr.heap[b]? =w.heap[b]?
 c:∀ (b:Nat) (cur:Array Value) (E:Nat),w.heap[b]? =some (.cells cur E (0,0))->∃ cur':Array Value,wr.heap[b]? =some (.cells cur' E (0,0))/\cur'.size=cur.size
theorem Spl.refl (S:Nat->Prop) (w:World):Spl S w w:=⟨⟨rfl,rfl,rfl,rfl⟩,fun _ _=>rfl,fun _ cur _ h=>⟨cur,h,rfl⟩⟩
theorem Spl.mono {S S':Nat->Prop} {w wr:World} (h:Spl S w wr) (hs:∀ b,S b->S' b):Spl S' w wr:=⟨h.o,fun b hb=>h.k b fun hh=>hb (hs b hh),h.c⟩
theorem Spl.trans {S:Nat->Prop} {w w1 w2:World} (h:Spl S w w1) (k:Spl S w1 w2):Spl S w w2:=
 ⟨⟨k.o.1.trans h.o.1,k.o.2.1.trans h.o.2.1,k.o.2.2.1.trans h.o.2.2.1,k.o.2.2.2.trans h.o.2.2.2⟩,fun b hb=>(k.k b hb).trans (h.k b hb),fun b cur E hb=>by
  obtain ⟨c1,h1,h2⟩:=h.c b cur E hb;obtain ⟨c2,k1,k2⟩:=k.c b c1 E h1;exact ⟨c2,k1,k2.trans h2⟩⟩
theorem Spl.hd {S:Nat->Prop} {w wr:World} (h:Spl S w wr) {E g:Nat} {v:Value} (k:HdOK w E g v):HdOK wr E g v:=by
 rcases k with rfl | ⟨b,off,n,cap,cur,rfl,h1,h2,h3,h4,h5⟩
 ·exact .inl rfl
 ·obtain ⟨c1,k1,k2⟩:=h.c b cur E h1;exact .inr ⟨b,off,n,cap,c1,rfl,k1,h2,h3,by omega,h5⟩
theorem HdOK.alloc {w:World} {E g:Nat} {v:Value} (k:HdOK w E g v) (o:Obj):HdOK (w.alloc o) E g v:=by
 rcases k with rfl | ⟨b,off,n,cap,cur,rfl,h1,h2⟩
 ·exact .inl rfl
 ·exact .inr ⟨b,off,n,cap,cur,rfl,(Go.RowKit.Below.heap_alloc w o b (Array.getElem?_eq_some_iff.1 h1).1).trans h1,h2⟩
def zog (E E1:Nat):Shape:=⟨[.int .i64,.int .i64,.list (.list (.int .i64)),.list (.int .i64)],[(0,.agg [.v 0,.v 1,.own LIM,.own (LIM+1)])],[(LIM,.out (LIM+2) E E1 2),(LIM+1,.arr E1 3)]⟩
theorem ztz {P:Program} {f E E1:Nat} (h1:∀ (as:Array Value) (w:World),(callFunc f as).run P w = .ok (.enter f as) w)
  (hn:∀ (v0 v1 mk:Value) (g:Nat) (w:World),HdOK w E1 g mk->Calls P f #[.agg #[v0,v1,.slice none 0 0,mk]] w fun e w'=>e = .returned (.tuple #[])/\(w'.os=w.os/\w'.tape=w.tape/\w'.output=w.output/\w.heap.size<=w'.heap.size)/\∀ b,b < w.heap.size -> ¬ blk mk=some b->w'.heap[b]? =w.heap[b]?)
  (hc:∀ (v0 v1 mk:Value) (g off n cap:Nat) (cur:Array Value) (xs:Nat->Value) (w:World),w.heap[g]? =some (.cells cur E (0,0))->n<=cap->cap<=maxLen->off+cap<=cur.size->(∀ j,j < n->cur.getD (off+j) undef=xs j)->
   (∀ j,j < n->HdOK w E1 g (xs j))->HdOK w E1 g mk->Calls P f #[.agg #[v0,v1,.slice (some ⟨g,off,none⟩) n cap,mk]] w fun e w'=>e = .returned (.tuple #[])/\(w'.os=w.os/\w'.tape=w.tape/\w'.output=w.output/\w.heap.size<=w'.heap.size)/\
    ∀ b,b < w.heap.size -> ¬ ((∃ j,j < n/\blk (xs j)=some b)\/blk mk=some b)->w'.heap[b]? =w.heap[b]?):
  CE.ok P ⟨f,zog E E1,⟨[],[],[]⟩,fun _=>some ()⟩ where
 call:=h1
 fc X Y hY:=by
  intro w Xs H vs hX hlow hH hvs hargs;have hsz:vs.size=1:=hvs;have hv:=hargs 0 (by show 0 < 1;omega);have e:vs=#[vs.getD 0 undef]:=by
   apply Array.ext
   ·rw [hsz];rfl
   ·intro i h2 h3;have:i=0:=by have h3:i < 1:=h3;omega
    subst this;simp [Array.getD,h2]
  generalize vs.getD 0 undef=v at hv e;subst e;obtain ⟨x0,x1,x2,x3⟩:Int×Int×List (List Int)×List Int:=X;generalize hh:hpSt ((zog E E1).heap (x0,x1,x2,x3)) ((zog E E1).rws (x0,x1,x2,x3))=hp at hH hv;have eN:zbm hp LIM=some (.out E 24 (famA (LIM+2) x2.length)):=by subst hh;rfl
  have eM:zbm hp (LIM+1)=some (.arr E1 1 8 (x3.map (Enc.enc (α:=Int)))):=by subst hh;rfl
  have eR:∀ j,j < x2.length->zbm hp (rid (LIM+2) j)=some (Ent.arrOf E1 (α:=Int) (x2.getD j [])):=fun j hj=>by
   have:=zcW (s:=⟨1,[],(zog E E1).heap (x0,x1,x2,x3),LIM,(zog E E1).rws (x0,x1,x2,x3)⟩) (f:=LIM+2) (r:=⟨E1,.int .i64,x2,none⟩) (i:=j) rfl (by unfold LIM RB;omega) rfl (by simp) hj;rw [zrz] at this;subst hh;exact this
  have hv:VRel w (Sh Xs (zbm hp) H w) H (.agg [.d (.lit (.int .i64 x0)),.d (.lit (.int .i64 x1)),.own LIM,.own (LIM+1)]) v:=hv;have hne:∀ id,zbm (hpSt ((⟨[],[],[]⟩:Shape).heap Y) ((⟨[],[],[]⟩:Shape).rws Y)) id=none:=by
   intro id;show hpSt [] [] id=none;unfold hpSt zar;simp only [look];split<;>rfl
  have fin:∀ (e:Ending) (w':World),e = .returned (.tuple #[])->(w'.os=w.os/\w'.tape=w.tape/\w'.output=w.output/\w.heap.size<=w'.heap.size)->(∀ b,b < w.heap.size -> ¬ zcL hp H b->w'.heap[b]? =w.heap[b]?)->
    ∃ v r h' H',e = .returned v/\(r=(retE ((⟨[],[],[]⟩:Shape).vals Y)).av/\h'=hpSt ((⟨[],[],[]⟩:Shape).heap Y) ((⟨[],[],[]⟩:Shape).rws Y))/\
     (w'.os=w.os/\w'.tape=w.tape/\w'.output=w.output/\w.heap.size<=w'.heap.size)/\(∀ b,b < w.heap.size -> ¬ zcL hp H b->w'.heap[b]? =w.heap[b]?)/\
     HOK Xs h' H' w'/\(∀ b,zcL h' H' b->w.heap.size<=b\/zcL hp H b)/\(∀ id,pinB id=true->H' id=H id)/\VRel w' (Sh Xs (zbm h') H' w') H' r v:=by
   intro e w' he ho hk;refine ⟨_,_,_,H,he,⟨rfl,rfl⟩,ho,hk,⟨fun id e he=>(by rw [hne] at he;cases he),fun id e v b he=>(by rw [hne] at he;cases he),fun i j e e' v v' b he=>(by rw [hne] at he;cases he)⟩,
    fun b ⟨id,e,v,he,_⟩=>(by rw [hne] at he;cases he),fun _ _=>rfl,?_⟩
   exact .tup [] #[] rfl (by simp)
  show Calls P f #[v] w _;cases hv with
  | agg _ cs hcs hrel=>
   have hcs:cs.size=4:=hcs;have r2:=hrel 2 (by show 2 < 4;omega);have r3:=hrel 3 (by show 3 < 4;omega);have r2:VRel w _ H (.own LIM) (cs.getD 2 undef):=r2;have r3:VRel w _ H (.own (LIM+1)) (cs.getD 3 undef):=r3;have ec:cs=#[cs.getD 0 undef,cs.getD 1 undef,cs.getD 2 undef,cs.getD 3 undef]:=by
    apply Array.ext
    ·rw [hcs];rfl
    ·intro i h2 h3;have h3:i < 4:=h3
     match i,h3 with
     | 0,_=>simp [Array.getD,h2]
     | 1,_=>simp [Array.getD,h2]
     | 2,_=>simp [Array.getD,h2]
     | 3,_=>simp [Array.getD,h2]
   generalize cs.getD 0 undef=v0 at ec;generalize cs.getD 1 undef=v1 at ec;generalize cs.getD 2 undef=nx at ec r2;generalize cs.getD 3 undef=mk at ec r3;subst ec;have hN:H LIM=some nx:=by cases r2;assumption
   have hM:H (LIM+1)=some mk:=by cases r3;assumption
   obtain ⟨_,g1,g2⟩:=hH.ent LIM _ eN;rw [hN] at g1;cases g1;obtain ⟨_,g3,g4⟩:=hH.ent (LIM+1) _ eM;rw [hM] at g3;cases g3;have hd:∀ (id:Nat) (l:List D) (v:Value) (g:Nat),zbm hp id=some (.arr E1 1 8 l)->H id=some v->(∀ b,blk v=some b->b≠g)->HdOK w E1 g v:=by
    intro id l v g he hv hg;obtain ⟨_,k1,k2⟩:=hH.ent id _ he;rw [hv] at k1;cases k1;cases k2 with
    | arr _ _ _ _ _ xs hsz hown=>
     obtain ⟨_,h2⟩:=hown;rcases h2 with ⟨rfl,_⟩ | ⟨g',off,cap,cur,rfl,hh,k1,k2,k3,_⟩
     ·exact .inl rfl
     ·exact .inr ⟨g',off,_,cap,cur,rfl,hh,k1,k2,by simpa using k3,hg g' rfl⟩
   cases g2 with
   | out _ _ _ _ xs hown hbt hrel2=>
    rw [zbj] at hown hbt hrel2;obtain ⟨hxl,h2⟩:=hown;have hrow:∀ j,j < x2.length->H (rid (LIM+2) j)=some (xs.getD j undef):=fun j hj=>by
     have:=hrel2 j hj;rw [zbA hj] at this;cases this;assumption
    have hOw:∀ j,j < x2.length->∀ b,blk (xs.getD j undef)=some b->zcL hp H b:=fun j hj b hb=>⟨_,_,_,eR j hj,hrow j hj,hb⟩
    have hOm:∀ b,blk mk=some b->zcL hp H b:=fun b hb=>⟨_,_,_,eM,hM,hb⟩
    rcases h2 with ⟨rfl,h0⟩ | ⟨g,off,cap,cur,rfl,hgh,k1,k2,k3,k4⟩
    ·refine (hn v0 v1 mk w.heap.size w (hd _ _ _ _ eM hM fun b hb e => ?_)).mono fun e w' ⟨a,b,c⟩=>fin e w' a b fun q hq hno=>c q hq fun hm=>hno (hOm q hm)
     have:=g4.lt hb;omega
    ·have hg:∀ id e v b,zbm hp id=some e->H id=some v->blk v=some b->id≠LIM->b≠g:=fun id e v b he hv hb hne hbg=>hne (hH.inj id LIM e _ v _ g he eN hv hN (hbg ▸ hb) rfl)
     refine (hc v0 v1 mk g off _ cap cur (fun j=>xs.getD j undef) w hgh k1 k2 (by simpa using k3) (fun j hj => ?_) (fun j hj=>hd _ _ _ _ (eR j hj) (hrow j hj) fun b hb=>hg _ _ _ b (eR j hj) (hrow j hj) hb ?_) (hd _ _ _ _ eM hM fun b hb=>hg _ _ _ b eM hM hb (by omega))).mono fun e w' ⟨a,b,c⟩=>fin e w' a b fun q hq hno=>c q hq fun hm => ?_
     ·have hj2:j < x2.length * 1:=by omega
      have:xs[j]? =(cur.toList.drop off)[j]? :=by rw [<- k4,List.getElem?_take,if_pos hj2]
      rw [List.getD_eq_getElem?_getD,this,List.getElem?_drop];simp [Array.getD_eq_getD_getElem?]
     ·unfold rid LIM RB;omega
     ·rcases hm with ⟨j,hj,hb⟩ | hb
      ·exact hno (hOw j hj q hb)
      ·exact hno (hOm q hb)
section
open Go.RowKit (Below)
theorem zoY (id:Nat):hpSt [] [] id=none:=by
 unfold hpSt zar;simp only [look];split<;>rfl
theorem CE.dcall {P:Program} {c:CE} (hc:c.ok P) (X:Tup c.sig.tys) (Y:Tup c.out.tys) (hd:c.den X=some Y) (h1:c.sig.heap X=[]) (h2:c.sig.rws X=[]) (ds:List D) (hds:EV.avL (c.sig.vals X)=ds.map .d) (r:Value) (hr:(retE (c.out.vals Y)).av = .d (.lit r))
  {w:World} {Xs:Nat->Prop} (hX:∀ b,Xs b->b < w.heap.size) (vs:Array Value) (hs:vs.size=ds.length) (hv:∀ i,i < ds.length->DRel w (fun b=>b < w.heap.size /\ ¬ Xs b) (ds.getD i default) (vs.getD i undef)):
  Calls P c.f vs w fun e w'=>e = .returned r/\Below w.heap.size w w':=by
 have hf:=hc.fc X Y hd;rw [h1,h2,hds] at hf;have hne:∀ id,zbm (hpSt [] []) id=none:=zoY;refine (hf w Xs (fun _=>none) vs hX (fun _ _=>rfl) ⟨fun id e he=>(by rw [hne] at he;cases he),fun id e v b he=>(by rw [hne] at he;cases he),fun i j e e' v v' b he=>(by rw [hne] at he;cases he)⟩ (by simpa using hs) (fun i hi => ?_)).mono ?_
 ·rw [List.length_map] at hi;have e:(ds.map AV.d).getD i default = .d (ds.getD i default):=by
   rw [List.getD_eq_getElem?_getD,List.getD_eq_getElem?_getD,List.getElem?_map,List.getElem?_eq_getElem hi];rfl
  rw [e];exact .d _ _ ((hv i hi).mono fun b hb=>⟨⟨hb.1,hb.2,fun id e v he=>(by rw [hne] at he;cases he)⟩,rfl⟩)
 ·rintro e w' ⟨v,q,h',H',he,⟨hq,hh⟩,ho,hk,_,_,_,hV⟩;rw [hq,hr] at hV;cases hV with
  | d _ _ h=>
   cases h with
   | lit _ _=>exact ⟨he,ho.1,ho.2.1,ho.2.2.1,ho.2.2.2,fun b hb=>hk b hb fun ⟨id,e,v,he,_⟩=>(by rw [hne] at he;cases he)⟩
structure Bk (T N:Nat) (A B:World):Prop where
 size:A.heap.size<=B.heap.size
 block:∀ k,k < N->k≠T->B.heap[k]? =A.heap[k]?
theorem Bk.refl (T N:Nat) (A:World):Bk T N A A:=⟨Nat.le_refl _,fun _ _ _=>rfl⟩
theorem Bk.trans {T N:Nat} {A B C:World} (h:Bk T N A B) (k:Bk T N B C):Bk T N A C:=⟨Nat.le_trans h.size k.size,fun i h1 h2=>(k.block i h1 h2).trans (h.block i h1 h2)⟩
theorem Bk.cell {T N:Nat} {A B:World} (h:Bk T N A B) {b off:Nat} (h1:b < N) (h2:b≠T):B.cell? ⟨b,off,none⟩=A.cell? ⟨b,off,none⟩:=World.cell?_of_block (w:=A) (w':=B) (h.block b h1 h2)
theorem Bk.of {T N:Nat} {A B:World} (h:Below N A B):Bk T N A B:=⟨h.size,fun k h1 _=>h.block k h1⟩
theorem Bk.b {T N:Nat} {w:World} (hn:N<=w.heap.size) (W:World) (l:Nat) (o o':Obj) (hl:w.heap.size<=l) (h:W.heap[l]? =some o) (_:o.isCells=false) (_:o.isWalk=false):Bk T N W (W.putObj l o'):=
 Bk.of ((Below.refl N W).grown (grownBy_putObj' W l o') (by have:=(Array.getElem?_eq_some_iff.1 h).1;omega) (fun k e=>by cases e;omega))
theorem Bk.own {β:Type} {T N B₀:Nat} {w₀:World} (hN:N<=B₀) (h0:N<=w₀.heap.size):OwnFrom B₀ (fun (_:β) W=>Bk T N w₀ W):=
 fun _ _ _ row hs hg hr=>⟨Nat.le_trans hs.size hg.size,fun k h1 h2=>by
  refine (hg.block k (by have:=hs.size;omega) fun e => ?_).trans (hs.block k h1 h2);have:=(hr k e.symm).1;omega⟩
theorem Bk.setCell {T N:Nat} (A:World) (i:Nat) (v:Value):Bk T N A (A.setCell ⟨T,i,none⟩ v):=
 ⟨(KeepsOthers.setCell A ⟨T,i,none⟩ v).size,fun k _ h2=>Below.heap_setCell A ⟨T,i,none⟩ v k h2⟩
theorem zsl {A B:World} (h:Below A.heap.size A B):KeepsOthers A B:=⟨h.size,fun k o hk _=>(h.block k (Array.getElem?_eq_some_iff.1 hk).1).trans hk⟩
def Ints (S:Nat->Prop) (W:World) (sv:Value) (zs:List Int):Prop:=
 zs.length * 8<=140737488351232 * 2/\((∃ a c,sv = .slice a 0 c/\zs=[])\/∃ b off cap,sv = .slice (some ⟨b,off,none⟩) zs.length cap/\S b/\∀ j:Nat,j < zs.length->W.cell? ⟨b,off+j,none⟩=some (.int .i64 (zs.getD j 0)))
theorem Ints.mono {S S':Nat->Prop} {A B:World} (h:∀ b,S b->S' b/\B.heap[b]? =A.heap[b]?) {sv:Value} {zs:List Int}:Ints S A sv zs->Ints S' B sv zs
 | ⟨l,.inl e⟩=>⟨l,.inl e⟩
 | ⟨l,.inr ⟨b,off,cap,e,hb,hc⟩⟩=>⟨l,.inr ⟨b,off,cap,e,(h b hb).1,fun j hj=>(World.cell?_of_block (w:=A) (w':=B) (h b hb).2).trans (hc j hj)⟩⟩
theorem Ints.of {w:World} {Xs:Nat->Prop} {zs:List Int} {sv:Value} (h:DRel w (fun b=>b < w.heap.size /\ ¬ Xs b) (encD (.list (.int .i64)) zs) sv):Ints (fun b=>b < w.heap.size) w sv zs:=by
 have h:DRel w (fun b=>b < w.heap.size /\ ¬ Xs b) (.sl 8 (zs.map fun n=>D.lit (.int .i64 n))) sv:=h;generalize hl:(zs.map fun n=>D.lit (.int .i64 n))=l at h;have hn:l.length=zs.length:=by rw [<- hl,List.length_map]
 cases h with
 | nil _ a c hc hn'=>
  have:zs=[]:=by cases zs with
   | nil=>rfl
   | cons=>simp at hn
  subst this;exact ⟨by simp,.inl ⟨_,_,rfl,rfl⟩⟩
 | sl _ _ b off c sz f h0 hsz hb hc hm hbt hcs hcell hrel=>
  refine ⟨by unfold most at hbt;omega,.inr ⟨b,off,c,by rw [hn],hb.1,fun j hj => ?_⟩⟩;have hg:l.getD j default = .lit (.int .i64 (zs.getD j 0)):=by
   rw [<- hl,List.getD_eq_getElem?_getD,List.getElem?_map,List.getElem?_eq_getElem hj,List.getD_eq_getElem?_getD,List.getElem?_eq_getElem hj];rfl
  have h1:=hcs j (by omega);rw [hg] at h1;have h1:1=sz:=h1;subst h1;have h2:=hrel j (by omega) 0 (by omega);rw [hg] at h2;rw [hcell j (by omega)];have h2:DRel w _ (.lit (.int .i64 (zs.getD j 0))) (f (j * 1+0)):=h2;rw [show j * 1+0=j by omega] at h2;generalize f j=q at h2;cases h2 with
  | lit=>rfl
def runB (f:Int->Int->Option Int):List Int->Int->Option Int
 | [],s=>some s
 | x::l,s=>(f s x).bind (runB f l)
theorem zvh (f:Int->Int->Option Int) (l:List Int) (x:Int) (s:Int):runB f (l++[x]) s=(runB f l s).bind fun s=>f s x:=by
 induction l generalizing s with
 | nil=>show (f s x).bind some=f s x;cases f s x<;>rfl
 | cons y l ih=>
  show (f s y).bind (runB f (l++[x]))=((f s y).bind (runB f l)).bind _;cases f s y with
  | none=>rfl
  | some z=>exact ih z
open Classical in
noncomputable def backAll {R:Type} (f:Int->Int->Option Int) (l:List Int) (s0:Int) (k:Int->Option R):Option R:=G (∃ I:Int->Prop,I s0/\∀ s x,I s->x∈l->∃ y,f s x=some y/\I y) ((runB f l.reverse s0).bind k)
end
end
section
open Go.RowKit (Below)
def RPost (P:Program) (l:Nat) (R:Ending->World->Prop) (e:Exit) (a:Act) (w:World):Prop:=
 (∃ jump,(match e with | .normal=>jump=none | .ret=>jump=some .ret | .exit id=>jump=some (.exit id) | _=>False)/\∃ v w',(Instr.endRound l jump).run P w = .ok v w'/\R (.returned v) w')\/∃ ch,e = .panic ch/\a.defers=[]/\R (.panicked ch) w
theorem zve {F:Fence} {n:Nat} {P:Program} {l:Nat} {f:FuncId} {tmps:Array Value} {assign body:Code} {w:World} {R:Ending->World->Prop} (hF:F.fn f) (hf:∃ fn,P.funcs[f]? =some fn)
  (h:assign.wpIn (F.inRound l) n P (fun e a₁ w₁=>e = .normal/\∃ w₂,(Instr.beginRound l).run P w₁ = .ok () w₂/\body.wpIn (F.inRound l) n P (RPost P l R) a₁ w₂) { tmps:=tmps,defers:=[] } w):RoundIn F n P l f tmps assign body w R:=by
 refine ⟨hF,fun c cs hr => ?_⟩
 let b:Frame:={ (default:Frame) with fn:=f,kind := .normal,roundOf:=some l }
 have hb0:Frame.round l f tmps assign body .normal=b.atR { tmps:=tmps,defers:=[] } [.code assign,.beginRound,.code body]:=by simp [Frame.round,Frame.atR,b]
 have hr':(F.inRound l).room ((c::cs).length+1+n):=hr;have hF':(F.inRound l).fn b.fn:=hF;obtain ⟨e,a₁,w₁,⟨rfl,w₂,hbr,hbody⟩,h1⟩:=h b [.beginRound,.code body] (c::cs) rfl hF' hr';have h2:StepsIn (Machine.fenced P (F.inRound l)) P (lone (b.atR a₁ [.beginRound,.code body]) (c::cs) w₁) (lone (b.atR a₁ [.code body]) (c::cs) w₂) := .one (fenced_calm (fr:=b.atR a₁ [.beginRound,.code body]) hF' hr' rfl) (stepR_beginRound rfl hbr);obtain ⟨e,a₂,w₃,hq,h3⟩:=hbody b [] (c::cs) rfl hF' hr';have h12:=StepsIn.trans h1 h2;rw [hb0];rcases hq with ⟨jump,hj,v,w',he,hR⟩ | ⟨ch,rfl,hd,hR⟩
 ·refine ⟨.returned v,w',hR,StepsIn.trans h12 ?_⟩;cases e with
  | normal=>subst hj;exact StepsIn.trans h3 (.one (fenced_calm (fr:=b.atR a₂ []) hF' hr' rfl) (stepR_round_end rfl rfl he))
  | ret=>
   subst hj;obtain ⟨k,hs⟩:=h3.2 rfl;exact StepsIn.trans hs (.one (fenced_calm (fr:=b.atR a₂ (.code .ret::k)) hF' hr' rfl) (stepR_round_ret rfl rfl he))
  | exit id=>
   subst hj;obtain ⟨k,hk,hs⟩:=h3.2 rfl rfl;exact StepsIn.trans hs (.one (fenced_calm (fr:=b.atR a₂ (.code (.exit id)::k)) hF' hr' rfl) (stepR_round_exit rfl rfl hk he))
  | _=>exact hj.elim
 ·obtain ⟨todo,hs⟩:=h3;have hl:(({ b.atR a₂ todo with mode := .panicking ch }:Frame)).leaving P w₃ (.panicked ch):=⟨rfl,hd,hf⟩;have hfen:(lone { b.atR a₂ todo with mode := .panicking ch } (c::cs) w₃).fenced P (F.inRound l):=fenced_leaving (n:=n) hF' hr' hl;exact ⟨.panicked ch,w₃,hR,StepsIn.trans h12 (StepsIn.trans hs (.one hfen (step_leave_panicked hl)))⟩
def IterP (F:Fence) (n:Nat) (P:Program) (gf:FuncId) (lb:Array Value) (N:Nat) (encs:Nat->Array Value) (w:World):Prop:=
 ∀ (l:Nat) (J:Nat->World->Prop) (Jx:World->Prop) (Jp:List PanicEntry->World->Prop) (W1:World),(∀ k W,J k W->Below w.heap.size w W)->
  (∀ k,k < N->∀ W,J k W->YieldAt F (n - 1) P l (encs k) W (fun e W'=>(e = .returned (.bool true)/\J (k+1) W')\/(e = .returned (.bool false)/\Jx W')\/∃ ch,e = .panicked ch/\Jp ch W'))->J 0 W1->
  CallsIn F n P gf (#[.func (.yield l) #[] #[]]++lb) W1 (fun e W'=>(∃ v,e = .returned v/\(J N W'\/Jx W'))\/∃ ch,e = .panicked ch/\Jp ch W')
def zs8 (B:Nat) (A C:World):Prop:=A.heap.size<=C.heap.size/\∀ b,B<=b->b < A.heap.size->C.heap[b]? =A.heap[b]?
theorem rangeP {F:Fence} {n:Nat} {P:Program} {g:Operand} {ps:Array Tmp} {assign body:Code} {Q:Exit->Act->World->Prop} {a:Act} {w:World} (hro:F.round=none) (h1:1<=n) (hfn:∀ f,F.fn f->∃ fn,P.funcs[f]? =some fn) {gf:Nat} {lb:Array Value} (hg:a.eval g = .func (.func gf) #[] lb) (hFg:F.fn gf)
  (eg:∀ args w,(callFunc gf args).run P w = .ok (.enter gf args) w) {N:Nat} {encs:Nat->Array Value} (hps:∀ k,(encs k).size=ps.size) (hit:IterP F (n - 1) P gf lb N encs w)
  (C:Nat->Prop) (X:Code->World->Prop) (Z:List PanicEntry->World->Prop) (hC0:C 0) (hX:∀ c W l r o,W.heap[l]? =some (.loop r)->w.heap.size<=l->X c W->X c (W.putObj l o))
  (hround:∀ k,k < N->C k->∀ (l:Nat) (W:World),w.heap.size<=l->l < W.heap.size->Below w.heap.size w W->
   assign.wpIn (F.inRound l) (n - 1 - 1) P (fun e a₁ W₁=>e = .normal/\Below W.heap.size W W₁/\∀ W₂:World,W₂.os=W₁.os->W₂.tape=W₁.tape->W₂.output=W₁.output->W₂.heap.size=W₁.heap.size->(∀ b,b≠l->W₂.heap[b]? =W₁.heap[b]?)->
    body.wpIn (F.inRound l) (n - 1 - 1) P (fun e a3 W3=>(e = .normal/\C (k+1)/\Below W₂.heap.size W₂ W3)\/
     (∃ c,(match e with | .ret=>c=Code.ret | .exit id=>c=Code.exit id | _=>False)/\zs8 w.heap.size W₂ W3/\X c W3)\/∃ ch,e = .panic ch/\a3.defers=[]/\zs8 w.heap.size W₂ W3/\Z ch W3) a₁ W₂)
    {tmps:=(ps.zip (encs k)).foldl (fun t (p,v)=>t.setIfInBounds p v) a.tmps,defers:=[] } W)
  (hdone:C N->∀ (D:Nat) (W:World),w.heap.size<=D->Below w.heap.size w W->W.heap[D]? =some (.deferred (some []))->Q .normal { a with defers:={ target := .collected D,args:=#[] }::a.defers } W)
  (hstop:∀ (D:Nat) (c:Code) (W:World),w.heap.size<=D->X c W->W.heap[D]? =some (.deferred (some []))->c.wpIn F n P Q { a with defers:={ target := .collected D,args:=#[] }::a.defers } W)
  (hpan:∀ (D:Nat) (ch:List PanicEntry) (W:World),w.heap.size<=D->Z ch W->W.heap[D]? =some (.deferred (some []))->Q (.panic ch) { a with defers:={ target := .collected D,args:=#[] }::a.defers } W):
  (Code.rangeFunc g ps assign body).wpIn F n P Q a w:=by
 refine wpIn_rangeFunc fun fn hF => ?_
 rw [hro]
 let D:=w.heap.size
 let l:=w.heap.size+1
 obtain ⟨rec,hrec⟩:∃ rec:LoopState->Option Code->Loop,rec=fun st pe=>{ state:=st,pending:=pe,fn,tmps:=a.tmps,params:=ps,assign,body,defers:=D }:=⟨_,rfl⟩
 obtain ⟨W1,hW1⟩:∃ W1,W1=(w.alloc (.deferred (some []))).alloc (.loop (rec .ready none)):=⟨_,rfl⟩;have hL1:W1.heap[l]? =some (.loop (rec .ready none)):=by
  have:=World.alloc_heap_new (w.alloc (.deferred (some []))) (.loop (rec .ready none));rw [World.size_alloc] at this;rw [hW1];exact this
 have hD1:W1.heap[D]? =some (.deferred (some [])):=by rw [hW1];exact (Below.heap_alloc _ _ _ (by simp [D])).trans (World.alloc_heap_new w _)
 have hB1:Below w.heap.size w W1:=by rw [hW1];exact ((Below.refl _ w).alloc (Nat.le_refl _) _).alloc (by simp) _
 have book:∀ (W:World) (o:Obj),Below w.heap.size w W->Below w.heap.size w (W.putObj l o):=fun W o hb=>
  hb.trans ⟨rfl,rfl,rfl,by simp,fun b hb'=>World.putObj_heap_other (by simp only [l];omega)⟩
 refine ⟨l,[{ target := .collected D,args:=#[] }],W1,{ target := .fn (.func gf) lb,args:=#[.func (.yield l) #[] #[]] },W1,gf,#[.func (.yield l) #[] #[]]++lb,W1,?_,?_,?_,?_,fun _=>h1,?_⟩
 ·rw [hW1,hrec];exact run_enterLoop_outer _ _ _ _ _
 ·simp only [resolve,hg];simp [go_sem]
 ·intro f' hf';simp [Target.leads] at hf';subst hf';exact hFg
 ·simp [invoke,go_sem,eg]
 refine (hit l (fun k W=>C k/\Below w.heap.size w W/\W.heap[l]? =some (.loop (rec .ready none))/\W.heap[D]? =some (.deferred (some [])))
  (fun W=>∃ c,X c W/\W.heap[l]? =some (.loop (rec .done (some c)))/\W.heap[D]? =some (.deferred (some [])))
  (fun ch W=>Z ch W/\W.heap[D]? =some (.deferred (some []))) W1 (fun k W h=>h.2.1) ?_ ⟨hC0,hB1,hL1,hD1⟩).mono ?_
 ·rintro k hk W ⟨hCk,hB,hL,hDW⟩;have hlt:l < W.heap.size:=(Array.getElem?_eq_some_iff.1 hL).1;have hy:=run_yield (P:=P) (args:=encs k) hL (by rw [hrec];exact hps k);rw [hrec] at hy;refine ⟨fn,_,assign,body,hy,zve hF (hfn fn hF) (wpIn_mono (hround k hk hCk l W (by simp only [l];omega) hlt hB) ?_)⟩;rintro e a₁ W₁ ⟨rfl,hB2,hbody⟩;have hL2:W₁.heap[l]? =some (.loop (rec .ready none)):=(hB2.block l hlt).trans hL;have hlt2:l < W₁.heap.size:=Nat.lt_of_lt_of_le hlt hB2.size;have hD2:W₁.heap[D]? =some (.deferred (some [])):=(hB2.block D (by simp only [D,l] at *; omega)).trans hDW;have hbr:=run_beginRound (P:=P) hL2 (by rw [hrec]);refine ⟨rfl,_,hbr,?_⟩;have hsame:∀ (W:World) (o:Obj),l < W.heap.size->(W.putObj l o).heap[l]? =some o:=fun W o h=>World.putObj_heap_same h
  generalize hW2:W₁.putObj l _=W₂ at hbody ⊢;have hL3:W₂.heap[l]? =some (.loop { rec .ready none with state := .busy }):=by rw [<- hW2];exact hsame _ _ hlt2
  have hD3:W₂.heap[D]? =some (.deferred (some [])):=by rw [<- hW2];exact (World.putObj_heap_other (by simp only [D,l];omega)).trans hD2
  have hB3:Below w.heap.size w W₂:=by rw [<- hW2];exact book _ _ (hB.trans (hB2.mono hB.size))
  have hs3:W₂.heap.size=W₁.heap.size:=by rw [<- hW2];simp
  refine wpIn_mono (hbody W₂ (by rw [<- hW2];rfl) (by rw [<- hW2];rfl) (by rw [<- hW2];rfl) hs3 (fun b hb=>by rw [<- hW2];exact World.putObj_heap_other hb)) ?_;rintro e a3 W3 (⟨rfl,hCk',hb3⟩ | ⟨c,hc,hk3,hx3⟩ | ⟨ch,rfl,hd3,hk3,hz3⟩)
  ·have hL4:=(hb3.block l (by omega)).trans hL3;have hD4:=(hb3.block D (by simp only [D,l] at *; omega)).trans hD3;have he:=run_endRound (P:=P) none hL4;rw [hrec] at he;refine .inl ⟨none,rfl,_,_,he,.inl ⟨rfl,hCk',book _ _ (hB3.trans (hb3.mono hB3.size)),?_,(World.putObj_heap_other (by simp only [D,l];omega)).trans hD4⟩⟩;rw [hsame _ _ (Array.getElem?_eq_some_iff.1 hL4).1,hrec];rfl
  ·have hL4:=(hk3.2 l (by simp only [l];omega) (by omega)).trans hL3;have hD4:=(hk3.2 D (Nat.le_refl _) (by simp only [D,l] at *; omega)).trans hD3;have he:=run_endRound (P:=P) (some c) hL4;rw [hrec] at he;refine .inl ⟨some c,?_,_,_,he,.inr (.inl ⟨rfl,c,hX c W3 l _ _ hL4 (by simp only [l];omega) hx3,?_,(World.putObj_heap_other (by simp only [D,l];omega)).trans hD4⟩)⟩
   ·cases e with
    | ret=>exact congrArg some hc
    | exit id=>exact congrArg some hc
    | _=>exact hc.elim
   ·rw [hsame _ _ (Array.getElem?_eq_some_iff.1 hL4).1,hrec];rfl
  ·have hD4:=(hk3.2 D (Nat.le_refl _) (by simp only [D,l] at *; omega)).trans hD3;exact .inr ⟨ch,rfl,hd3,.inr (.inr ⟨ch,rfl,hz3,hD4⟩)⟩
 ·rintro e W2 (⟨v,rfl,(⟨hCN,hB,hL,hDW⟩ | ⟨c,hx,hL,hDW⟩)⟩ | ⟨ch,rfl,hz,hDW⟩)
  ·have he:=run_endLoop (P:=P) hL (by rw [hrec];simp);rw [hrec] at he;exact ⟨none,_,he,hdone hCN D _ (Nat.le_refl _) (book _ _ hB) ((World.putObj_heap_other (by simp only [D,l];omega)).trans hDW)⟩
  ·have he:=run_endLoop (P:=P) hL (by rw [hrec];simp);rw [hrec] at he;exact ⟨some c,_,he,hstop D c _ (Nat.le_refl _) (hX c W2 l _ _ hL (by simp only [l];omega) hx) ((World.putObj_heap_other (by simp only [D,l];omega)).trans hDW)⟩
  ·exact hpan D ch W2 (Nat.le_refl _) hz hDW
theorem zst {F:Fence} {n:Nat} {P:Program} {f:FuncId} {args:Array Value} {w:World} {R:Ending->World->Prop} (hd:F.depth=none) (h:CallsIn F n P f args w R):Calls P f args w R:=fun cs=>
 let ⟨e,w',fr,r,s,x⟩:=h.2 cs (fun d h=>by rw [hd] at h;cases h)
 ⟨e,w',fr,r,s.comes,x⟩
theorem hp_two {a b:Nat} {x y:Option EEnt} {id:Nat} (h1:id≠a) (h2:id≠b):hpSt [(a,x),(b,y)] [] id=none:=by
 unfold hpSt zar;have:Ab.look [(a,x),(b,y)] id=none:=zbg fun p hp=>by
  simp only [List.mem_cons,List.not_mem_nil,or_false] at hp;rcases hp with rfl | rfl
  ·exact fun e=>h1 e.symm
  ·exact fun e=>h2 e.symm
 rw [this];simp only [Ab.look];split<;>rfl
end
end Go.Ab
