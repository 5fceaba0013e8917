import Derived.Test.YtheahfijmfffcaaEv36n20
import Derived.Test.YtheahfijmfffcaaAb24n14
import Derived.Test.YtheahfijmfffcaaAb24n16
import Derived.Lib.Bytealg
import Derived.LoopTactic
import Derived.Lib.OthersKept
import Derived.Below
set_option linter.unusedVariables false
set_option linter.unusedSimpArgs false
set_option linter.unusedSectionVars false
namespace Go.Ab
noncomputable section
theorem zt5 {R:Type} {p:Prop} [Decidable p] {a b x:R} (h1:p->a=x) (h2 : ¬ p->b=x):(if decide p=true then a else b)=x:=by
 by_cases h:p
 ·rw [if_pos (decide_eq_true h)];exact h1 h
 ·rw [if_neg (by simpa using h)];exact h2 h
theorem zAG {R:Type} {p:Prop} [Decidable p] {a b x:R} (h1:p->a=x) (h2 : ¬ p->b=x):(if p then a else b)=x:=by
 by_cases h:p
 ·rw [if_pos h];exact h1 h
 ·rw [if_neg h];exact h2 h
theorem zqq {R:Type} {a b x:R} (h:a=x):(if true=true then a else b)=x:=h
theorem zqo {R:Type} {a b x:R} (h:b=x):(if false=true then a else b)=x:=h
theorem zgh {ts:List Ty} {a b x:Option (Tup ts)} (h1:a=x) (h2:b=x):both ts a b=x:=by rw [h1,h2,zpY]
theorem G_to {R:Type} {c:Prop} [Decidable c] {k x:Option R} (h:c) (h2:k=x):G c k=x:=(if_pos h).trans h2
theorem zao {A B:Type} {o:Option A} {f:A->Option B} {x:Option B} {y:A} (h:o=some y) (h2:f y=x):o.bind f=x:=by rw [h];exact h2
theorem zh0 {x:Int} (h : -9223372036854775808<=x) (h2:x<=9223372036854775807):fits x:=⟨h,h2⟩
theorem zk4 {α:Type} {xs ys:List α} {b:Nat} (h:(xs.length+ys.length) * b<=140737488355328):room xs ys b:=h
section
variable {α:Type} [Inhabited α]
end
def mayE (letters:Int) (w:List Int):Int:=
 if letters < 1\/4 < letters then 2 else if (60:Int) < w.length then 1 else if ∀ x∈w,0<=x/\x < letters then 0 else 2
theorem zrX {letters:Int} {w:List Int} (h:letters < 1\/4 < letters):mayE letters w=2:=by unfold mayE;rw [if_pos h]
theorem zys {letters:Int} {w:List Int} (h:1<=letters/\letters<=4) (h2:(60:Int) < w.length):mayE letters w=1:=by unfold mayE;rw [if_neg (by omega),if_pos h2]
theorem zv0 {letters i:Int} {w:List Int} (h:1<=letters/\letters<=4) (h2:w.length<=(60:Int)) (h0:0<=i/\i < w.length) (hx : ¬ (0<=ix w i/\ix w i < letters)):mayE letters w=2:=by
 unfold mayE;rw [if_neg (by omega),if_neg (by omega),if_neg];intro hh;exact hx (hh _ (zb9 h0.1 h0.2))
theorem zAM {letters:Int} {w:List Int} (h:1<=letters/\letters<=4) (h2:w.length<=(60:Int)) (hx:∀ j:Int,0<=j->j < w.length->0<=ix w j/\ix w j < letters):mayE letters w=0:=by
 unfold mayE;rw [if_neg (by omega),if_neg (by omega),if_pos];exact zx8.2 hx
theorem zyt {letters:Int} {w:List Int} (h:mayE letters w=0):(1<=letters/\letters<=4)/\w.length<=(60:Int)/\∀ x∈w,0<=x/\x < letters:=by
 unfold mayE at h
 split at h
 ·omega
 ·split at h
  ·omega
  ·split at h
   ·rename_i h3;exact ⟨by omega,by omega,h3⟩
   ·omega
theorem Fc.pure {P:Program} {f:FuncId} {l:List Value} {r:Value} (hr:r.oneCell'=true) (hc:∀ w,Calls P f l.toArray w (fun e w'=>e = .returned r/\w'=w)) {h:Hp} {R:AV->Hp->Prop} (hR:R (.d (.lit r)) h):Fc P f (l.map fun v => .d (.lit v)) h R:=by
 intro w X H vs hX hH hok hs hv;have e:vs=l.toArray:=by
  apply Array.ext
  ·simpa using hs
  ·intro i h1 h2;have:=hv i (by simpa using h2)
   have hi:i < l.length:=by simpa using h2
   rw [List.getD_eq_getElem?_getD,List.getElem?_map,List.getElem?_eq_getElem hi,show vs.getD i undef=vs[i] by simp [Array.getD,h1]] at this
   simp only [Option.map_some,Option.getD_some] at this;generalize vs[i]=q at this
   cases this with
   | d _ _ h3=>cases h3;simp
 subst e;exact (hc w).mono fun e w' ⟨h1,h2⟩=>by
  subst h2;exact ⟨r,_,h,H,h1,hR,⟨rfl,rfl,rfl,Nat.le_refl _⟩,fun _ _ _=>rfl,hok,fun b hb => .inr hb,fun _ _=>rfl,.d _ _ (.lit _ hr)⟩
def zt6 (s:List UInt8) (c:Int):Int:=Lib.indexByte s c.toNat.toUInt8
theorem zxp {P:Program} {f:FuncId} (h1:∀ (as:Array Value) (w:World),(callFunc f as).run P w = .ok (.enter f as) w)
  (hc:∀ (s:ByteArray) (c:Int) (w:World),Calls P f #[.string s,.int .u8 c] w fun e w'=>e = .returned (.int .i64 (Lib.indexByte s.data.toList c.toNat.toUInt8))/\w'=w):
  CE.ok P ⟨f,⟨[.str,.int .u8],[(0,.v 0),(1,.v 1)],[]⟩,⟨[.int .i64],[(0,.v 0)],[]⟩,fun X=>some (zt6 X.1 X.2)⟩ where
 call:=h1
 fc X Y hY:=by
  cases hY;exact Fc.pure (l:=[.string ⟨⟨X.1⟩⟩,.int .u8 X.2]) (r := .int .i64 (zt6 X.1 X.2)) rfl (fun w=>hc ⟨⟨X.1⟩⟩ X.2 w) ⟨rfl,rfl⟩
def zlV (n:Int) (c:Bool):List UInt8->Int->Int
 | [],_ => -1
 | b::s,i=>if (decide (97+n<=(b.toNat:Int)) && decide ((b.toNat:Int)<=100))=c then i else zlV n c s (i+1)
theorem zqr (n:Int) (c:Bool) (b:UInt8) (s:List UInt8) (i:Int):zlV n c (b::s) i=if (decide (97+n<=(b.toNat:Int)) && decide ((b.toNat:Int)<=100))=c then i else zlV n c s (i+1):=rfl
def zt7 (s:List UInt8) (n:Int) (c:Bool):Option Int:=G (∀ b∈s,b.toNat < 128) (G (0<=n/\n<=1000) (some (zlV n c s 0)))
theorem zxq {P:Program} {f m:Nat} (h1:∀ (as:Array Value) (w:World),(callFunc f as).run P w = .ok (.enter f as) w)
  (hc:∀ (s:ByteArray) (n:Int) (c:Bool) (b off:Nat) (w:World),b < w.heap.size->w.cell? ⟨b,off,none⟩=some (.int .i64 n)->(∀ b∈s.data.toList,b.toNat < 128)->0<=n->n<=1000->
   Calls P f #[.string s,.func (.func m) #[] #[.pointer (some ⟨b,off,none⟩)],.bool c] w fun e w'=>e = .returned (.int .i64 (zlV n c s.data.toList 0))/\Go.RowKit.Below w.heap.size w w'):
  CE.ok P ⟨f,⟨[.str,.int .i64,.bool],[(0,.v 0),(1,.fn m [.addr 1]),(2,.v 2)],[]⟩,⟨[.int .i64],[(0,.v 0)],[]⟩,fun X=>zt7 X.1 X.2.1 X.2.2⟩ where
 call:=h1
 fc X Y hY:=by
  obtain ⟨s,n,c⟩:List UInt8×Int×Bool:=X;have hY:zt7 s n c=some Y:=hY;unfold zt7 at hY;by_cases ha:∀ b∈s,b.toNat < 128
  ·rw [zak ha] at hY;by_cases hn:0<=n/\n<=1000
   ·rw [zak hn] at hY
    cases hY;intro w Xs H vs hX hlow hH hvs hargs;have hsz:vs.size=3:=hvs;have v0:VRel w _ H (.d (.lit (.string ⟨⟨s⟩⟩))) (vs.getD 0 undef):=hargs 0 (by show 0 < 3;omega)
    have v1:VRel w _ H (.fn m [.addr (.lit (.int .i64 n))]) (vs.getD 1 undef):=hargs 1 (by show 1 < 3;omega)
    have v2:VRel w _ H (.d (.lit (.bool c))) (vs.getD 2 undef):=hargs 2 (by show 2 < 3;omega)
    have e:vs=#[vs.getD 0 undef,vs.getD 1 undef,vs.getD 2 undef]:=by
     apply Array.ext
     ·rw [hsz];rfl
     ·intro i h2 h3;have h3:i < 3:=h3
      match i,h3 with
      | 0,_=>simp [Array.getD,h2]
      | 1,_=>simp [Array.getD,h2]
      | 2,_=>simp [Array.getD,h2]
    generalize vs.getD 0 undef=a0 at v0 e;generalize vs.getD 1 undef=a1 at v1 e;generalize vs.getD 2 undef=a2 at v2 e;subst e
    cases v0 with
    | d _ _ h0=>
     cases h0 with
     | lit _ _=>
      cases v2 with
      | d _ _ h2=>
       cases h2 with
       | lit _ _=>
        cases v1 with
        | fn _ _ cs hcs hcap=>
         have hcs:cs.size=1:=hcs;have hp:VRel w _ H (.addr (.lit (.int .i64 n))) (cs.getD 0 undef):=hcap 0 (by show 0 < 1;omega)
         have e2:cs=#[cs.getD 0 undef]:=by
          apply Array.ext
          ·rw [hcs];rfl
          ·intro i h2 h3;have:i=0:=by have h3:i < 1:=h3;omega
           subst this;simp [Array.getD,h2]
         generalize cs.getD 0 undef=p at hp e2;subst e2
         cases hp with
         | addr _ b off g hb hcell hrel=>
          have hc0:=hcell 0 (by show 0 < 1;omega)
          have hr0:DRel w _ (.lit (.int .i64 n)) (g 0):=hrel 0 (by show 0 < 1;omega)
          have hg0:g 0 = .int .i64 n:=by generalize g 0=q at hr0;cases hr0;rfl
          rw [hg0] at hc0;refine (hc ⟨⟨s⟩⟩ n c b off w hb.1 hc0 ha hn.1 hn.2).mono ?_
          rintro e w' ⟨rfl,hbl⟩;have hne:∀ id e,¬ zdE (hpSt [] []) id=some e:=by
           intro id e;show ¬ hpSt [] [] id=some e;unfold hpSt zaF;simp only [look]
           split<;>simp
          refine ⟨_,_,_,H,rfl,⟨rfl,rfl⟩,⟨hbl.os,hbl.tape,hbl.output,hbl.size⟩,fun b hb _=>hbl.block b hb,⟨fun id e he=>absurd he (hne id e),fun id e v b he=>absurd he (hne id e),fun i j e e' v v' b he=>absurd he (hne i e)⟩,fun b ⟨id,e,v,he,_⟩=>absurd he (hne id e),fun _ _=>rfl,?_⟩
          exact .d _ _ (.lit _ rfl)
   ·unfold G at hY;rw [if_neg hn] at hY;cases hY
  ·unfold G at hY;rw [if_neg ha] at hY;cases hY
structure Spl (S:Nat->Prop) (w wr:World):Prop where
 o:wr.os=w.os/\wr.tape=w.tape/\wr.output=w.output/\wr.heap.size=w.heap.size
 k:∀ b,¬ S b->wr.heap[b]? =w.heap[b]?
 c:∀ (b:Nat) (cur:Array Value) (E:Nat),w.heap[b]? =some (.cells cur E (0,0))->∃ cur':Array Value,wr.heap[b]? =some (.cells cur' E (0,0))/\cur'.size=cur.size
end
end Go.Ab
