import Derived.Test.YtajabcfngklacaaEv40n30
import Derived.Test.YtajabcfngklacaaAb24n15
set_option linter.unusedVariables false
set_option linter.unusedSimpArgs false
namespace Go.Ab
noncomputable section
open Enc (enc)
def Sml:(t:Ty)->t.den->Prop
  | .int k,n=>k.min<=(n:Int)/\(n:Int)<=k.max
  | .list t,l=>l.length * t.bts<=140737488351232/\∀ x∈l,Sml t x
  | .pair a b,x=>Sml a x.1/\Sml b x.2
  | _,_=>True
def RDT (P:Program) (id:TypeId) (t:Ty):Prop:=RD P id t.sz (fun d=>∃ x:t.den,d=encD t x/\Sml t x)
theorem zFb {P:Program} {id:TypeId} {k:IntKind} (h:P.underlying id=some (.int k)):RDT P id (.int k):=by
  intro H g w c cs d i e _;obtain ⟨n,rfl,l,a⟩:=DataW.trod_int h e;have a:k.min<=n/\n<=k.max:=by
    have f:=a;simpa [Lit.wf] using f
  exact ⟨rfl,_,⟨n,rfl,a⟩,rfl,fun j b=>by
    have b:j < 1:=b;have:j=0:=by omega
    subst this;exact .lit _ rfl⟩
theorem rd_bool {P:Program} {t:TypeId} (h:P.underlying t=some .bool):RDT P t .bool:=by
  intro H e w b cs d f c _;obtain ⟨m,rfl⟩:=zp0 h c;exact ⟨rfl,_,⟨m,rfl,trivial⟩,rfl,fun j a=>by
    have a:j < 1:=a;have:j=0:=by omega
    subst this;exact .lit _ rfl⟩
theorem zFc {P:Program} {t:TypeId} (h:P.underlying t=some .string):RDT P t .str:=by
  intro H e w b cs d f c _;obtain ⟨m,rfl⟩:=znS h c;exact ⟨rfl,_,⟨m.data.toList,rfl,trivial⟩,rfl,fun j a=>by
    have a:j < 1:=a;have:j=0:=by omega
    subst this;exact .lit _ rfl⟩
theorem zCF {P:Program} {t e:TypeId} {c:Ty} (R:P.underlying t=some (.slice e)) (V:RDT P e c) (W:P.cellsOf e=c.sz) (T:P.bytesOf e=c.bts) (g:0 < c.sz):RDT P t (.list c):=by
  intro H X w U cs d ps Y hs;rcases DataW.trod_slice R Y with ⟨rfl,s⟩ | ⟨a,len,cap,elems,rest,n,rfl,rfl,s,_,hl,hm,hel,hget,hrest,_⟩
  · exact ⟨rfl,_,⟨([]:List c.den),rfl,Nat.zero_mul _ ▸ Nat.zero_le _,fun _ h=>(by cases h)⟩,rfl,fun j r=>by
      have:j=0:=by
        have:j < 1:=r;omega
      subst this;exact .nil _ _ _ (by simp [maxLen]) (fun _=>rfl)⟩
  · refine ⟨rfl,?_⟩;have hd1:d = .slice (elems.map (·.1)) (rest.map (·.1)):=congrArg Prod.fst s;subst hd1;have y:(elems.length+rest.length) * P.bytesOf e<=reachBytes/\zhV (DataW.weightsAll P e (elems.map (·.1))):=by
      unfold zhV DataW.weights at hs;rw [R] at hs;simp only [List.all_cons,List.all_append,Bool.and_eq_true,decide_eq_true_eq,List.length_map] at hs;exact ⟨hs.1,hs.2.1⟩
    by_cases h0:len=0
    · subst h0;exact ⟨_,⟨([]:List c.den),rfl,Nat.zero_mul _ ▸ Nat.zero_le _,fun _ h=>(by cases h)⟩,rfl,fun j r=>by
        have:j=0:=by
          have:j < 1:=r;omega
        subst this;exact .nil _ _ _ hm (by simp)⟩
    · -- each element
      have f:∀ i,i < len->∃ x:c.den,Sml c x/\∀ j,j < c.sz->∃ u,w.cell? (a.add (i * c.sz+j))=some u/\DRel w (fun b=>b < w.heap.size) ((enc x).cells.getD j default) u:=by
        intro i o;have L:=hget i o;have A:elems[i]? =some elems[i]:=by simp [hel,o]
        rw [A,W] at L;obtain ⟨O,h3,h4⟩:=Option.bind_eq_some_iff.1 L;obtain ⟨h5,h6⟩:=zwS h3;have Z:zhV ((elems[i]).1.weights P e):=zmk (l:=elems.map (·.1)) (i:=i) (by simp [hel,o]) y.2;obtain ⟨_,_,⟨x,rfl,Q⟩,_,hrel⟩:=V H X w n O elems[i].1 elems[i].2 h4 Z;refine ⟨x,Q,fun j r=>⟨O.getD j undef,?_,hrel j r⟩⟩;have:=h6 j r;have B:(a.add (i * c.sz)).add j=a.add (i * c.sz+j):=by
          unfold Addr.add;by_cases z:i * c.sz=0
          · by_cases I:j=0
            · simp [z,I]
            · simp [z,I]
          · by_cases I:j=0
            · simp [z,I]
            · simp [z,I,Nat.add_assoc]
        rw [<- B,this];have:j < O.length:=by omega
        simp [List.getD_eq_getElem?_getD,this]
      obtain ⟨xs,m,J⟩:=zp5 _ len f;have p:a.spot=none:=by
        obtain ⟨x,_,s⟩:=f 0 (by omega);obtain ⟨u,v,_⟩:=s 0 g;have:a.add (0 * c.sz+0)=a:=by simp [Addr.add]
        rw [this] at v;exact World.cell?_spot v
      obtain ⟨b,off,sp⟩:=a;simp only at p;subst p;have C:xs.length * c.bts<=140737488351232:=by
        rw [m,<- T];have:=y.1;unfold reachBytes at this;have h7:len * P.bytesOf e<=(elems.length+rest.length) * P.bytesOf e:=Nat.mul_le_mul_right _ (by omega);omega
      refine ⟨enc xs,⟨xs,rfl,C,fun x s => ?_⟩,rfl,fun j r => ?_⟩
      · obtain ⟨i,o,rfl⟩:=List.mem_iff_getElem.1 s;exact (J i xs[i] (by simp [o])).1
      have N:j=0:=by
        have:j < 1:=r;omega
      subst N;have q:∀ i,i < len->∃ x,xs[i]? =some x/\(xs.map (enc:c.den->D)).getD i default=enc x:=fun i o=>by
        have:i < xs.length:=by omega
        exact ⟨xs[i],by simp [this],by simp [List.getD_eq_getElem?_getD,this]⟩
      have E:=DRel.sl (w:=w) (S:=fun b=>b < w.heap.size) (c.bts) (xs.map (enc:c.den->D)) b off cap (c.sz) (fun k=>(w.cell? ⟨b,off+k,none⟩).getD undef) (by simp;omega) g
        (by
          obtain ⟨x,_,s⟩:=f 0 (by omega);obtain ⟨u,v,_⟩:=s 0 g;have:=World.block_lt_of_cell? w _ v;rw [zgJ] at this;exact this) (by simp;omega) hm
        (by
          rw [List.length_map,m,<- T];have:=y.1;unfold reachBytes at this;unfold most;have h7:len * P.bytesOf e<=(elems.length+rest.length) * P.bytesOf e:=Nat.mul_le_mul_right _ (by omega);omega)
        (fun i o=>by
          obtain ⟨x,_,A⟩:=q i (by simpa [m] using o);rw [A];exact zbg c x)
        (fun k M=>by
          have M:k < len * c.sz:=by simpa [m] using M
          have o:k / c.sz < len:=by rw [Nat.div_lt_iff_lt_mul g];exact M
          obtain ⟨x,_,s⟩:=f (k / c.sz) o;obtain ⟨u,v,_⟩:=s (k % c.sz) (Nat.mod_lt _ g);have z:k / c.sz * c.sz+k % c.sz=k:=by rw [Nat.mul_comm];exact Nat.div_add_mod _ _
          rw [z,zgJ] at v;simp only [v];rfl)
        (fun i o j r=>by
          obtain ⟨x,L,A⟩:=q i (by simpa [m] using o);obtain ⟨u,v,hr⟩:=(J i x L).2 j r;rw [A];rw [zgJ] at v;simp only [v];exact hr)
      have F:(xs.map (enc:c.den->D)).length=len:=by simp [m]
      rw [F] at E;exact E
theorem zCE {P:Program} {t k off i:Nat} {l:Array Field} {a:Ty} (p:P.underlying t=some (.struct l)) (u:(l[i]?).map (fun f=>(f.offset,f.type))=some (off,k)) (v:RDT P k a) (E:P.cellsOf k=a.sz)
    {H:Type} {q:TypeId×Value->H} {w:World} {g:Nat} {cs:List Value} {d:DataW H} {y:List MemPlace} (z:DataW.trod q P w 0 (fun _=>true) true g t cs=some (d,y)) (hs:zhV (d.weights P t)):
    ∃ x:a.den,Sml a x/\∀ j,j < a.sz->DRel w (fun b=>b < w.heap.size) ((encD a x).cells.getD j default) (cs.getD (off+j) undef):=by
  obtain ⟨f,c,C⟩:=Option.map_eq_some_iff.1 u;cases C;obtain ⟨xs,n,rfl,D,F,m,h⟩:=DataW.trod_struct p z;have hd1:d = .agg (xs.map (·.1)):=congrArg Prod.fst D;subst hd1;have r:=h i f c;have s:i < xs.length:=by rw [m];exact (Array.getElem?_eq_some_iff.1 c).1
  rw [List.getElem?_eq_getElem s] at r;have B:zhV ((xs[i]).1.weights P f.type):=by
    unfold zhV DataW.weights at hs;rw [p] at hs;refine zlA (ts:=l.toList.map (·.type)) (ds:=xs.map (·.1)) (i:=i) ?_ ?_ hs
    · simp [c]
    · simp [s]
  obtain ⟨_,_,⟨x,rfl,o⟩,_,hrel⟩:=v H q w n _ xs[i].1 xs[i].2 r B;refine ⟨x,o,fun j A => ?_⟩;have:=hrel j A;have e:((cs.drop f.offset).take (P.cellsOf f.type)).getD j undef=cs.getD (f.offset+j) undef:=by
    simp only [List.getD_eq_getElem?_getD,List.getElem?_take,List.getElem?_drop];rw [if_pos (by omega)]
  rwa [e] at this
theorem zDY {P:Program} {t e n:Nat} {a:Ty} (i:Nat) (k:P.underlying t=some (.array n e)) (p:i < n) (q:RDT P e a) (r:P.cellsOf e=a.sz)
    {H:Type} {l:TypeId×Value->H} {w:World} {c:Nat} {cs:List Value} {d:DataW H} {s:List MemPlace} (u:DataW.trod l P w 0 (fun _=>true) true c t cs=some (d,s)) (hs:zhV (d.weights P t)):
    ∃ x:a.den,Sml a x/\∀ j,j < a.sz->DRel w (fun b=>b < w.heap.size) ((encD a x).cells.getD j default) (cs.getD (i * a.sz+j) undef):=by
  obtain ⟨xs,m,rfl,z,B,A,g⟩:=DataW.trod_array k u;have hd1:d = .agg (xs.map (·.1)):=congrArg Prod.fst z;subst hd1;have o:=g i p;have f:i < xs.length:=by omega
  rw [List.getElem?_eq_getElem f] at o;have y:zhV ((xs[i]).1.weights P e):=by
    unfold zhV DataW.weights at hs;rw [k] at hs;refine zp1 (ds:=xs.map (·.1)) (i:=i) ?_ hs;simp [f]
  obtain ⟨_,_,⟨x,rfl,h⟩,_,hrel⟩:=q H l w m _ xs[i].1 xs[i].2 o y;refine ⟨x,h,fun j v => ?_⟩;have:=hrel j v;have e:((cs.drop (i * P.cellsOf e)).take (P.cellsOf e)).getD j undef=cs.getD (i * a.sz+j) undef:=by
    simp only [List.getD_eq_getElem?_getD,List.getElem?_take,List.getElem?_drop,r];rw [if_pos (by omega)]
  rwa [e] at this
def RDS (P:Program) (d:Array Field):Nat->Nat->Ty->Prop
  | i,off,.pair a b=>∃ c,(d[i]?).map (fun f=>(f.offset,f.type))=some (off,c)/\RDT P c a/\P.cellsOf c=a.sz/\RDS P d (i+1) (off+a.sz) b
  | _,_,.unit=>True
  | _,_,_=>False
theorem zBG {P:Program} {id:TypeId} {g:Array Field} {t:Ty} (p:P.underlying id=some (.struct g)) (s:P.cellsOf id=t.sz) (h:RDS P g 0 0 t):RDT P id t:=by
  intro H A w q cs d B r hs;have k:∀ (t:Ty) (i off:Nat),RDS P g i off t->∃ x:t.den,Sml t x/\∀ j,j < t.sz->DRel w (fun b=>b < w.heap.size) ((encD t x).cells.getD j default) (cs.getD (off+j) undef):=by
    intro t;induction t with
    | unit=>intro i off _;exact ⟨(),trivial,fun j f=>by simp [Ty.sz] at f⟩
    | pair a b z o=>
      intro i off ⟨ft,h1,h2,h3,h4⟩;obtain ⟨x,c,e⟩:=zCE p h1 h2 h3 r hs;obtain ⟨y,m,n⟩:=o (i+1) (off+a.sz) h4;refine ⟨(x,y),⟨c,m⟩,fun j f => ?_⟩;have u:=zbg a x;have v:(Ty.pair a b).sz=a.sz+b.sz:=rfl;have hcl:(encD (.pair a b) (x,y)).cells=(encD a x).cells++(encD b y).cells:=rfl;rw [hcl,List.getD_eq_getElem?_getD];by_cases l:j < a.sz
      · rw [List.getElem?_append_left (by omega),<- List.getD_eq_getElem?_getD];exact e j l
      · rw [List.getElem?_append_right (by omega),<- List.getD_eq_getElem?_getD,u];have:=n (j - a.sz) (by omega);rw [show off+a.sz+(j - a.sz)=off+j by omega] at this;exact this
    | _=>intro i off h;exact h.elim
  obtain ⟨x,c,e⟩:=k t 0 0 h;refine ⟨by rw [zBI p r,s],_,⟨x,rfl,c⟩,zbg t x,fun j f => ?_⟩;have:=e j f
  rwa [Nat.zero_add] at this
theorem rd_array {P:Program} {id e n:TypeId} {t:Ty} (q:P.underlying id=some (.array n e)) (u:P.cellsOf id=(vecT t n).sz) (v:RDT P e t) (h:P.cellsOf e=t.sz):RDT P id (vecT t n):=by
  intro H C w r cs d D s hs;have k:∀ (m i:Nat),i+m=n->∃ x:(vecT t m).den,Sml (vecT t m) x/\∀ j,j < (vecT t m).sz->DRel w (fun b=>b < w.heap.size) ((encD (vecT t m) x).cells.getD j default) (cs.getD (i * t.sz+j) undef):=by
    intro m;induction m with
    | zero=>intro i _;exact ⟨(),trivial,fun j g=>by simp [vecT,Ty.sz] at g⟩
    | succ m B=>
      intro i E;obtain ⟨x,c,f⟩:=zDY (a:=t) i q (by omega) v h s hs;obtain ⟨y,o,p⟩:=B (i+1) (by omega);refine ⟨(x,y),⟨c,o⟩,fun j g => ?_⟩;have z:=zbg t x;have A:(vecT t (m+1)).sz=t.sz+(vecT t m).sz:=rfl;have hcl:(encD (vecT t (m+1)) (x,y)).cells=(encD t x).cells++(encD (vecT t m) y).cells:=rfl;rw [hcl,List.getD_eq_getElem?_getD];by_cases l:j < t.sz
      · rw [List.getElem?_append_left (by omega),<- List.getD_eq_getElem?_getD];exact f j l
      · rw [List.getElem?_append_right (by omega),<- List.getD_eq_getElem?_getD,z];have:=p (j - t.sz) (by omega);rw [show (i+1) * t.sz+(j - t.sz)=i * t.sz+j by rw [Nat.add_mul];omega] at this;exact this
  obtain ⟨x,c,f⟩:=k n 0 (by omega);refine ⟨by rw [zAa q s,u],_,⟨x,rfl,c⟩,zbg _ x,fun j g => ?_⟩;have:=f j g
  rwa [Nat.zero_mul,Nat.zero_add] at this
def QT (t:Ty) (d:D):Prop:=∃ x:t.den,d=encD t x/\Sml t x
theorem zwW (t:Ty) (x:t.den):(t.agg=true/\∃ l,encD t x = .agg l)\/(t.agg=false/\t.sz=1/\(encD t x).one=true):=by
  cases t<;>first | exact .inl ⟨rfl,_,rfl⟩ | exact .inr ⟨rfl,rfl,rfl⟩ | exact .inr ⟨rfl,rfl,zvS _ _⟩
theorem zzm {P:Program} {id:TypeId} {t:Ty} {ts:List TypeId} {f:List (D->Prop)} {bytes:Nat} {z:Value} (h:RDT P id t) (i:P.cellsOf id=t.sz) (e:TI P id t.agg t.sz bytes z) (j:RDs P ts f):RDs P (id::ts) (QT t::f):=by
  refine ⟨⟨t.sz,h,i,?_⟩,j⟩;obtain ⟨d,g,b⟩:=e.un;cases a:t.agg with
  | true=>
    refine .inl ⟨⟨d,g,by rw [b,a]⟩,fun d' ⟨x,hx,_⟩ => ?_⟩;rcases zwW t x with ⟨_,l,k⟩ | ⟨c,_⟩
    · exact ⟨l,by rw [hx,k]⟩
    · rw [a] at c;cases c
  | false=>
    refine .inr ⟨zxz a,⟨d,g,by rw [b,a]⟩,fun d' ⟨x,hx,_⟩ => ?_⟩;rcases zwW t x with ⟨c,_⟩ | ⟨_,_,h2⟩
    · rw [a] at c;cases c
    · rw [hx];exact h2
end
end Go.Ab
