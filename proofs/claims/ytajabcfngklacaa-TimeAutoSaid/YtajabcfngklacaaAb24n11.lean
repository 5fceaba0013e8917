import Derived.Test.YtajabcfngklacaaAb24n10
import Derived.ProofKit
import Derived.SizedLaws
import Derived.OpenShut
import Derived.ChangeOld
set_option linter.unusedVariables false
set_option linter.unusedSimpArgs false
namespace Go.Ab
open Enc (enc)
open Go.RowKit (Below)
open Go.ChangeShapes Go.WideShapes Go.ChangeAt Go.RowKit
abbrev zhV (l:List Nat):Prop:=l.all (·<=reachBytes)=true
def RD (P:Program) (t:TypeId) (sz:Nat) (Q:D->Prop):Prop:=
  ∀ (H:Type) (en:TypeId×Value->H) (w:World) (fuel:Nat) (cs:List Value) (d:DataW H) (ps:List MemPlace),DataW.trod en P w 0 (fun _=>true) true fuel t cs=some (d,ps)->zhV (d.weights P t)->
    cs.length=sz/\∃ x:D,Q x/\x.cells.length=sz/\∀ j,j < sz->DRel w (fun b=>b < w.heap.size) (x.cells.getD j default) (cs.getD j undef)
def zzA (P:Program) (t:TypeId) (α:Type) [Enc α]:Prop:=RD P t (Enc.sz α) (fun d=>∃ x:α,d=enc x)
theorem zwI {P:Program} {t:TypeId} {k:IntKind} (h:P.underlying t=some (.int k)) {H:Type} {c:TypeId×Value->H} {w:World} {a:Nat} {cs:List Value} {x:DataW H×List MemPlace} (b:DataW.trod c P w 0 (fun _=>true) true a t cs=some x):∃ m,cs=[.int k m]:=by
  cases a with
  | zero=>simp [DataW.trod] at b
  | succ n=>
    unfold DataW.trod at b;rw [h] at b;split at b<;>simp_all
theorem zp0 {P:Program} {t:TypeId} (h:P.underlying t=some .bool) {H:Type} {d:TypeId×Value->H} {w:World} {a:Nat} {cs:List Value} {x:DataW H×List MemPlace} (c:DataW.trod d P w 0 (fun _=>true) true a t cs=some x):∃ b,cs=[.bool b]:=by
  cases a with
  | zero=>simp [DataW.trod] at c
  | succ n=>
    unfold DataW.trod at c;rw [h] at c;split at c<;>simp_all
theorem znS {P:Program} {t:TypeId} (h:P.underlying t=some .string) {H:Type} {d:TypeId×Value->H} {w:World} {a:Nat} {cs:List Value} {x:DataW H×List MemPlace} (c:DataW.trod d P w 0 (fun _=>true) true a t cs=some x):∃ b,cs=[.string b]:=by
  cases a with
  | zero=>simp [DataW.trod] at c
  | succ n=>
    unfold DataW.trod at c;rw [h] at c;split at c<;>simp_all
theorem zFd {P:Program} {t:TypeId} (h:P.underlying t=some (.int .i64)):zzA P t Int:=by
  intro H e w a cs d f c _;obtain ⟨m,rfl⟩:=zwI h c;exact ⟨rfl,_,⟨m,rfl⟩,rfl,fun j b=>by
    have:j=0:=by
      have:j < 1:=b;omega
    subst this;exact .lit _ rfl⟩
theorem zEA {P:Program} {t:TypeId} (h:P.underlying t=some .bool):zzA P t Bool:=by
  intro H e w a cs d f c _;obtain ⟨m,rfl⟩:=zp0 h c;exact ⟨rfl,_,⟨m,rfl⟩,rfl,fun j b=>by
    have:j=0:=by
      have:j < 1:=b;omega
    subst this;exact .lit _ rfl⟩
instance:Enc ByteArray:=⟨fun s => .lit (.string s),1,16,fun _=>rfl,fun _=>rfl⟩
theorem zC5 {P:Program} {t:TypeId} (h:P.underlying t=some .string):zzA P t ByteArray:=by
  intro H e w a cs d f c _;obtain ⟨m,rfl⟩:=znS h c;exact ⟨rfl,_,⟨m,rfl⟩,rfl,fun j b=>by
    have:j=0:=by
      have:j < 1:=b;omega
    subst this;exact .lit _ rfl⟩
theorem zp5 {α:Type} (p:Nat->α->Prop):∀ n,(∀ i,i < n->∃ x,p i x)->∃ l:List α,l.length=n/\∀ i x,l[i]? =some x->p i x
  | 0,_=>⟨[],rfl,by simp⟩
  | n+1,h=>by
    obtain ⟨l,b,d⟩:=zp5 p n (fun i c=>h i (by omega));obtain ⟨x,e⟩:=h n (by omega);refine ⟨l++[x],by simp [b],fun i y a => ?_⟩;by_cases c:i < n
    · rw [List.getElem?_append_left (by omega)] at a;exact d i y a
    · rw [List.getElem?_append_right (by omega)] at a;have:i=n:=by
        have:=(List.getElem?_eq_some_iff.1 a).1;simp at this;omega
      subst this;rw [b,Nat.sub_self] at a;cases a;exact e
theorem zmk {H:Type} {P:Program} {e:TypeId}:∀ {l:List (DataW H)} {i:Nat} {d:DataW H},l[i]? =some d->zhV (DataW.weightsAll P e l)->zhV (d.weights P e)
  | [],i,d,h,_=>by cases h
  | x::r,0,d,h,hs=>by
    cases h;simp only [DataW.weightsAll,zhV,List.all_append,Bool.and_eq_true] at hs;exact hs.1
  | x::r,i+1,d,h,hs=>by
    simp only [DataW.weightsAll,zhV,List.all_append,Bool.and_eq_true] at hs;exact zmk (l:=r) (i:=i) (by simpa using h) hs.2
theorem zwS {w:World} {base n:Nat} {a:Addr} {cs:List Value} (h:w.cells? base a n=some cs):cs.length=n/\∀ j,j < n->w.cell? (a.add j)=cs[j]? :=by
  unfold World.cells? at h;split at h
  · exact ⟨by simpa using mapM_some_length h,fun j b=>by have:=mapM_some_get h j j (by simp [b]);simpa using this⟩
  · cases h
theorem zD0 {P:Program} {t e:TypeId} {α:Type} [Enc α] (M:P.underlying t=some (.slice e)) (O:zzA P e α) (Q:P.cellsOf e=Enc.sz α) (R:P.bytesOf e=Enc.bts α) (f:0 < Enc.sz α):zzA P t (List α):=by
  intro H T w N cs d ps U hs;rcases DataW.trod_slice M U with ⟨rfl,r⟩ | ⟨a,len,cap,elems,rest,n,rfl,rfl,r,_,hl,hm,hel,hget,hrest,_⟩
  · exact ⟨rfl,_,⟨[],rfl⟩,rfl,fun j o=>by
      have:j=0:=by
        have:j < 1:=o;omega
      subst this;exact .nil _ _ _ (by simp [maxLen]) (fun _=>rfl)⟩
  · refine ⟨rfl,?_⟩;have hd1:d = .slice (elems.map (·.1)) (rest.map (·.1)):=congrArg Prod.fst r;subst hd1;have v:(elems.length+rest.length) * P.bytesOf e<=reachBytes/\zhV (DataW.weightsAll P e (elems.map (·.1))):=by
      unfold zhV DataW.weights at hs;rw [M] at hs;simp only [List.all_cons,List.all_append,Bool.and_eq_true,decide_eq_true_eq,List.length_map] at hs;exact ⟨hs.1,hs.2.1⟩
    by_cases W:len=0
    · subst W;exact ⟨_,⟨[],rfl⟩,rfl,fun j o=>by
        have:j=0:=by
          have:j < 1:=o;omega
        subst this;exact .nil _ _ _ hm (by simp)⟩
    · -- each element
      have c:∀ i,i < len->∃ x:α,∀ j,j < Enc.sz α->∃ u,w.cell? (a.add (i * Enc.sz α+j))=some u/\DRel w (fun b=>b < w.heap.size) ((enc x).cells.getD j default) u:=by
        intro i p;have E:=hget i p;have y:elems[i]? =some elems[i]:=by simp [hel,p]
        rw [y,Q] at E;obtain ⟨J,X,Y⟩:=Option.bind_eq_some_iff.1 E;obtain ⟨h5,Z⟩:=zwS X;have V:zhV ((elems[i]).1.weights P e):=zmk (l:=elems.map (·.1)) (i:=i) (by simp [hel,p]) v.2;obtain ⟨_,_,⟨x,rfl⟩,_,hrel⟩:=O H T w n J elems[i].1 elems[i].2 Y V;refine ⟨x,fun j o=>⟨J.getD j undef,?_,hrel j o⟩⟩;have:=Z j o;have z:(a.add (i * Enc.sz α)).add j=a.add (i * Enc.sz α+j):=by
          unfold Addr.add;by_cases s:i * Enc.sz α=0
          · by_cases C:j=0
            · simp [s,C]
            · simp [s,C]
          · by_cases C:j=0
            · simp [s,C]
            · simp [s,C,Nat.add_assoc]
        rw [<- z,this];have:j < J.length:=by omega
        simp [List.getD_eq_getElem?_getD,this]
      obtain ⟨xs,m,L⟩:=zp5 _ len c;have g:a.spot=none:=by
        obtain ⟨x,r⟩:=c 0 (by omega);obtain ⟨u,q,_⟩:=r 0 f;have:a.add (0 * Enc.sz α+0)=a:=by simp [Addr.add]
        rw [this] at q;exact World.cell?_spot q
      obtain ⟨b,off,sp⟩:=a;simp only at g;subst g;refine ⟨enc xs,⟨xs,rfl⟩,rfl,fun j o => ?_⟩;have I:j=0:=by
        have:j < 1:=o;omega
      subst I;have h:∀ i,i < len->∃ x,xs[i]? =some x/\(xs.map (enc:α->D)).getD i default=enc x:=fun i p=>by
        have:i < xs.length:=by omega
        exact ⟨xs[i],by simp [this],by simp [List.getD_eq_getElem?_getD,this]⟩
      have A:=DRel.sl (w:=w) (S:=fun b=>b < w.heap.size) (Enc.bts α) (xs.map (enc:α->D)) b off cap (Enc.sz α) (fun k=>(w.cell? ⟨b,off+k,none⟩).getD undef) (by simp;omega) f
        (by
          obtain ⟨x,r⟩:=c 0 (by omega);obtain ⟨u,q,_⟩:=r 0 f;have:=World.block_lt_of_cell? w _ q;rw [zgJ] at this;exact this) (by simp;omega) hm
        (by
          rw [List.length_map,m,<- R];have:=v.1;unfold reachBytes at this;unfold most;have h7:len * P.bytesOf e<=(elems.length+rest.length) * P.bytesOf e:=Nat.mul_le_mul_right _ (by omega);omega)
        (fun i p=>by
          obtain ⟨x,_,y⟩:=h i (by simpa [m] using p);rw [y,Enc.hsz])
        (fun k F=>by
          have F:k < len * Enc.sz α:=by simpa [m] using F
          have p:k / Enc.sz α < len:=by rw [Nat.div_lt_iff_lt_mul f];exact F
          obtain ⟨x,r⟩:=c (k / Enc.sz α) p;obtain ⟨u,q,_⟩:=r (k % Enc.sz α) (Nat.mod_lt _ f);have s:k / Enc.sz α * Enc.sz α+k % Enc.sz α=k:=by rw [Nat.mul_comm];exact Nat.div_add_mod _ _
          rw [s,zgJ] at q;simp only [q];rfl)
        (fun i p j o=>by
          obtain ⟨x,E,y⟩:=h i (by simpa [m] using p);obtain ⟨u,q,hr⟩:=L i x E j o;rw [y];rw [zgJ] at q;simp only [q];exact hr)
      have B:(xs.map (enc:α->D)).length=len:=by simp [m]
      rw [B] at A;exact A
theorem zlA {H:Type} {P:Program}:∀ {ts:List TypeId} {ds:List (DataW H)} {i:Nat} {t:TypeId} {d:DataW H},ts[i]? =some t->ds[i]? =some d->zhV (DataW.weightsEach P ts ds)->zhV (d.weights P t)
  | [],_,_,_,_,h,_,_=>by cases h
  | _::_,[],_,_,_,_,h,_=>by cases h
  | t'::ts,d'::ds,0,t,d,h1,h2,hs=>by
    cases h1;cases h2;simp only [DataW.weightsEach,zhV,List.all_append,Bool.and_eq_true] at hs;exact hs.1
  | t'::ts,d'::ds,i+1,t,d,h1,h2,hs=>by
    simp only [DataW.weightsEach,zhV,List.all_append,Bool.and_eq_true] at hs;exact zlA (ts:=ts) (ds:=ds) (i:=i) (by simpa using h1) (by simpa using h2) hs.2
theorem zDZ {P:Program} {t h off i:Nat} {k:Array Field} {α:Type} [Enc α] (m:P.underlying t=some (.struct k)) (r:(k[i]?).map (fun f=>(f.offset,f.type))=some (off,h)) (s:zzA P h α) (C:P.cellsOf h=Enc.sz α)
    {H:Type} {o:TypeId×Value->H} {w:World} {c:Nat} {cs:List Value} {d:DataW H} {u:List MemPlace} (v:DataW.trod o P w 0 (fun _=>true) true c t cs=some (d,u)) (hs:zhV (d.weights P t)):
    ∃ x:α,∀ j,j < Enc.sz α->DRel w (fun b=>b < w.heap.size) ((enc x).cells.getD j default) (cs.getD (off+j) undef):=by
  obtain ⟨f,a,A⟩:=Option.map_eq_some_iff.1 r;cases A;obtain ⟨xs,n,rfl,B,D,l,g⟩:=DataW.trod_struct m v;have hd1:d = .agg (xs.map (·.1)):=congrArg Prod.fst B;subst hd1;have p:=g i f a;have q:i < xs.length:=by rw [l];exact (Array.getElem?_eq_some_iff.1 a).1
  rw [List.getElem?_eq_getElem q] at p;have z:zhV ((xs[i]).1.weights P f.type):=by
    unfold zhV DataW.weights at hs;rw [m] at hs;refine zlA (ts:=k.toList.map (·.type)) (ds:=xs.map (·.1)) (i:=i) ?_ ?_ hs
    · simp [a]
    · simp [q]
  obtain ⟨_,_,⟨x,rfl⟩,_,hrel⟩:=s H o w n _ xs[i].1 xs[i].2 p z;refine ⟨x,fun j y => ?_⟩;have:=hrel j y;have e:((cs.drop f.offset).take (P.cellsOf f.type)).getD j undef=cs.getD (f.offset+j) undef:=by
    simp only [List.getD_eq_getElem?_getD,List.getElem?_take,List.getElem?_drop];rw [if_pos (by omega)]
  rwa [e] at this
theorem zBI {P:Program} {t:Nat} {b:Array Field} (c:P.underlying t=some (.struct b)) {H:Type} {e:TypeId×Value->H} {w:World} {a:Nat} {cs:List Value} {d:DataW H} {f:List MemPlace} (g:DataW.trod e P w 0 (fun _=>true) true a t cs=some (d,f)):cs.length=P.cellsOf t:=by
  obtain ⟨_,_,_,_,h,_⟩:=DataW.trod_struct c g;exact h
def RDs (P:Program):List TypeId->List (D->Prop)->Prop
  | [],Qs=>Qs=[]
  | t::ts,Q::Qs=>(∃ sz,RD P t sz Q/\P.cellsOf t=sz/\(((∃ d,P.underlying t=some d/\dAgg d=true)/\∀ d,Q d->∃ l,d = .agg l)\/(sz=1/\(∃ d,P.underlying t=some d/\dAgg d=false)/\∀ d,Q d->d.one=true)))/\RDs P ts Qs
  | _::_,[]=>False
def AllQ:List (D->Prop)->List D->Prop
  | [],ds=>ds=[]
  | Q::Qs,d::ds=>Q d/\AllQ Qs ds
  | _::_,[]=>False
theorem zz1 {P:Program} {w:World} {r:Reach} {base:Nat} {t:TypeId} {v:Value} {d:TypeDesc} (a:P.underlying t=some d) (b:dAgg d=false) (h:Value.okWide P w r base t v):∀ cs,v ≠ .agg cs:=by
  intro cs c;subst c;unfold Value.okWide at h;rw [a] at h;cases d<;>simp only [dAgg,Bool.true_eq_false] at b<;>simp only [Cell.okWide,a] at h<;>first | exact h | (simp [Cell.ok,a] at h)
theorem zz0 {P:Program} {w:World} {r:Reach} {base:Nat} {t:TypeId} {v:Value} {d:TypeDesc} (c:P.underlying t=some d) (e:dAgg d=true) (h:Value.okWide P w r base t v):∃ cs,v = .agg cs/\cs.size=P.cellsOf t:=by
  unfold Value.okWide at h;rw [c] at h;cases d<;>simp only [dAgg,Bool.false_eq_true] at e
  · obtain ⟨cs,a,b,_⟩:=h;exact ⟨cs,a,b⟩
  · obtain ⟨cs,a,b,_⟩:=h;exact ⟨cs,a,b⟩
theorem mem_le {l:List Nat} {m:Nat} (h:zhV l) (a:m∈l):m<=reachBytes:=by
  have:=List.all_eq_true.1 h m a;simpa using this
theorem zyR {P:Program} {W:World} {base:Nat} {H:Type} {y:TypeId×Value->H}:∀ (ts:List TypeId) (Qs:List (D->Prop)) (vs:List Value) (ds:List (DataW H)) (ps:List MemPlace),
    RDs P ts Qs->DataW.TrodAll y P W 0 (fun _=>true) true ts vs ds ps->(∀ (j:Nat) t v,ts[j]? =some t->vs[j]? =some v->Value.okWide P W .any base t v)->zhV (DataW.weightsEach P ts ds)->
    vs.length=ts.length/\∃ g:List D,AllQ Qs g/\g.length=ts.length/\∀ i,i < g.length->DRel W (fun b=>b < W.heap.size) (g.getD i default) (vs.getD i undef)
  | [],Qs,vs,ds,ps,hq,h,_,_=>by
    obtain ⟨rfl,rfl,rfl⟩:=trodAll_nil h;have:Qs=[]:=hq;subst this;exact ⟨rfl,[],rfl,rfl,by simp⟩
  | t::ts,[],vs,ds,ps,hq,_,_,_=>hq.elim
  | t::ts,Q::Qs,vs,ds,ps,hq,h,hok,hs=>by
    obtain ⟨v,r,d,s,p,q,rfl,rfl,rfl,B,C⟩:=trodAll_cons h;obtain ⟨⟨sz,E,T,c⟩,hq'⟩:=hq;simp only [DataW.weightsEach,zhV,List.all_append,Bool.and_eq_true] at hs;obtain ⟨F,g,I,J,L⟩:=zyR ts Qs r s q hq' C (fun j t v a b=>hok (j+1) t v (by simpa using a) (by simpa using b)) hs.2;obtain ⟨k,M⟩:=B;obtain ⟨U,x,u,N,w⟩:=E H y W k _ d p M hs.1;refine ⟨by simp [F],x::g,⟨u,I⟩,by simp [J],fun i z => ?_⟩;cases i with
    | succ i=>simpa using L i (by simpa using z)
    | zero=>
      show DRel W _ x v;have A:=hok 0 t v rfl rfl;rcases c with ⟨⟨O,hd1,f⟩,hagg⟩ | ⟨hsz,⟨O,hd1,f⟩,hone⟩
      · obtain ⟨cs,rfl,R⟩:=zz0 hd1 f A;obtain ⟨l,rfl⟩:=hagg x u;have S:l.length=sz:=N;refine .agg l cs (by omega) fun i z => ?_
        have:=w i (by omega);have e:(Value.agg cs).cells.toList.getD i undef=cs.getD i undef:=by simp [Value.cells,List.getD_eq_getElem?_getD]
        rw [e] at this;exact this
      · subst hsz;have m:=zz1 hd1 f A;have n:v.cells.toList=[v]:=by
          cases v<;>first | rfl | exact absurd rfl (m _)
        rw [n] at w;have:=w 0 (by omega);have o:x.cells=[x]:=by
          have:=hone x u;cases x<;>first | rfl | (simp [D.one] at this)
        rw [o] at this;exact this
theorem zzW {a:Assume} {C:Checked} {os:Os} {f:FuncId} {fn:Func} {s:ChangeSpec} {H:Type} {B:TypeId×Value->H} {Y:TypeId}
    (own:ownKnob C.prog.godebug=none) (k:os.Started) (m:C.prog.inits.idxOf? f=none) (M:C.prog.funcs[f]? =some fn)
    (l:∃ (w:World) (tape:Tape) (i:Input),w.os=os/\(w.forCall tape i).Shaped C.prog/\i.vars=[]/\Input.okWide C.prog (w.forCall tape i) .any w.heap.size f i/\
      s.pre6 B C.prog fn [] false (w.forCall tape i).memory i.args/\a.holds C.prog (lone (Frame.enter C.prog f i.args .normal) [] (w.forCall tape i)))
    (c:s.vars=[]) (o:laidOutB C.prog=true) (u:(fn.params.toList.all fun t=>C.prog.readableRec t && decide (t < C.prog.types.size))=true)
    (E:fn.resultTypes=#[Y]) (N:C.prog.underlying Y=some .bool)
    (g:∀ ds:List (DataW H),ds.length=fn.params.toList.length->s.fn H (ds++[])={ results:=[.lit (.bool true)],args:=ds })
    (O:List (D->Prop)) (P:RDs C.prog fn.params.toList O)
    (hlaw:∀ x,AllQ O x->Fc C.prog f (x.map .d) Hp.nil (fun r _=>r = .d (.lit (.bool true)))):
    ReturnsInHanded a C os f .any (s.pre6 B C.prog fn [] false) (s.post B C.prog fn false true false false):=by
  refine returnsInHanded_of_change_sized own k m M l ?_;intro W base args ds gs L F Z _ y _;have T:=Z;obtain ⟨p,q,X,hV,rfl,hfz,hnd⟩:=Z;rw [c] at hV;obtain ⟨rfl,rfl⟩:=trodVars_none hV;have U:s.plain.varTypes C.prog=[]:=by
    simp [DataSpec.varTypes,ChangeSpec.plain,c]
  rw [U] at y;simp only [List.append_nil] at y;obtain ⟨hl,x,h1,h2,h3⟩:=zyR fn.params.toList O args.toList ds p P X (fun j t v Q R=>F j t v (by simpa using Q) (by simpa using R)) y;have z:=trodAll_length X;have hC:=hlaw x h1 W (fun _=>False) (fun _=>none) args (fun _ h=>h.elim) (fun _ _=>rfl) ⟨fun id e n=>(by cases n),fun id e v b n=>(by cases n),fun id id' e e' v v' b n=>(by cases n)⟩
    (by rw [List.length_map,h2,<- hl];simp) (fun i J=>by
      have J:i < x.length:=by simpa using J
      have Q:(x.map AV.d).getD i default = .d (x.getD i default):=by simp [List.getD_eq_getElem?_getD,J]
      rw [Q];have:=h3 i J;have R:args.toList.getD i undef=args.getD i undef:=by simp [List.getD_eq_getElem?_getD]
      rw [R] at this;exact .d _ _ (this.mono fun b S=>⟨⟨S,fun h=>h,fun id e v n=>(by cases n)⟩,rfl⟩))
  refine hC.mono ?_;rintro e w' ⟨v,r,h',H',rfl,rfl,⟨ho,ht,hu,hg⟩,hkeep,_,_,_,hv⟩;have V:v = .bool true:=by
    cases hv with
    | d _ _ h=>cases h;rfl
  subst V;have I:Below W.heap.size W w':=⟨ho,ht,hu,hg,fun b S=>hkeep b S fun ⟨id,e,v,n,_⟩=>(by cases n)⟩;have A:DataW.TrodAll B C.prog w' 0 (fun b=>decide (b < W.heap.size)) true fn.params.toList args.toList ds p:=trodAll_below o u X I;refine ⟨_,rfl,ds,[],p++[],[],p,[],T,?_,?_,?_,I.frame _,fun h=>by cases h⟩
  · rw [g ds z,E];have:=trodAll_mk1 (enc:=B) (w:=w') (base:=W.heap.size) (spare:=fun _=>false) (held:=false) (shut_bool N true);simpa [Value.resultList] using this
  · rw [g ds z];exact A
  · rw [g ds z,c];rfl
where
  trodAll_length {H:Type} {en:TypeId×Value->H} {P:Program} {W:World}:∀ {ts:List TypeId} {vs:List Value} {ds:List (DataW H)} {ps:List MemPlace},DataW.TrodAll en P W 0 (fun _=>true) true ts vs ds ps->ds.length=ts.length
    | [],vs,ds,ps,h=>by obtain ⟨_,rfl,_⟩:=trodAll_nil h;rfl
    | t::ts,vs,ds,ps,h=>by
      obtain ⟨v,vs',d,ds',p,q,rfl,rfl,rfl,_,h2⟩:=trodAll_cons h;simp [trodAll_length h2]
  trodAll_below {H:Type} {en:TypeId×Value->H} {P:Program} {W W':World} (hlaid:laidOutB P=true):∀ {ts:List TypeId} {vs:List Value} {ds:List (DataW H)} {ps:List MemPlace},(ts.all fun t=>P.readableRec t && decide (t < P.types.size))=true->
      DataW.TrodAll en P W 0 (fun _=>true) true ts vs ds ps->Below W.heap.size W W'->DataW.TrodAll en P W' 0 (fun b=>decide (b < W.heap.size)) true ts vs ds ps
    | [],vs,ds,ps,_,h,_=>by obtain ⟨rfl,rfl,rfl⟩:=trodAll_nil h;rfl
    | t::ts,vs,ds,ps,hr,h,bel=>by
      obtain ⟨v,vs',d,ds',p,q,rfl,rfl,rfl,h1,h2⟩:=trodAll_cons h;simp only [List.all_cons,Bool.and_eq_true,decide_eq_true_eq] at hr;have hlt:∀ x∈p,x.block < W.heap.size:=by obtain ⟨m,hm⟩:=h1;exact DataW.trod_lt m _ _ _ hm
      exact ⟨p,q,Below.trod hlaid hr.1.1 hr.1.2 h1 bel hlt,trodAll_below hlaid hr.2 h2 bel,rfl⟩
end Go.Ab
