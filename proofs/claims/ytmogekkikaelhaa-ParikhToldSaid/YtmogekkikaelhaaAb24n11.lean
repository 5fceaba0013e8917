import Derived.Test.YtmogekkikaelhaaAb24n10
import Derived.ProofKit
import Derived.SizedLaws
import Derived.OpenShut
import Derived.ChangeOld
set_option linter.unusedVariables false
set_option linter.unusedSimpArgs false
namespace Go.Ab
open Enc (enc)
open Go.RowKit (Below)
open Go.ChangeShapes Go.WideShapes Go.ChangeAt Go.RowKit
abbrev zce (l:List Nat):Prop:=l.all (·<=reachBytes)=true
def RD (P:Program) (t:TypeId) (sz:Nat) (Q:D->Prop):Prop:=
  ∀ (H:Type) (en:TypeId×Value->H) (w:World) (fuel:Nat) (cs:List Value) (d:DataW H) (ps:List MemPlace),DataW.trod en P w 0 (fun _=>true) true fuel t cs=some (d,ps)->zce (d.weights P t)->
    cs.length=sz/\∃ x:D,Q x/\x.cells.length=sz/\∀ j,j < sz->DRel w (fun b=>b < w.heap.size) (x.cells.getD j default) (cs.getD j undef)
def zjd (P:Program) (t:TypeId) (α:Type) [Enc α]:Prop:=RD P t (Enc.sz α) (fun d=>∃ x:α,d=enc x)
theorem znm {P:Program} {t:TypeId} {k:IntKind} (h:P.underlying t=some (.int k)) {H:Type} {en:TypeId×Value->H} {w:World} {fuel:Nat} {cs:List Value} {x:DataW H×List MemPlace} (hd:DataW.trod en P w 0 (fun _=>true) true fuel t cs=some x):∃ m,cs=[.int k m]:=by
  cases fuel with
  | zero=>simp [DataW.trod] at hd
  | succ n=>
    unfold DataW.trod at hd;rw [h] at hd;split at hd<;>simp_all
theorem zhX {P:Program} {t:TypeId} (h:P.underlying t=some .bool) {H:Type} {en:TypeId×Value->H} {w:World} {fuel:Nat} {cs:List Value} {x:DataW H×List MemPlace} (hd:DataW.trod en P w 0 (fun _=>true) true fuel t cs=some x):∃ b,cs=[.bool b]:=by
  cases fuel with
  | zero=>simp [DataW.trod] at hd
  | succ n=>
    unfold DataW.trod at hd;rw [h] at hd;split at hd<;>simp_all
theorem zgh {P:Program} {t:TypeId} (h:P.underlying t=some .string) {H:Type} {en:TypeId×Value->H} {w:World} {fuel:Nat} {cs:List Value} {x:DataW H×List MemPlace} (hd:DataW.trod en P w 0 (fun _=>true) true fuel t cs=some x):∃ b,cs=[.string b]:=by
  cases fuel with
  | zero=>simp [DataW.trod] at hd
  | succ n=>
    unfold DataW.trod at hd;rw [h] at hd;split at hd<;>simp_all
theorem zvc {P:Program} {t:TypeId} (h:P.underlying t=some (.int .i64)):zjd P t Int:=by
  intro H en w fuel cs d ps hd _;obtain ⟨m,rfl⟩:=znm h hd;exact ⟨rfl,_,⟨m,rfl⟩,rfl,fun j hj=>by
    have:j=0:=by
      have:j < 1:=hj;omega
    subst this;exact .lit _ rfl⟩
theorem zuI {P:Program} {t:TypeId} (h:P.underlying t=some .bool):zjd P t Bool:=by
  intro H en w fuel cs d ps hd _;obtain ⟨m,rfl⟩:=zhX h hd;exact ⟨rfl,_,⟨m,rfl⟩,rfl,fun j hj=>by
    have:j=0:=by
      have:j < 1:=hj;omega
    subst this;exact .lit _ rfl⟩
instance:Enc ByteArray:=⟨fun s => .lit (.string s),1,16,fun _=>rfl,fun _=>rfl⟩
theorem ztl {P:Program} {t:TypeId} (h:P.underlying t=some .string):zjd P t ByteArray:=by
  intro H en w fuel cs d ps hd _;obtain ⟨m,rfl⟩:=zgh h hd;exact ⟨rfl,_,⟨m,rfl⟩,rfl,fun j hj=>by
    have:j=0:=by
      have:j < 1:=hj;omega
    subst this;exact .lit _ rfl⟩
theorem zh2 {α:Type} (p:Nat->α->Prop):∀ n,(∀ i,i < n->∃ x,p i x)->∃ l:List α,l.length=n/\∀ i x,l[i]? =some x->p i x
  | 0,_=>⟨[],rfl,by simp⟩
  | n+1,h=>by
    obtain ⟨l,h1,h2⟩:=zh2 p n (fun i hi=>h i (by omega));obtain ⟨x,hx⟩:=h n (by omega);refine ⟨l++[x],by simp [h1],fun i y hy => ?_⟩;by_cases hi:i < n
    · rw [List.getElem?_append_left (by omega)] at hy;exact h2 i y hy
    · rw [List.getElem?_append_right (by omega)] at hy;have:i=n:=by
        have:=(List.getElem?_eq_some_iff.1 hy).1;simp at this;omega
      subst this;rw [h1,Nat.sub_self] at hy;cases hy;exact hx
theorem ze1 {H:Type} {P:Program} {e:TypeId}:∀ {l:List (DataW H)} {i:Nat} {d:DataW H},l[i]? =some d->zce (DataW.weightsAll P e l)->zce (d.weights P e)
  | [],i,d,h,_=>by cases h
  | x::r,0,d,h,hs=>by
    cases h;simp only [DataW.weightsAll,zce,List.all_append,Bool.and_eq_true] at hs;exact hs.1
  | x::r,i+1,d,h,hs=>by
    simp only [DataW.weightsAll,zce,List.all_append,Bool.and_eq_true] at hs;exact ze1 (l:=r) (i:=i) (by simpa using h) hs.2
theorem znw {w:World} {base n:Nat} {a:Addr} {cs:List Value} (h:w.cells? base a n=some cs):cs.length=n/\∀ j,j < n->w.cell? (a.add j)=cs[j]? :=by
  unfold World.cells? at h;split at h
  · exact ⟨by simpa using mapM_some_length h,fun j hj=>by have:=mapM_some_get h j j (by simp [hj]);simpa using this⟩
  · cases h
theorem zt8 {P:Program} {t e:TypeId} {α:Type} [Enc α] (ht:P.underlying t=some (.slice e)) (he:zjd P e α) (hc:P.cellsOf e=Enc.sz α) (hb:P.bytesOf e=Enc.bts α) (hpos:0 < Enc.sz α):zjd P t (List α):=by
  intro H en w fuel cs d ps hd hs;rcases DataW.trod_slice ht hd with ⟨rfl,hx⟩ | ⟨a,len,cap,elems,rest,n,rfl,rfl,hx,_,hl,hm,hel,hget,hrest,_⟩
  · exact ⟨rfl,_,⟨[],rfl⟩,rfl,fun j hj=>by
      have:j=0:=by
        have:j < 1:=hj;omega
      subst this;exact .nil _ _ _ (by simp [maxLen]) (fun _=>rfl)⟩
  · refine ⟨rfl,?_⟩;have hd1:d = .slice (elems.map (·.1)) (rest.map (·.1)):=congrArg Prod.fst hx;subst hd1;have hsm:(elems.length+rest.length) * P.bytesOf e<=reachBytes/\zce (DataW.weightsAll P e (elems.map (·.1))):=by
      unfold zce DataW.weights at hs;rw [ht] at hs;simp only [List.all_cons,List.all_append,Bool.and_eq_true,decide_eq_true_eq,List.length_map] at hs;exact ⟨hs.1,hs.2.1⟩
    by_cases h0:len=0
    · subst h0;exact ⟨_,⟨[],rfl⟩,rfl,fun j hj=>by
        have:j=0:=by
          have:j < 1:=hj;omega
        subst this;exact .nil _ _ _ hm (by simp)⟩
    · -- each element
      have hcell:∀ i,i < len->∃ x:α,∀ j,j < Enc.sz α->∃ u,w.cell? (a.add (i * Enc.sz α+j))=some u/\DRel w (fun b=>b < w.heap.size) ((enc x).cells.getD j default) u:=by
        intro i hi;have h1:=hget i hi;have h2:elems[i]? =some elems[i]:=by simp [hel,hi]
        rw [h2,hc] at h1;obtain ⟨ci,h3,h4⟩:=Option.bind_eq_some_iff.1 h1;obtain ⟨h5,h6⟩:=znw h3;have hw:zce ((elems[i]).1.weights P e):=ze1 (l:=elems.map (·.1)) (i:=i) (by simp [hel,hi]) hsm.2;obtain ⟨_,_,⟨x,rfl⟩,_,hrel⟩:=he H en w n ci elems[i].1 elems[i].2 h4 hw;refine ⟨x,fun j hj=>⟨ci.getD j undef,?_,hrel j hj⟩⟩;have:=h6 j hj;have hadd:(a.add (i * Enc.sz α)).add j=a.add (i * Enc.sz α+j):=by
          unfold Addr.add;by_cases e1:i * Enc.sz α=0
          · by_cases e2:j=0
            · simp [e1,e2]
            · simp [e1,e2]
          · by_cases e2:j=0
            · simp [e1,e2]
            · simp [e1,e2,Nat.add_assoc]
        rw [<- hadd,this];have:j < ci.length:=by omega
        simp [List.getD_eq_getElem?_getD,this]
      obtain ⟨xs,hxl,hxs⟩:=zh2 _ len hcell;have hspot:a.spot=none:=by
        obtain ⟨x,hx⟩:=hcell 0 (by omega);obtain ⟨u,hu,_⟩:=hx 0 hpos;have:a.add (0 * Enc.sz α+0)=a:=by simp [Addr.add]
        rw [this] at hu;exact World.cell?_spot hu
      obtain ⟨b,off,sp⟩:=a;simp only at hspot;subst hspot;refine ⟨enc xs,⟨xs,rfl⟩,rfl,fun j hj => ?_⟩;have hj0:j=0:=by
        have:j < 1:=hj;omega
      subst hj0;have hget':∀ i,i < len->∃ x,xs[i]? =some x/\(xs.map (enc:α->D)).getD i default=enc x:=fun i hi=>by
        have:i < xs.length:=by omega
        exact ⟨xs[i],by simp [this],by simp [List.getD_eq_getElem?_getD,this]⟩
      have hsl:=DRel.sl (w:=w) (S:=fun b=>b < w.heap.size) (Enc.bts α) (xs.map (enc:α->D)) b off cap (Enc.sz α) (fun k=>(w.cell? ⟨b,off+k,none⟩).getD undef) (by simp;omega) hpos
        (by
          obtain ⟨x,hx⟩:=hcell 0 (by omega);obtain ⟨u,hu,_⟩:=hx 0 hpos;have:=World.block_lt_of_cell? w _ hu;rw [zbD] at this;exact this) (by simp;omega) hm
        (by
          rw [List.length_map,hxl,<- hb];have:=hsm.1;unfold reachBytes at this;unfold most;have h7:len * P.bytesOf e<=(elems.length+rest.length) * P.bytesOf e:=Nat.mul_le_mul_right _ (by omega);omega)
        (fun i hi=>by
          obtain ⟨x,_,h2⟩:=hget' i (by simpa [hxl] using hi);rw [h2,Enc.hsz])
        (fun k hk=>by
          have hk:k < len * Enc.sz α:=by simpa [hxl] using hk
          have hi:k / Enc.sz α < len:=by rw [Nat.div_lt_iff_lt_mul hpos];exact hk
          obtain ⟨x,hx⟩:=hcell (k / Enc.sz α) hi;obtain ⟨u,hu,_⟩:=hx (k % Enc.sz α) (Nat.mod_lt _ hpos);have e1:k / Enc.sz α * Enc.sz α+k % Enc.sz α=k:=by rw [Nat.mul_comm];exact Nat.div_add_mod _ _
          rw [e1,zbD] at hu;simp only [hu];rfl)
        (fun i hi j hj=>by
          obtain ⟨x,h1,h2⟩:=hget' i (by simpa [hxl] using hi);obtain ⟨u,hu,hr⟩:=hxs i x h1 j hj;rw [h2];rw [zbD] at hu;simp only [hu];exact hr)
      have hlen:(xs.map (enc:α->D)).length=len:=by simp [hxl]
      rw [hlen] at hsl;exact hsl
theorem zep {H:Type} {P:Program}:∀ {ts:List TypeId} {ds:List (DataW H)} {i:Nat} {t:TypeId} {d:DataW H},ts[i]? =some t->ds[i]? =some d->zce (DataW.weightsEach P ts ds)->zce (d.weights P t)
  | [],_,_,_,_,h,_,_=>by cases h
  | _::_,[],_,_,_,_,h,_=>by cases h
  | t'::ts,d'::ds,0,t,d,h1,h2,hs=>by
    cases h1;cases h2;simp only [DataW.weightsEach,zce,List.all_append,Bool.and_eq_true] at hs;exact hs.1
  | t'::ts,d'::ds,i+1,t,d,h1,h2,hs=>by
    simp only [DataW.weightsEach,zce,List.all_append,Bool.and_eq_true] at hs;exact zep (ts:=ts) (ds:=ds) (i:=i) (by simpa using h1) (by simpa using h2) hs.2
theorem zt7 {P:Program} {t ft off i:Nat} {fs:Array Field} {α:Type} [Enc α] (ht:P.underlying t=some (.struct fs)) (hf:(fs[i]?).map (fun f=>(f.offset,f.type))=some (off,ft)) (hr:zjd P ft α) (hc:P.cellsOf ft=Enc.sz α)
    {H:Type} {en:TypeId×Value->H} {w:World} {fuel:Nat} {cs:List Value} {d:DataW H} {ps:List MemPlace} (hd:DataW.trod en P w 0 (fun _=>true) true fuel t cs=some (d,ps)) (hs:zce (d.weights P t)):
    ∃ x:α,∀ j,j < Enc.sz α->DRel w (fun b=>b < w.heap.size) ((enc x).cells.getD j default) (cs.getD (off+j) undef):=by
  obtain ⟨f,hfi,he⟩:=Option.map_eq_some_iff.1 hf;cases he;obtain ⟨xs,n,rfl,hx,hl,hxl,hget⟩:=DataW.trod_struct ht hd;have hd1:d = .agg (xs.map (·.1)):=congrArg Prod.fst hx;subst hd1;have h1:=hget i f hfi;have hi:i < xs.length:=by rw [hxl];exact (Array.getElem?_eq_some_iff.1 hfi).1
  rw [List.getElem?_eq_getElem hi] at h1;have hw:zce ((xs[i]).1.weights P f.type):=by
    unfold zce DataW.weights at hs;rw [ht] at hs;refine zep (ts:=fs.toList.map (·.type)) (ds:=xs.map (·.1)) (i:=i) ?_ ?_ hs
    · simp [hfi]
    · simp [hi]
  obtain ⟨_,_,⟨x,rfl⟩,_,hrel⟩:=hr H en w n _ xs[i].1 xs[i].2 h1 hw;refine ⟨x,fun j hj => ?_⟩;have:=hrel j hj;have e:((cs.drop f.offset).take (P.cellsOf f.type)).getD j undef=cs.getD (f.offset+j) undef:=by
    simp only [List.getD_eq_getElem?_getD,List.getElem?_take,List.getElem?_drop];rw [if_pos (by omega)]
  rwa [e] at this
theorem zr5 {P:Program} {t:Nat} {fs:Array Field} (ht:P.underlying t=some (.struct fs)) {H:Type} {en:TypeId×Value->H} {w:World} {fuel:Nat} {cs:List Value} {d:DataW H} {ps:List MemPlace} (hd:DataW.trod en P w 0 (fun _=>true) true fuel t cs=some (d,ps)):cs.length=P.cellsOf t:=by
  obtain ⟨_,_,_,_,hl,_⟩:=DataW.trod_struct ht hd;exact hl
def RDs (P:Program):List TypeId->List (D->Prop)->Prop
  | [],Qs=>Qs=[]
  | t::ts,Q::Qs=>(∃ sz,RD P t sz Q/\P.cellsOf t=sz/\(((∃ d,P.underlying t=some d/\dAgg d=true)/\∀ d,Q d->∃ l,d = .agg l)\/(sz=1/\(∃ d,P.underlying t=some d/\dAgg d=false)/\∀ d,Q d->d.one=true)))/\RDs P ts Qs
  | _::_,[]=>False
def AllQ:List (D->Prop)->List D->Prop
  | [],ds=>ds=[]
  | Q::Qs,d::ds=>Q d/\AllQ Qs ds
  | _::_,[]=>False
theorem zqv {P:Program} {w:World} {r:Reach} {base:Nat} {t:TypeId} {v:Value} {d:TypeDesc} (ht:P.underlying t=some d) (hn:dAgg d=false) (h:Value.okWide P w r base t v):∀ cs,v ≠ .agg cs:=by
  intro cs hv;subst hv;unfold Value.okWide at h;rw [ht] at h;cases d<;>simp only [dAgg,Bool.true_eq_false] at hn<;>simp only [Cell.okWide,ht] at h<;>first | exact h | (simp [Cell.ok,ht] at h)
theorem zqu {P:Program} {w:World} {r:Reach} {base:Nat} {t:TypeId} {v:Value} {d:TypeDesc} (ht:P.underlying t=some d) (hn:dAgg d=true) (h:Value.okWide P w r base t v):∃ cs,v = .agg cs/\cs.size=P.cellsOf t:=by
  unfold Value.okWide at h;rw [ht] at h;cases d<;>simp only [dAgg,Bool.false_eq_true] at hn
  · obtain ⟨cs,h1,h2,_⟩:=h;exact ⟨cs,h1,h2⟩
  · obtain ⟨cs,h1,h2,_⟩:=h;exact ⟨cs,h1,h2⟩
theorem mem_le {l:List Nat} {m:Nat} (h:zce l) (hm:m∈l):m<=reachBytes:=by
  have:=List.all_eq_true.1 h m hm;simpa using this
theorem zpo {P:Program} {W:World} {base:Nat} {H:Type} {en:TypeId×Value->H}:∀ (ts:List TypeId) (Qs:List (D->Prop)) (vs:List Value) (ds:List (DataW H)) (ps:List MemPlace),
    RDs P ts Qs->DataW.TrodAll en P W 0 (fun _=>true) true ts vs ds ps->(∀ (j:Nat) t v,ts[j]? =some t->vs[j]? =some v->Value.okWide P W .any base t v)->zce (DataW.weightsEach P ts ds)->
    vs.length=ts.length/\∃ dl:List D,AllQ Qs dl/\dl.length=ts.length/\∀ i,i < dl.length->DRel W (fun b=>b < W.heap.size) (dl.getD i default) (vs.getD i undef)
  | [],Qs,vs,ds,ps,hq,h,_,_=>by
    obtain ⟨rfl,rfl,rfl⟩:=trodAll_nil h;have:Qs=[]:=hq;subst this;exact ⟨rfl,[],rfl,rfl,by simp⟩
  | t::ts,[],vs,ds,ps,hq,_,_,_=>hq.elim
  | t::ts,Q::Qs,vs,ds,ps,hq,h,hok,hs=>by
    obtain ⟨v,vs',d,ds',p,q,rfl,rfl,rfl,h1,h2⟩:=trodAll_cons h;obtain ⟨⟨sz,hr,hc,hform⟩,hq'⟩:=hq;simp only [DataW.weightsEach,zce,List.all_append,Bool.and_eq_true] at hs;obtain ⟨g1,dl,g2,g3,g4⟩:=zpo ts Qs vs' ds' q hq' h2 (fun j t v a b=>hok (j+1) t v (by simpa using a) (by simpa using b)) hs.2;obtain ⟨fuel,hf⟩:=h1;obtain ⟨k1,x,k2,k3,k4⟩:=hr H en W fuel _ d p hf hs.1;refine ⟨by simp [g1],x::dl,⟨k2,g2⟩,by simp [g3],fun i hi => ?_⟩;cases i with
    | succ i=>simpa using g4 i (by simpa using hi)
    | zero=>
      show DRel W _ x v;have hw:=hok 0 t v rfl rfl;rcases hform with ⟨⟨dd,hd1,hd2⟩,hagg⟩ | ⟨hsz,⟨dd,hd1,hd2⟩,hone⟩
      · obtain ⟨cs,rfl,hcs⟩:=zqu hd1 hd2 hw;obtain ⟨l,rfl⟩:=hagg x k2;have hl:l.length=sz:=k3;refine .agg l cs (by omega) fun i hi => ?_
        have:=k4 i (by omega);have e:(Value.agg cs).cells.toList.getD i undef=cs.getD i undef:=by simp [Value.cells,List.getD_eq_getElem?_getD]
        rw [e] at this;exact this
      · subst hsz;have hne:=zqv hd1 hd2 hw;have hvc:v.cells.toList=[v]:=by
          cases v<;>first | rfl | exact absurd rfl (hne _)
        rw [hvc] at k4;have:=k4 0 (by omega);have hx1:x.cells=[x]:=by
          have:=hone x k2;cases x<;>first | rfl | (simp [D.one] at this)
        rw [hx1] at this;exact this
theorem zqq {a:Assume} {C:Checked} {os:Os} {f:FuncId} {fn:Func} {s:ChangeSpec} {H:Type} {en:TypeId×Value->H} {tb:TypeId}
    (own:ownKnob C.prog.godebug=none) (started:os.Started) (noInit:C.prog.inits.idxOf? f=none) (hfn:C.prog.funcs[f]? =some fn)
    (witness:∃ (w:World) (tape:Tape) (i:Input),w.os=os/\(w.forCall tape i).Shaped C.prog/\i.vars=[]/\Input.okWide C.prog (w.forCall tape i) .any w.heap.size f i/\
      s.pre6 en C.prog fn [] false (w.forCall tape i).memory i.args/\a.holds C.prog (lone (Frame.enter C.prog f i.args .normal) [] (w.forCall tape i)))
    (hvars:s.vars=[]) (hlaid:laidOutB C.prog=true) (hread:(fn.params.toList.all fun t=>C.prog.readableRec t && decide (t < C.prog.types.size))=true)
    (hres:fn.resultTypes=#[tb]) (htb:C.prog.underlying tb=some .bool)
    (hspec:∀ ds:List (DataW H),ds.length=fn.params.toList.length->s.fn H (ds++[])={ results:=[.lit (.bool true)],args:=ds })
    (Qs:List (D->Prop)) (hrd:RDs C.prog fn.params.toList Qs)
    (hlaw:∀ dl,AllQ Qs dl->Fc C.prog f (dl.map .d) Hp.nil (fun r _=>r = .d (.lit (.bool true)))):
    ReturnsInHanded a C os f .any (s.pre6 en C.prog fn [] false) (s.post en C.prog fn false true false false):=by
  refine returnsInHanded_of_change_sized own started noInit hfn witness ?_;intro W base args ds gs before hval hW _ hsz _;have hW':=hW;obtain ⟨p,q,hA,hV,rfl,hfz,hnd⟩:=hW;rw [hvars] at hV;obtain ⟨rfl,rfl⟩:=trodVars_none hV;have hvt:s.plain.varTypes C.prog=[]:=by
    simp [DataSpec.varTypes,ChangeSpec.plain,hvars]
  rw [hvt] at hsz;simp only [List.append_nil] at hsz;obtain ⟨hl,dl,h1,h2,h3⟩:=zpo fn.params.toList Qs args.toList ds p hrd hA (fun j t v e1 e2=>hval j t v (by simpa using e1) (by simpa using e2)) hsz;have hdl:=trodAll_length hA;have hC:=hlaw dl h1 W (fun _=>False) (fun _=>none) args (fun _ h=>h.elim) (fun _ _=>rfl) ⟨fun id e he=>(by cases he),fun id e v b he=>(by cases he),fun id id' e e' v v' b he=>(by cases he)⟩
    (by rw [List.length_map,h2,<- hl];simp) (fun i hi=>by
      have hi:i < dl.length:=by simpa using hi
      have e1:(dl.map AV.d).getD i default = .d (dl.getD i default):=by simp [List.getD_eq_getElem?_getD,hi]
      rw [e1];have:=h3 i hi;have e2:args.toList.getD i undef=args.getD i undef:=by simp [List.getD_eq_getElem?_getD]
      rw [e2] at this;exact .d _ _ (this.mono fun b hb=>⟨⟨hb,fun h=>h,fun id e v he=>(by cases he)⟩,rfl⟩))
  refine hC.mono ?_;rintro e w' ⟨v,r,h',H',rfl,rfl,⟨ho,ht,hu,hg⟩,hkeep,_,_,_,hv⟩;have hvb:v = .bool true:=by
    cases hv with
    | d _ _ h=>cases h;rfl
  subst hvb;have bel:Below W.heap.size W w':=⟨ho,ht,hu,hg,fun b hb=>hkeep b hb fun ⟨id,e,v,he,_⟩=>(by cases he)⟩;have hargs:DataW.TrodAll en C.prog w' 0 (fun b=>decide (b < W.heap.size)) true fn.params.toList args.toList ds p:=trodAll_below hlaid hread hA bel;refine ⟨_,rfl,ds,[],p++[],[],p,[],hW',?_,?_,?_,bel.frame _,fun h=>by cases h⟩
  · rw [hspec ds hdl,hres];have:=trodAll_mk1 (enc:=en) (w:=w') (base:=W.heap.size) (spare:=fun _=>false) (held:=false) (shut_bool htb true);simpa [Value.resultList] using this
  · rw [hspec ds hdl];exact hargs
  · rw [hspec ds hdl,hvars];rfl
where
  trodAll_length {H:Type} {en:TypeId×Value->H} {P:Program} {W:World}:∀ {ts:List TypeId} {vs:List Value} {ds:List (DataW H)} {ps:List MemPlace},DataW.TrodAll en P W 0 (fun _=>true) true ts vs ds ps->ds.length=ts.length
    | [],vs,ds,ps,h=>by obtain ⟨_,rfl,_⟩:=trodAll_nil h;rfl
    | t::ts,vs,ds,ps,h=>by
      obtain ⟨v,vs',d,ds',p,q,rfl,rfl,rfl,_,h2⟩:=trodAll_cons h;simp [trodAll_length h2]
  trodAll_below {H:Type} {en:TypeId×Value->H} {P:Program} {W W':World} (hlaid:laidOutB P=true):∀ {ts:List TypeId} {vs:List Value} {ds:List (DataW H)} {ps:List MemPlace},(ts.all fun t=>P.readableRec t && decide (t < P.types.size))=true->
      DataW.TrodAll en P W 0 (fun _=>true) true ts vs ds ps->Below W.heap.size W W'->DataW.TrodAll en P W' 0 (fun b=>decide (b < W.heap.size)) true ts vs ds ps
    | [],vs,ds,ps,_,h,_=>by obtain ⟨rfl,rfl,rfl⟩:=trodAll_nil h;rfl
    | t::ts,vs,ds,ps,hr,h,bel=>by
      obtain ⟨v,vs',d,ds',p,q,rfl,rfl,rfl,h1,h2⟩:=trodAll_cons h;simp only [List.all_cons,Bool.and_eq_true,decide_eq_true_eq] at hr;have hlt:∀ x∈p,x.block < W.heap.size:=by obtain ⟨m,hm⟩:=h1;exact DataW.trod_lt m _ _ _ hm
      exact ⟨p,q,Below.trod hlaid hr.1.1 hr.1.2 h1 bel hlt,trodAll_below hlaid hr.2 h2 bel,rfl⟩
end Go.Ab
