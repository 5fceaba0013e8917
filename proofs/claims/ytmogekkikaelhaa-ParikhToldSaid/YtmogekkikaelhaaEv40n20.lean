import Derived.Test.YtmogekkikaelhaaEv40n30
import Derived.Test.YtmogekkikaelhaaAb24n15
set_option linter.unusedVariables false
set_option linter.unusedSimpArgs false
namespace Go.Ab
noncomputable section
open Enc (enc)
def Sml:(t:Ty)->t.den->Prop
  | .int k,n=>k.min<=(n:Int)/\(n:Int)<=k.max
  | .list t,l=>l.length * t.bts<=140737488351232/\∀ x∈l,Sml t x
  | .pair a b,x=>Sml a x.1/\Sml b x.2
  | _,_=>True
def RDT (P:Program) (id:TypeId) (t:Ty):Prop:=RD P id t.sz (fun d=>∃ x:t.den,d=encD t x/\Sml t x)
theorem zvb {P:Program} {id:TypeId} {k:IntKind} (h:P.underlying id=some (.int k)):RDT P id (.int k):=by
  intro H en w fuel cs d ps hd _;obtain ⟨n,rfl,hx,hw⟩:=DataW.trod_int h hd;have hw:k.min<=n/\n<=k.max:=by
    have h2:=hw;simpa [Lit.wf] using h2
  exact ⟨rfl,_,⟨n,rfl,hw⟩,rfl,fun j hj=>by
    have hj:j < 1:=hj;have:j=0:=by omega
    subst this;exact .lit _ rfl⟩
theorem rd_bool {P:Program} {t:TypeId} (h:P.underlying t=some .bool):RDT P t .bool:=by
  intro H en w fuel cs d ps hd _;obtain ⟨m,rfl⟩:=zhX h hd;exact ⟨rfl,_,⟨m,rfl,trivial⟩,rfl,fun j hj=>by
    have hj:j < 1:=hj;have:j=0:=by omega
    subst this;exact .lit _ rfl⟩
theorem rd_str {P:Program} {t:TypeId} (h:P.underlying t=some .string):RDT P t .str:=by
  intro H en w fuel cs d ps hd _;obtain ⟨m,rfl⟩:=zgh h hd;exact ⟨rfl,_,⟨m.data.toList,rfl,trivial⟩,rfl,fun j hj=>by
    have hj:j < 1:=hj;have:j=0:=by omega
    subst this;exact .lit _ rfl⟩
theorem zpS {P:Program} {t e:TypeId} {te:Ty} (ht:P.underlying t=some (.slice e)) (he:RDT P e te) (hc:P.cellsOf e=te.sz) (hb:P.bytesOf e=te.bts) (hpos:0 < te.sz):RDT P t (.list te):=by
  intro H en w fuel cs d ps hd hs;rcases DataW.trod_slice ht hd with ⟨rfl,hx⟩ | ⟨a,len,cap,elems,rest,n,rfl,rfl,hx,_,hl,hm,hel,hget,hrest,_⟩
  · exact ⟨rfl,_,⟨([]:List te.den),rfl,Nat.zero_mul _ ▸ Nat.zero_le _,fun _ h=>(by cases h)⟩,rfl,fun j hj=>by
      have:j=0:=by
        have:j < 1:=hj;omega
      subst this;exact .nil _ _ _ (by simp [maxLen]) (fun _=>rfl)⟩
  · refine ⟨rfl,?_⟩;have hd1:d = .slice (elems.map (·.1)) (rest.map (·.1)):=congrArg Prod.fst hx;subst hd1;have hsm:(elems.length+rest.length) * P.bytesOf e<=reachBytes/\zce (DataW.weightsAll P e (elems.map (·.1))):=by
      unfold zce DataW.weights at hs;rw [ht] at hs;simp only [List.all_cons,List.all_append,Bool.and_eq_true,decide_eq_true_eq,List.length_map] at hs;exact ⟨hs.1,hs.2.1⟩
    by_cases h0:len=0
    · subst h0;exact ⟨_,⟨([]:List te.den),rfl,Nat.zero_mul _ ▸ Nat.zero_le _,fun _ h=>(by cases h)⟩,rfl,fun j hj=>by
        have:j=0:=by
          have:j < 1:=hj;omega
        subst this;exact .nil _ _ _ hm (by simp)⟩
    · -- each element
      have hcell:∀ i,i < len->∃ x:te.den,Sml te x/\∀ j,j < te.sz->∃ u,w.cell? (a.add (i * te.sz+j))=some u/\DRel w (fun b=>b < w.heap.size) ((enc x).cells.getD j default) u:=by
        intro i hi;have h1:=hget i hi;have h2:elems[i]? =some elems[i]:=by simp [hel,hi]
        rw [h2,hc] at h1;obtain ⟨ci,h3,h4⟩:=Option.bind_eq_some_iff.1 h1;obtain ⟨h5,h6⟩:=znw h3;have hw:zce ((elems[i]).1.weights P e):=ze1 (l:=elems.map (·.1)) (i:=i) (by simp [hel,hi]) hsm.2;obtain ⟨_,_,⟨x,rfl,hsx⟩,_,hrel⟩:=he H en w n ci elems[i].1 elems[i].2 h4 hw;refine ⟨x,hsx,fun j hj=>⟨ci.getD j undef,?_,hrel j hj⟩⟩;have:=h6 j hj;have hadd:(a.add (i * te.sz)).add j=a.add (i * te.sz+j):=by
          unfold Addr.add;by_cases e1:i * te.sz=0
          · by_cases e2:j=0
            · simp [e1,e2]
            · simp [e1,e2]
          · by_cases e2:j=0
            · simp [e1,e2]
            · simp [e1,e2,Nat.add_assoc]
        rw [<- hadd,this];have:j < ci.length:=by omega
        simp [List.getD_eq_getElem?_getD,this]
      obtain ⟨xs,hxl,hxs⟩:=zh2 _ len hcell;have hspot:a.spot=none:=by
        obtain ⟨x,_,hx⟩:=hcell 0 (by omega);obtain ⟨u,hu,_⟩:=hx 0 hpos;have:a.add (0 * te.sz+0)=a:=by simp [Addr.add]
        rw [this] at hu;exact World.cell?_spot hu
      obtain ⟨b,off,sp⟩:=a;simp only at hspot;subst hspot;have hbnd:xs.length * te.bts<=140737488351232:=by
        rw [hxl,<- hb];have:=hsm.1;unfold reachBytes at this;have h7:len * P.bytesOf e<=(elems.length+rest.length) * P.bytesOf e:=Nat.mul_le_mul_right _ (by omega);omega
      refine ⟨enc xs,⟨xs,rfl,hbnd,fun x hx => ?_⟩,rfl,fun j hj => ?_⟩
      · obtain ⟨i,hi,rfl⟩:=List.mem_iff_getElem.1 hx;exact (hxs i xs[i] (by simp [hi])).1
      have hj0:j=0:=by
        have:j < 1:=hj;omega
      subst hj0;have hget':∀ i,i < len->∃ x,xs[i]? =some x/\(xs.map (enc:te.den->D)).getD i default=enc x:=fun i hi=>by
        have:i < xs.length:=by omega
        exact ⟨xs[i],by simp [this],by simp [List.getD_eq_getElem?_getD,this]⟩
      have hsl:=DRel.sl (w:=w) (S:=fun b=>b < w.heap.size) (te.bts) (xs.map (enc:te.den->D)) b off cap (te.sz) (fun k=>(w.cell? ⟨b,off+k,none⟩).getD undef) (by simp;omega) hpos
        (by
          obtain ⟨x,_,hx⟩:=hcell 0 (by omega);obtain ⟨u,hu,_⟩:=hx 0 hpos;have:=World.block_lt_of_cell? w _ hu;rw [zbD] at this;exact this) (by simp;omega) hm
        (by
          rw [List.length_map,hxl,<- hb];have:=hsm.1;unfold reachBytes at this;unfold most;have h7:len * P.bytesOf e<=(elems.length+rest.length) * P.bytesOf e:=Nat.mul_le_mul_right _ (by omega);omega)
        (fun i hi=>by
          obtain ⟨x,_,h2⟩:=hget' i (by simpa [hxl] using hi);rw [h2];exact zau te x)
        (fun k hk=>by
          have hk:k < len * te.sz:=by simpa [hxl] using hk
          have hi:k / te.sz < len:=by rw [Nat.div_lt_iff_lt_mul hpos];exact hk
          obtain ⟨x,_,hx⟩:=hcell (k / te.sz) hi;obtain ⟨u,hu,_⟩:=hx (k % te.sz) (Nat.mod_lt _ hpos);have e1:k / te.sz * te.sz+k % te.sz=k:=by rw [Nat.mul_comm];exact Nat.div_add_mod _ _
          rw [e1,zbD] at hu;simp only [hu];rfl)
        (fun i hi j hj=>by
          obtain ⟨x,h1,h2⟩:=hget' i (by simpa [hxl] using hi);obtain ⟨u,hu,hr⟩:=(hxs i x h1).2 j hj;rw [h2];rw [zbD] at hu;simp only [hu];exact hr)
      have hlen:(xs.map (enc:te.den->D)).length=len:=by simp [hxl]
      rw [hlen] at hsl;exact hsl
theorem zsS {P:Program} {t ft off i:Nat} {fs:Array Field} {a:Ty} (ht:P.underlying t=some (.struct fs)) (hf:(fs[i]?).map (fun f=>(f.offset,f.type))=some (off,ft)) (hr:RDT P ft a) (hc:P.cellsOf ft=a.sz)
    {H:Type} {en:TypeId×Value->H} {w:World} {fuel:Nat} {cs:List Value} {d:DataW H} {ps:List MemPlace} (hd:DataW.trod en P w 0 (fun _=>true) true fuel t cs=some (d,ps)) (hs:zce (d.weights P t)):
    ∃ x:a.den,Sml a x/\∀ j,j < a.sz->DRel w (fun b=>b < w.heap.size) ((encD a x).cells.getD j default) (cs.getD (off+j) undef):=by
  obtain ⟨f,hfi,he⟩:=Option.map_eq_some_iff.1 hf;cases he;obtain ⟨xs,n,rfl,hx,hl,hxl,hget⟩:=DataW.trod_struct ht hd;have hd1:d = .agg (xs.map (·.1)):=congrArg Prod.fst hx;subst hd1;have h1:=hget i f hfi;have hi:i < xs.length:=by rw [hxl];exact (Array.getElem?_eq_some_iff.1 hfi).1
  rw [List.getElem?_eq_getElem hi] at h1;have hw:zce ((xs[i]).1.weights P f.type):=by
    unfold zce DataW.weights at hs;rw [ht] at hs;refine zep (ts:=fs.toList.map (·.type)) (ds:=xs.map (·.1)) (i:=i) ?_ ?_ hs
    · simp [hfi]
    · simp [hi]
  obtain ⟨_,_,⟨x,rfl,hsx⟩,_,hrel⟩:=hr H en w n _ xs[i].1 xs[i].2 h1 hw;refine ⟨x,hsx,fun j hj => ?_⟩;have:=hrel j hj;have e:((cs.drop f.offset).take (P.cellsOf f.type)).getD j undef=cs.getD (f.offset+j) undef:=by
    simp only [List.getD_eq_getElem?_getD,List.getElem?_take,List.getElem?_drop];rw [if_pos (by omega)]
  rwa [e] at this
theorem zt6 {P:Program} {t e n:Nat} {a:Ty} (i:Nat) (ht:P.underlying t=some (.array n e)) (hi:i < n) (hr:RDT P e a) (hc:P.cellsOf e=a.sz)
    {H:Type} {en:TypeId×Value->H} {w:World} {fuel:Nat} {cs:List Value} {d:DataW H} {ps:List MemPlace} (hd:DataW.trod en P w 0 (fun _=>true) true fuel t cs=some (d,ps)) (hs:zce (d.weights P t)):
    ∃ x:a.den,Sml a x/\∀ j,j < a.sz->DRel w (fun b=>b < w.heap.size) ((encD a x).cells.getD j default) (cs.getD (i * a.sz+j) undef):=by
  obtain ⟨xs,m,rfl,hx,hl,hxl,hget⟩:=DataW.trod_array ht hd;have hd1:d = .agg (xs.map (·.1)):=congrArg Prod.fst hx;subst hd1;have h1:=hget i hi;have hi':i < xs.length:=by omega
  rw [List.getElem?_eq_getElem hi'] at h1;have hw:zce ((xs[i]).1.weights P e):=by
    unfold zce DataW.weights at hs;rw [ht] at hs;refine ze0 (ds:=xs.map (·.1)) (i:=i) ?_ hs;simp [hi']
  obtain ⟨_,_,⟨x,rfl,hsx⟩,_,hrel⟩:=hr H en w m _ xs[i].1 xs[i].2 h1 hw;refine ⟨x,hsx,fun j hj => ?_⟩;have:=hrel j hj;have e:((cs.drop (i * P.cellsOf e)).take (P.cellsOf e)).getD j undef=cs.getD (i * a.sz+j) undef:=by
    simp only [List.getD_eq_getElem?_getD,List.getElem?_take,List.getElem?_drop,hc];rw [if_pos (by omega)]
  rwa [e] at this
def RDS (P:Program) (fa:Array Field):Nat->Nat->Ty->Prop
  | i,off,.pair a b=>∃ ft,(fa[i]?).map (fun f=>(f.offset,f.type))=some (off,ft)/\RDT P ft a/\P.cellsOf ft=a.sz/\RDS P fa (i+1) (off+a.sz) b
  | _,_,.unit=>True
  | _,_,_=>False
theorem zn8 {P:Program} {id:TypeId} {fa:Array Field} {t:Ty} (ht:P.underlying id=some (.struct fa)) (hc:P.cellsOf id=t.sz) (h:RDS P fa 0 0 t):RDT P id t:=by
  intro H en w fuel cs d ps hd hs;have key:∀ (t:Ty) (i off:Nat),RDS P fa i off t->∃ x:t.den,Sml t x/\∀ j,j < t.sz->DRel w (fun b=>b < w.heap.size) ((encD t x).cells.getD j default) (cs.getD (off+j) undef):=by
    intro t;induction t with
    | unit=>intro i off _;exact ⟨(),trivial,fun j hj=>by simp [Ty.sz] at hj⟩
    | pair a b iha ihb=>
      intro i off ⟨ft,h1,h2,h3,h4⟩;obtain ⟨x,hx1,hx2⟩:=zsS ht h1 h2 h3 hd hs;obtain ⟨y,hy1,hy2⟩:=ihb (i+1) (off+a.sz) h4;refine ⟨(x,y),⟨hx1,hy1⟩,fun j hj => ?_⟩;have hl:=zau a x;have hsz:(Ty.pair a b).sz=a.sz+b.sz:=rfl;have hcl:(encD (.pair a b) (x,y)).cells=(encD a x).cells++(encD b y).cells:=rfl;rw [hcl,List.getD_eq_getElem?_getD];by_cases hja:j < a.sz
      · rw [List.getElem?_append_left (by omega),<- List.getD_eq_getElem?_getD];exact hx2 j hja
      · rw [List.getElem?_append_right (by omega),<- List.getD_eq_getElem?_getD,hl];have:=hy2 (j - a.sz) (by omega);rw [show off+a.sz+(j - a.sz)=off+j by omega] at this;exact this
    | _=>intro i off h;exact h.elim
  obtain ⟨x,hx1,hx2⟩:=key t 0 0 h;refine ⟨by rw [zr5 ht hd,hc],_,⟨x,rfl,hx1⟩,zau t x,fun j hj => ?_⟩;have:=hx2 j hj
  rwa [Nat.zero_add] at this
theorem rd_array {P:Program} {id e n:TypeId} {t:Ty} (ht:P.underlying id=some (.array n e)) (hc:P.cellsOf id=(vecT t n).sz) (he:RDT P e t) (hce:P.cellsOf e=t.sz):RDT P id (vecT t n):=by
  intro H en w fuel cs d ps hd hs;have key:∀ (m i:Nat),i+m=n->∃ x:(vecT t m).den,Sml (vecT t m) x/\∀ j,j < (vecT t m).sz->DRel w (fun b=>b < w.heap.size) ((encD (vecT t m) x).cells.getD j default) (cs.getD (i * t.sz+j) undef):=by
    intro m;induction m with
    | zero=>intro i _;exact ⟨(),trivial,fun j hj=>by simp [vecT,Ty.sz] at hj⟩
    | succ m ih=>
      intro i hi;obtain ⟨x,hx1,hx2⟩:=zt6 (a:=t) i ht (by omega) he hce hd hs;obtain ⟨y,hy1,hy2⟩:=ih (i+1) (by omega);refine ⟨(x,y),⟨hx1,hy1⟩,fun j hj => ?_⟩;have hl:=zau t x;have hsz:(vecT t (m+1)).sz=t.sz+(vecT t m).sz:=rfl;have hcl:(encD (vecT t (m+1)) (x,y)).cells=(encD t x).cells++(encD (vecT t m) y).cells:=rfl;rw [hcl,List.getD_eq_getElem?_getD];by_cases hja:j < t.sz
      · rw [List.getElem?_append_left (by omega),<- List.getD_eq_getElem?_getD];exact hx2 j hja
      · rw [List.getElem?_append_right (by omega),<- List.getD_eq_getElem?_getD,hl];have:=hy2 (j - t.sz) (by omega);rw [show (i+1) * t.sz+(j - t.sz)=i * t.sz+j by rw [Nat.add_mul];omega] at this;exact this
  obtain ⟨x,hx1,hx2⟩:=key n 0 (by omega);refine ⟨by rw [zhv ht hd,hc],_,⟨x,rfl,hx1⟩,zau _ x,fun j hj => ?_⟩;have:=hx2 j hj
  rwa [Nat.zero_mul,Nat.zero_add] at this
def QT (t:Ty) (d:D):Prop:=∃ x:t.den,d=encD t x/\Sml t x
theorem znz (t:Ty) (x:t.den):(t.agg=true/\∃ l,encD t x = .agg l)\/(t.agg=false/\t.sz=1/\(encD t x).one=true):=by
  cases t<;>first | exact .inl ⟨rfl,_,rfl⟩ | exact .inr ⟨rfl,rfl,rfl⟩ | exact .inr ⟨rfl,rfl,zkq _ _⟩
theorem zpT {P:Program} {id:TypeId} {t:Ty} {ts:List TypeId} {Qs:List (D->Prop)} {bytes:Nat} {z:Value} (h:RDT P id t) (hc:P.cellsOf id=t.sz) (hti:TI P id t.agg t.sz bytes z) (hr:RDs P ts Qs):RDs P (id::ts) (QT t::Qs):=by
  refine ⟨⟨t.sz,h,hc,?_⟩,hr⟩;obtain ⟨d,hd,hda⟩:=hti.un;cases ha:t.agg with
  | true=>
    refine .inl ⟨⟨d,hd,by rw [hda,ha]⟩,fun d' ⟨x,hx,_⟩ => ?_⟩;rcases znz t x with ⟨_,l,hl⟩ | ⟨h1,_⟩
    · exact ⟨l,by rw [hx,hl]⟩
    · rw [ha] at h1;cases h1
  | false=>
    refine .inr ⟨zoj ha,⟨d,hd,by rw [hda,ha]⟩,fun d' ⟨x,hx,_⟩ => ?_⟩;rcases znz t x with ⟨h1,_⟩ | ⟨_,_,h2⟩
    · rw [ha] at h1;cases h1
    · rw [hx];exact h2
end
end Go.Ab
