import Derived.Test.YtmogekkikaelhaaAb24n21
set_option linter.unusedVariables false
set_option linter.unusedSimpArgs false
set_option linter.unusedSectionVars false
namespace Go.Ab
open Enc (enc)
def famA (f n:Nat):List AV:=(List.range n).map fun x => .own (rid f x)
theorem zbj (f n:Nat):(famA f n).length=n:=by simp [famA]
theorem zbA {f n j:Nat} (h:j < n):(famA f n).getD j default = .own (rid f j):=by
 simp [famA,List.getD_eq_getElem?_getD,h]
theorem zbA? {f n j:Nat} (h:j < n):(famA f n)[j]? =some (.own (rid f j)):=by
 simp [famA,h]
section
variable {P:Program} {F:Fr} {σ:St} {H:Hd} {a:Act} {w:World} {o:Oper}
theorem RelH.newOut (r:RelH F σ H a w) (hlim:σ.nxt < LIM) (E bts:Nat) {cs:Array Value} {cells:List AV} {cap:Nat} (hs:cs.size=cap) (hc:cells.length<=cap) (hm:cap<=maxLen) (hbt:cells.length * bts<=most)
  (hrel:∀ i,i < cells.length->VRel w (Sh F.X σ.ent H w) H (cells.getD i default) (cs.getD i undef)):
  RelH F (σ.new (.out E bts cells)) (H.add σ.nxt (.slice (some ⟨w.heap.size,0,none⟩) cells.length cap)) a (w.alloc (.cells cs E)):=by
 have he:=Ext.alloc w (.cells cs E);refine r.renew (old:=none) hlim rfl rfl rfl he.size (fun b hb _=>he.block b hb) (by simp) (fun b hb => .inl ?_) ?_
 ·simp [blk] at hb;omega
 ·refine .out E bts cells _ (cs.toList.take cells.length) ⟨?_,.inr ⟨w.heap.size,0,cap,cs,rfl,heap_alloc_new w _,hc,hm,by omega,by rw [List.drop_zero,Nat.mul_one]⟩⟩ hbt fun i hi => ?_
  ·simp only [List.length_take,Array.length_toList];omega
  ·have h3:(cs.toList.take cells.length).getD i undef=cs.getD i undef:=by
    simp [List.getD_eq_getElem?_getD,hi]
   rw [h3];exact (hrel i hi).mono (fun b hb=>⟨hb,he.block b hb.1⟩) (fun _ _ h=>h)
theorem AL.make_out {t e:TypeId} {x y:Operand} {m c:Int} {dsc:Bool} {bytes:Nat} {z:Value} {d:Nat} (id:Nat) (hid:σ.nxt=id) (hl:Nat.blt id LIM=true) (hd:o.dst=some d) (hlt:Nat.blt d σ.n=true)
  (ho:o.op = .makeSlice t x y) (ht:P.underlying t=some (.slice e)) (he:TI P e dsc 1 bytes z) (hzc:z.cells=#[.slice none 0 0])
  (hx:σ.ev x=some (.d (.lit (.int .i64 m)))) (hy:σ.ev y=some (.d (.lit (.int .i64 c))))
  (h0:0<=m) (h1:m<=c) (h2:c * bytes<=140737488355328) (h3:c<=9223372036854775807):
  AL P F σ o (·=(σ.new (.out e bytes (List.replicate m.toNat .nil))).set d (.own id)):=by
 subst hid;intro a w ⟨H,r⟩;have hl:σ.nxt < LIM:=by simpa using hl
 obtain ⟨i,hi,hs,hb,hzz⟩:=he.inf;have hrun:=run_make (P:=P) w t e i _ ht hi hzz .i64 .i64 m c h0 h1 (by rw [hb,Int.mul_comm];omega) h3;rw [hs,Nat.mul_one] at hrun;have hbnd:m.toNat * bytes<=most:=by
  have h4:m * bytes<=c * bytes:=Int.mul_le_mul_of_nonneg_right h1 (by omega);obtain ⟨mm,rfl⟩:∃ mm:Nat,m=mm:=⟨m.toNat,by omega⟩;have h5:((mm * bytes:Nat):Int)<=140737488355328:=by rw [Int.natCast_mul];omega
  rw [Int.toNat_natCast];unfold most;omega
 have r':=r.newOut hl e bytes (cs:=madeCells z.cells c.toNat) (cells:=List.replicate m.toNat .nil) (cap:=c.toNat) (by rw [size_madeCells]) (by simp;omega) (by simp only [maxLen];omega) (by simpa using hbnd)
  (fun i hi=>by
   have hi:i < m.toNat:=by simpa using hi
   have e1:(List.replicate m.toNat AV.nil).getD i default = .nil:=by simp [List.getD_eq_getElem?_getD,hi]
   have hic:i < c.toNat:=by omega
   have e2:(madeCells z.cells c.toNat).getD i undef = .slice none 0 0:=by
    rw [hzc];simp [madeCells,hic,Nat.mod_one]
   rw [e1,e2];exact .nil)
 have r2:=r'.set (d:=d) (show d < σ.n by simpa using hlt) (.own σ.nxt _ (Hd.add_new _ _ _) (.inl ⟨_,_,_,rfl⟩));rw [<- hd] at r2;rw [List.length_replicate] at r2;exact AL.value (by simp [execOp,ho,r.lit hx,r.lit hy,hrun]) (Ext.alloc w _) ⟨_,rfl,_,r2⟩
def zpn (σ:St):List (Nat×Operand)->Nat->List AV->Prop
 | [],_,xs=>xs=[]
 | (i,o)::r,k,x::xs=>i=k/\σ.ev o=some x/\x.one=true/\zpn σ r (k+1) xs
 | _::_,_,[]=>False
theorem zlo (r:RelH F σ H a w):∀ (parts:List (Nat×Operand)) (k:Nat) (xs:List AV),zpn σ parts k xs->
  ∃ vs:List Value,parts.map (fun x=>(x.1,a.eval x.2))=(vs.zipIdx k).map (fun x=>(x.2,x.1))/\vs.length=xs.length/\(∀ v∈vs,v.oneCell'=true)/\
   ∀ i,i < xs.length->VRel w (Sh F.X σ.ent H w) H (xs.getD i default) (vs.getD i undef)
 | [],k,xs,h=>by
  have:xs=[]:=h;subst this;exact ⟨[],rfl,rfl,by simp,by simp⟩
 | (i,x)::parts,k,[],h=>h.elim
 | (i,x)::parts,k,y::ys,h=>by
  obtain ⟨rfl,hx,h1,hr⟩:=h;obtain ⟨vs,g1,g2,g3,g4⟩:=zlo r parts (i+1) ys hr;have hv:=r.ev hx;refine ⟨a.eval x::vs,by rw [List.map_cons,g1,List.zipIdx_cons,List.map_cons],by simp [g2],fun v hv' => ?_,fun j hj => ?_⟩
  ·rcases List.mem_cons.1 hv' with rfl | hv'
   ·exact hv.one h1
   ·exact g3 v hv'
  ·cases j with
   | zero=>exact hv
   | succ j=>simpa using g4 j (by simpa using hj)
theorem AL.lits_out {t e:TypeId} {n bs:Nat} {parts:Array (Nat×Operand)} {dsc:Bool} {bytes:Nat} {z:Value} {cells:List AV} {d:Nat} (id:Nat) (hid:σ.nxt=id) (hl:Nat.blt id LIM=true) (hd:o.dst=some d) (hlt:Nat.blt d σ.n=true)
  (ho:o.op = .buildSlice t n parts) (ht:P.underlying t=some (.slice e)) (he:TI P e dsc 1 bytes z)
  (hp:zpn σ parts.toList 0 cells) (hn:n=cells.length) (hsmall':Nat.ble (n * bs) most=true) (hn24':Nat.ble n 16777216=true):
  AL P F σ o (·=(σ.new (.out e bs cells)).set d (.own id)):=by
 have hsmall:cells.length * bs<=most:=by rw [<- hn];exact Nat.le_of_ble_eq_true hsmall'
 have hn24:cells.length<=16777216:=by rw [<- hn];exact Nat.le_of_ble_eq_true hn24'
 subst hid;intro a w ⟨H,r⟩;have hl:σ.nxt < LIM:=by simpa using hl
 obtain ⟨vs,h1,h2,h3,h4⟩:=zlo r parts.toList 0 _ hp;have hrun:(Instr.buildSlice t n (parts.map fun (i,x)=>(i,a.eval x))).run P w = .ok (.slice (some ⟨w.heap.size,0,none⟩) n n) (w.alloc (.cells vs.toArray e)):=by
  have hpl:∀ i,(fun i=>some (i * 1,1)) i=some (i,1):=by simp
  have hparts:(parts.map fun (i,x)=>(i,a.eval x)).toList=(vs.zipIdx 0).map (fun x=>(x.2,x.1)):=by rw [<- h1];simp
  have hnot : ¬ (n * 1 > 2 ^ 24):=by omega
  have key:∀ zc:Array Value,∃ C',Instr.fill (fun i=>some (i * 1,1)) ((Array.range (n * 1)).map (fun j=>zc[j % zc.size]!)) ((vs.zipIdx 0).map (fun x=>(x.2,x.1)))=some C'/\C'=vs.toArray:=by
   intro zc;obtain ⟨C',g1,g2⟩:=zmU (fun i=>some (i * 1,1)) hpl vs 0 _ ((Array.range (n * 1)).map (fun j=>zc[j % zc.size]!)) rfl h3 (by simp;omega);refine ⟨C',g1,?_⟩;apply Array.ext';rw [g2];simp;omega
  by_cases h0:n * 1=0
  ·obtain ⟨C',g1,hC'⟩:=key #[];simp only [Instr.buildSlice,Sem.run_bind,run_underlying ht,Result.andThen_ok,he.size,if_neg hnot,if_pos h0,Sem.run_pure,hparts,g1,hC'];rfl
  ·obtain ⟨C',g1,hC'⟩:=key z.cells;simp only [Instr.buildSlice,Sem.run_bind,run_underlying ht,Result.andThen_ok,he.size,if_neg hnot,if_neg h0,he.zero,Sem.run_pure,hparts,g1,hC'];rfl
 have r':=r.newOut hl e bs (cs:=vs.toArray) (cells:=cells) (cap:=n) (by simp;omega) (by omega) (by simp only [maxLen];omega) hsmall
  (fun i hi=>by simpa using h4 i hi)
 have r2:=r'.set (d:=d) (show d < σ.n by simpa using hlt) (.own σ.nxt _ (Hd.add_new _ _ _) (.inl ⟨_,_,_,rfl⟩));rw [<- hd,<- hn] at r2;exact AL.value (by simp [execOp,ho,hrun]) (Ext.alloc w _) ⟨_,rfl,_,r2⟩
theorem RelH.outAt (r:RelH F σ H a w) {x:Operand} {id E bts:Nat} {cells:List AV} (hx:σ.ev x=some (.own id)) (he:σ.ent id=some (.out E bts cells)):
  ∃ xs,H id=some (a.eval x)/\zbN w E 1 (a.eval x) cells.length xs/\cells.length * bts<=most/\(∀ j,j < cells.length->VRel w (Sh F.X σ.ent H w) H (cells.getD j default) (xs.getD j undef)):=by
 have hv:=r.ev hx;obtain ⟨v,hH,hr⟩:=r.ent id _ he;generalize a.eval x=u at hv;cases hv with
 | own _ _ h _=>
  rw [hH] at h;cases h;cases hr with
  | out _ _ _ _ xs hown hbt hrel=>exact ⟨xs,hH,hown,hbt,hrel⟩
theorem RO.idx_out {t e:TypeId} {x i:Operand} {k:IntKind} {j:Int} {id E bts:Nat} {cells:List AV} {dsc:Bool} {bytes:Nat} {z:Value}
  (ho:o.op = .indexAddr t x i) (ht:P.underlying t=some (.slice e)) (he:TI P e dsc 1 bytes z)
  (hx:σ.ev x=some (.own id)) (hl:σ.ent id=some (.out E bts cells)) (hi:σ.ev i=some (.d (.lit (.int k j)))) (hj:0<=j/\j < cells.length):RO P F σ o (.eptr id 1 j.toNat 0):=fun H a w r=>by
 have hi':=r.lit hi;obtain ⟨n,rfl⟩:∃ n:Nat,j=n:=⟨j.toNat,by omega⟩;have hn:n < cells.length:=by omega
 obtain ⟨xs,hH,hown,_,_⟩:=r.outAt hx hl;rcases hown.form with ⟨h1,h2⟩ | ⟨b,off,c,h1⟩
 ·omega
 ·refine ⟨.pointer (some ⟨b,off+n * 1,none⟩),fun w' _ => ?_,?_⟩
  ·simp [execOp,ho,Instr.indexAt,h1,hi',asIntOf,run_underlying ht,hn,he.size,zbD]
  ·rw [h1] at hH;have:=VRel.eptr (w:=w) (S:=Sh F.X σ.ent H w) (H:=H) id 1 n 0 b off cells.length c hH hn;simpa using this
theorem RO.len_out {x:Operand} {t e:TypeId} {id E bts:Nat} {cells:List AV} (ho:o.op = .call { callee := .builtin .len,args:=#[x],argTypes:=#[t] }) (ht:P.underlying t=some (.slice e))
  (hx:σ.ev x=some (.own id)) (he:σ.ent id=some (.out E bts cells)):RO P F σ o (.d (.lit (.int .i64 cells.length))):=fun H a w r=>by
 obtain ⟨xs,hH,hown,_,_⟩:=r.outAt hx he;obtain ⟨ad,c,hv'⟩:∃ ad c,a.eval x = .slice ad cells.length c:=by
  rcases hown.form with ⟨h1,h2⟩ | ⟨b,off,c,h1⟩
  ·exact ⟨none,0,by rw [h1,h2]⟩
  ·exact ⟨_,c,h1⟩
 exact ⟨.int .i64 cells.length,fun w' _=>by simp [execOp,ho,resolve,invoke,builtin,Builtin.len_,run_underlying ht,hv',goInt],.int _ _ _ _ _⟩
theorem RO.ld_out {t:TypeId} {dsc:TypeDesc} {x:Operand} {id j E bts:Nat} {cells:List AV} {c:AV} (ho:o.op = .load t x) (ht:P.underlying t=some dsc) (hn:dAgg dsc=false) (hx:σ.ev x=some (.eptr id 1 j 0))
  (he:σ.ent id=some (.out E bts cells)) (hc:cells[j]? =some c):RO P F σ o c:=fun H a w r=>by
 have hj:j < cells.length:=(List.getElem?_eq_some_iff.1 hc).1;have hv:=r.ev hx;obtain ⟨v,hH,hr⟩:=r.ent id _ he;generalize hu:a.eval x=u at hv;cases hv with
 | eptr _ _ _ _ b o0 n c' h hi=>
  rw [hH] at h;cases h;cases hr with
  | out _ _ _ _ xs hown hbt hrel=>
   have hxl:xs.length=cells.length:=by have:=hown.1;simpa using this
   have hjx:j < xs.length:=by omega
   have hcell:w.cell? ⟨b,o0+j,none⟩=some (xs.getD j undef):=by
    have:=hown.cell j xs[j] (by simp [hjx]);simpa [List.getD_eq_getElem?_getD,hjx] using this
   refine ⟨xs.getD j undef,fun w' he => ?_,?_⟩
   ·replace he:=he.resolve_left (by simp [zdF,ho])
    simp only [execOp,ho,hu,Instr.loadAt,Instr.sureAddr];have:=zel ht hn (zdf he hcell);simp [this]
   ·have:=hrel j hj;simpa [List.getD_eq_getElem?_getD,hc] using this
theorem EF.st_out {t:TypeId} {x y:Operand} {id j E bts bytes:Nat} {dsc:Bool} {z:Value} {cells:List AV} {c:AV} (hd:o.dst=none)
  (ho:o.op = .store t x y) (ht:TI P t dsc 1 bytes z) (hx:σ.ev x=some (.eptr id 1 j 0)) (he:σ.ent id=some (.out E bts cells)) (hy:σ.ev y=some c) (hc:c.one=true):
  EF P F σ o (·=σ.put id (some (.out E bts (cells.set j c)))):=by
 intro a w ⟨H,r⟩;have hv:=r.ev hx;have hyv:=r.ev hy;obtain ⟨v,hH,hr⟩:=r.ent id _ he;generalize hu:a.eval x=u at hv;cases hv with
 | eptr _ _ _ _ b o0 n cc h hi=>
  rw [hH] at h;cases h;cases hr with
  | out _ _ _ _ xs hown hbnd hrel=>
   have hn:n=cells.length:=by
    rcases hown.form with ⟨h,_⟩ | ⟨_,_,_,h⟩
    ·cases h
    ·cases h;rfl
   subst hn;have hxl:xs.length=cells.length:=by simpa using hown.1
   have hone:=hyv.one hc;have hcl:(a.eval y).cells=#[a.eval y]:=by
    generalize a.eval y=u at hone;cases u<;>first | rfl | (simp [Value.oneCell'] at hone)
   obtain ⟨w',hst,hgr,hown'⟩:=zcH (P:=P) hown j [a.eval y] (by simpa using hone) (by simp;omega);have hrun:(storeVar t ⟨b,o0+(j * 1+0),none⟩ (a.eval y)).run P w = .ok () w':=by
    unfold storeVar;rw [hcl];simp only [Sem.run_bind,ht.size,Result.andThen_ok,Nat.add_zero,Nat.mul_one];simpa using hst
   have hS:∀ c',Sh F.X σ.ent H w c'->Sh F.X σ.ent H w c'/\w'.heap[c']? =w.heap[c']? :=fun c' hc'=>⟨hc',hgr.block c' hc'.1 fun h=>hc'.2.2 id _ _ he hH (by rw [h];rfl)⟩
   have r1:=r.upd (e' := .out E bts (cells.set j c)) he hH (b:=b) rfl hgr (.out E bts _ _ (xs.take j++[a.eval y]++xs.drop (j+1)) (by simpa using hown') (by simpa using hbnd)
    (fun i hi'=>by
     have hil:i < cells.length:=by simpa using hi'
     have hg:=getElem?_splice xs [a.eval y] j i (by simp;omega);simp only [List.length_cons,List.length_nil,Nat.zero_add] at hg;simp only [List.getD_eq_getElem?_getD];rw [hg,List.getElem?_set];by_cases hij:j=i
     ·subst hij;rw [if_pos rfl,if_pos hil,if_neg (by omega),if_pos (by omega),Nat.sub_self];exact hyv.mono hS (fun _ _ h=>h)
     ·rw [if_neg hij];have:=(hrel i hil).mono hS (fun _ _ h=>h);simp only [List.getD_eq_getElem?_getD] at this;by_cases h1:i < j
      ·rw [if_pos h1];exact this
      ·rw [if_neg h1,if_neg (by omega)];exact this))
   refine EF.void (w':=w') (by simp only [execOp,ho,Instr.storeAt,hu,Instr.sureAddr,Sem.run_bind,Sem.run_pure,Result.andThen_ok,hrun]) ⟨_,rfl,H,?_⟩;rw [hd];exact r1
theorem RelH.outCells (r:RelH F σ H a w) {y:Operand} {k2 E2 bts2:Nat} {c2:List AV} (hy:σ.ev y=some (.own k2)) (hk2:σ.ent k2=some (.out E2 bts2 c2)) (hone:c2.all AV.one=true):
  ∃ (ad:Option Addr) (c:Nat) (news:List Value),a.eval y = .slice ad c2.length c/\news.length=c2.length/\(∀ j u,news[j]? =some u->∃ b off,ad=some ⟨b,off,none⟩/\w.cell? ⟨b,off+j,none⟩=some u)/\
   (∀ i,i < c2.length->VRel w (Sh F.X σ.ent H w) H (c2.getD i default) (news.getD i undef))/\(∀ u∈news,u.oneCell'=true)/\(ad=none->c2.length=0/\c=0):=by
 obtain ⟨xs,hH,hown,_,hrel⟩:=r.outAt hy hk2;have hxl:xs.length=c2.length:=by simpa using hown.1
 have h1:∀ u∈xs,u.oneCell'=true:=by
  intro u hu;obtain ⟨j,hj,rfl⟩:=List.mem_iff_getElem.1 hu;have hj2:j < c2.length:=by omega
  have:=hrel j hj2;have e1:c2.getD j default=c2[j]:=by simp [List.getD_eq_getElem?_getD,hj2]
  have e2:xs.getD j undef=xs[j]:=by simp [List.getD_eq_getElem?_getD,hj]
  rw [e1,e2] at this;exact this.one (List.all_eq_true.1 hone _ (List.getElem_mem hj2))
 rcases hown.form with ⟨h2,h3⟩ | ⟨b,off,c,h2⟩
 ·have:xs=[]:=List.eq_nil_of_length_eq_zero (by omega);subst this;exact ⟨none,0,[],by rw [h2,h3],by simpa using h3.symm,by simp,fun i hi=>by omega,by simp,fun _=>⟨h3,rfl⟩⟩
 ·rw [h2] at hown;exact ⟨some ⟨b,off,none⟩,c,xs,h2,hxl,fun j u hj=>⟨b,off,rfl,hown.cell j u hj⟩,hrel,h1,fun h=>by cases h⟩
theorem EF.append_out {t e:TypeId} {x y:Operand} {k k2 E E2 bts2:Nat} {dsc:Bool} {bytes:Nat} {z:Value} {c1 c2:List AV} {d:Nat} (id:Nat) (hid:σ.nxt=id) (hl:Nat.blt id LIM=true) (hd:o.dst=some d) (hlt:Nat.blt d σ.n=true)
  (ho:o.op = .call { callee := .builtin .append,args:=#[x,y],argTypes:=#[t,t] }) (ht:P.underlying t=some (.slice e)) (he:TI P e dsc 1 bytes z) (hz:z.cells.size=1) (hE:E=e)
  (hx:σ.ev x=some (.own k)) (hk:σ.ent k=some (.out E bytes c1)) (hy:σ.ev y=some (.own k2)) (hk2:σ.ent k2=some (.out E2 bts2 c2)) (hone:c2.all AV.one=true)
  (hb:(c1.length+c2.length) * bytes<=140737488355328) (hm:c1.length+c2.length<=9223372036854775807):
  EF P F σ o (·=((σ.put k none).new (.out E bytes (c1++c2))).set d (.own id)):=by
 subst hid hE;intro a w ⟨H,r⟩;have hl:σ.nxt < LIM:=by simpa using hl
 obtain ⟨cs,hH,hown,hbnd,hrel⟩:=r.outAt hx hk;obtain ⟨ad,c,news,hya,hnl,hnews,hnrel,h1,hadn⟩:=r.outCells hy hk2 hone;obtain ⟨i,hi,hs,hby,hzz⟩:=he.inf;have hcl:cs.length=c1.length:=by simpa using hown.1
 obtain ⟨v',w',hrun,hown',hgr,hblk⟩:=zcq (w:=w) P t o.type E i z 1 bytes ht hi hzz hs hby hz (by omega) (a.eval x) c1.length cs hown ad c2.length c news (by rw [hnl,Nat.mul_one]) hnews h1 (by simp only [maxLen];omega) hb hadn;have hvb:=zb5 hown;have hvb':=zb5 hown';have hS:∀ b,Sh F.X σ.ent H w b->Sh F.X σ.ent H w b/\w'.heap[b]? =w.heap[b]? :=fun b hb=>⟨hb,hgr.block b hb.1 fun h=>hb.2.2 k _ _ hk hH (by rw [<- hvb,<- h])⟩
 have r':=r.renew (old:=some k) (e := .out E bytes (c1++c2)) (v:=v') (w':=w') hl hgr.os hgr.tape hgr.output hgr.size
  (fun b hb h=>hgr.block b hb fun hh=>h k _ rfl hH (by rw [<- hvb,<- hh])) (fun id h=>by cases h;exact ⟨_,hk⟩)
  (fun b hb=>by
   rcases hblk b (by rw [hvb'];exact hb) with h | h
   ·exact .inr ⟨k,_,rfl,hH,by rw [<- hvb];exact h⟩
   ·exact .inl h)
  (.out E bytes _ v' (cs++news) (by simpa using hown') (by simpa [most] using hb)
   (fun j hj=>by
    have hj:j < c1.length+c2.length:=by simpa using hj
    simp only [List.getD_eq_getElem?_getD];by_cases h:j < c1.length
    ·rw [List.getElem?_append_left h,List.getElem?_append_left (by omega)];simpa [List.getD_eq_getElem?_getD] using (hrel j h).mono hS (fun _ _ h=>h)
    ·rw [List.getElem?_append_right (by omega),List.getElem?_append_right (by omega),hcl];simpa [List.getD_eq_getElem?_getD] using (hnrel (j - c1.length) (by omega)).mono hS (fun _ _ h=>h)))
 have r2:=r'.set (d:=d) (show d < σ.n by simpa using hlt) (.own σ.nxt _ (Hd.add_new _ _ _) (by
  rcases hown'.form with ⟨rfl,_⟩ | ⟨b,off,c,rfl⟩<;>exact .inl ⟨_,_,_,rfl⟩))
 rw [<- hd] at r2;exact EF.value (v:=v') (w':=w') (by simp [execOp,ho,resolve,invoke,builtin,hya,hrun]) ⟨_,rfl,_,r2⟩
theorem EF.append_out_nil {t e:TypeId} {x y:Operand} {k2 E2 bts2:Nat} {dsc:Bool} {bytes:Nat} {z:Value} {c2:List AV} {d:Nat} (id:Nat) (hid:σ.nxt=id) (hl:Nat.blt id LIM=true) (hd:o.dst=some d) (hlt:Nat.blt d σ.n=true)
  (ho:o.op = .call { callee := .builtin .append,args:=#[x,y],argTypes:=#[t,t] }) (ht:P.underlying t=some (.slice e)) (he:TI P e dsc 1 bytes z) (hz:z.cells.size=1)
  (hx:σ.ev x=some .nil) (hy:σ.ev y=some (.own k2)) (hk2:σ.ent k2=some (.out E2 bts2 c2)) (hone:c2.all AV.one=true)
  (hb:c2.length * bytes<=140737488355328) (hm:c2.length<=9223372036854775807):
  EF P F σ o (·=(σ.new (.out e bytes c2)).set d (.own id)):=by
 subst hid;intro a w ⟨H,r⟩;have hl:σ.nxt < LIM:=by simpa using hl
 have hv:=r.ev hx;have heval:a.eval x = .slice none 0 0:=by
  generalize a.eval x=u at hv;cases hv;rfl
 obtain ⟨ad,c,news,hya,hnl,hnews,hnrel,h1,hadn⟩:=r.outCells hy hk2 hone;obtain ⟨i,hi,hs,hby,hzz⟩:=he.inf;obtain ⟨v',w',hrun,hown',hgr,hblk⟩:=zcq (w:=w) P t o.type e i z 1 bytes ht hi hzz hs hby hz (by omega) _ 0 [] (zbN.of_row (World.ownsRow_nil w 0 e 1)) ad c2.length c news (by rw [hnl,Nat.mul_one]) hnews h1 (by simp only [maxLen];omega) (by rw [Nat.zero_add];exact hb) hadn;simp only [Nat.zero_add,List.nil_append] at hown';have hvb':=zb5 hown';have r':=r.renew (old:=none) (e := .out e bytes c2) (v:=v') (w':=w') hl hgr.os hgr.tape hgr.output hgr.size
  (fun b hb h=>hgr.block b hb (by simp [Value.ownBlock])) (fun id h=>by cases h)
  (fun b hb=>by
   rcases hblk b (by rw [hvb'];exact hb) with h | h
   ·simp [Value.ownBlock] at h
   ·exact .inl h)
  (.out e bytes _ v' news hown' (by simpa [most] using hb)
   (fun j hj=>(hnrel j hj).mono (fun b hb=>⟨hb,hgr.block b hb.1 (by simp [Value.ownBlock])⟩) (fun _ _ h=>h)))
 have r2:=r'.set (d:=d) (show d < σ.n by simpa using hlt) (.own σ.nxt _ (Hd.add_new _ _ _) (by
  rcases hown'.form with ⟨rfl,_⟩ | ⟨b,off,c,rfl⟩<;>exact .inl ⟨_,_,_,rfl⟩))
 rw [<- hd] at r2;exact EF.value (v:=v') (w':=w') (by simp [execOp,ho,resolve,invoke,builtin,heval,hya,hrun]) ⟨_,rfl,_,r2⟩
def famH (H:Hd) (f m:Nat) (u:Nat->Value):Hd:=fun i=>if RB<=i/\i % RB=f/\i / RB - 1 < m then some (u (i / RB - 1)) else H i
theorem zmS (H:Hd) {f m x:Nat} (u:Nat->Value) (hf:f < RB) (hx:x < m):famH H f m u (rid f x)=some (u x):=by
 unfold famH;rw [zbc hf,zdI hf,if_pos ⟨zaP f x,rfl,hx⟩]
theorem famH_inv {H:Hd} {f m i:Nat} {u:Nat->Value} {v:Value} (h:famH H f m u i=some v):(∃ x,x < m/\i=rid f x/\v=u x)\/H i=some v:=by
 unfold famH at h;by_cases c:RB<=i/\i % RB=f/\i / RB - 1 < m
 ·rw [if_pos c] at h;cases h;left;refine ⟨_,c.2.2,?_,rfl⟩;have:=zfw c.1;rw [c.2.1] at this;exact this
 ·rw [if_neg c] at h;exact .inr h
theorem zpA {H:Hd} {f m i:Nat} {u:Nat->Value} (h:bs i≠f):famH H f m u i=H i:=by
 unfold famH;rw [if_neg (fun c=>h (by unfold bs;rw [if_pos c.1];exact c.2.1))]
theorem RelH.fam (r:RelH F σ H a w) (hlim:σ.nxt < LIM) {σ':St} {k E bts Er sz btsr m:Nat} {cells:List AV} {rows:List (List D)} (hk:σ.ent k=some (.out E bts cells)) (hm:cells.length=m) (hrl:rows.length=m) (hszr:0 < sz)
  (hc:∀ j,j < m->(∃ o,cells.getD j default = .own o/\σ.ent o=some (.arr Er sz btsr (rows.getD j default)))\/(cells.getD j default = .nil/\rows.getD j default=[]))
  (hinj:∀ i j o,i < m->j < m->cells.getD i default = .own o->cells.getD j default = .own o->i=j)
  (hn:σ'.n=σ.n) (hx:σ'.nxt=σ.nxt+1) (hg:∀ k,σ'.get k=σ.get k)
  (hent:∀ i e,σ'.ent i=some e->(i=k/\e = .out E bts (famA σ.nxt m))\/(∃ x,x < m/\i=rid σ.nxt x/\e = .arr Er sz btsr (rows.getD x default))\/(i≠k/\σ.ent i=some e/\∀ j,j < m->cells.getD j default ≠ .own i)):
  ∃ H',(∀ i v,H i=some v->H' i=some v)/\RelH F σ' H' a w:=by
 obtain ⟨v,hH,hr⟩:=r.ent k _ hk;have hfB:σ.nxt < RB:=by unfold LIM at hlim;unfold RB;omega
 cases hr with
 | out _ _ _ _ xs hown hbt hrel=>
  have hnone:∀ x,H (rid σ.nxt x)=none:=fun x=>r.fresh _ (by rw [zjG hfB];exact Nat.le_refl _) (by rw [zjG hfB];exact hlim)
  have hnoent:∀ x e,σ.ent (rid σ.nxt x)≠some e:=fun x e h=>by
   obtain ⟨u,hu,_⟩:=r.ent _ _ h;rw [hnone] at hu;cases hu
  have hcell:∀ j,j < m->(∃ ad n c,xs.getD j undef = .slice ad n c)/\EntRel w (Sh F.X σ.ent H w) H (.arr Er sz btsr (rows.getD j default)) (xs.getD j undef)/\
    ((∃ o,cells.getD j default = .own o/\H o=some (xs.getD j undef)/\∃ e,σ.ent o=some e)\/xs.getD j undef = .slice none 0 0):=by
   intro j hj;have h1:=hrel j (by omega);rcases hc j hj with ⟨o,h2,h3⟩ | ⟨h2,h3⟩
   ·rw [h2] at h1;obtain ⟨u,hu,he⟩:=r.ent o _ h3;generalize xs.getD j undef=q at h1;cases h1 with
    | own _ _ h _=>
     rw [hu] at h;cases h;refine ⟨?_,he,.inl ⟨o,h2,hu,_,h3⟩⟩;cases he with
     | arr _ _ _ _ _ ys _ hown'=>
      rcases hown'.form with ⟨rfl,_⟩ | ⟨b,off,c,rfl⟩
      ·exact ⟨_,_,_,rfl⟩
      ·exact ⟨_,_,_,rfl⟩
   ·rw [h2] at h1;generalize xs.getD j undef=q at h1;cases h1;rw [h3];refine ⟨⟨_,_,_,rfl⟩,.arr Er sz btsr [] _ [] hszr (zbN.of_row (World.ownsRow_nil w 0 Er sz)) (by simp [most]) (by simp) (by simp),.inr rfl⟩
  refine ⟨famH H σ.nxt m (fun j=>xs.getD j undef),?_,?_⟩
  ·intro i u hu;unfold famH;by_cases c:RB<=i/\i % RB=σ.nxt/\i / RB - 1 < m
   ·have:=zfw c.1;rw [c.2.1] at this;rw [this,hnone] at hu;cases hu
   ·rw [if_neg c];exact hu
  ·have hext:∀ i u,H i=some u->famH H σ.nxt m (fun j=>xs.getD j undef) i=some u:=by
    intro i u hu;unfold famH;by_cases c:RB<=i/\i % RB=σ.nxt/\i / RB - 1 < m
    ·have:=zfw c.1;rw [c.2.1] at this;rw [this,hnone] at hu;cases hu
    ·rw [if_neg c];exact hu
   have hback:∀ i e u,σ'.ent i=some e->famH H σ.nxt m (fun j=>xs.getD j undef) i=some u->
     (∃ i0 e0,σ.ent i0=some e0/\H i0=some u/\((i0=i/\(i=k\/∀ j,j < m->cells.getD j default ≠ .own i)/\∀ x,i≠rid σ.nxt x)\/∃ x,x < m/\i=rid σ.nxt x/\cells.getD x default = .own i0))\/blk u=none:=by
    intro i e u he hu;rcases hent i e he with ⟨rfl,_⟩ | ⟨x,hxm,rfl,_⟩ | ⟨hne,h1,h2⟩
    ·rw [hext _ _ hH] at hu;cases hu;exact .inl ⟨i,_,hk,hH,.inl ⟨rfl,.inl rfl,fun x hx=>hnoent x _ (by rw [<- hx];exact hk)⟩⟩
    ·rw [zmS _ _ hfB hxm] at hu;cases hu;rcases (hcell x hxm).2.2 with ⟨o,g1,g2,e0,g3⟩ | g
     ·exact .inl ⟨o,e0,g3,g2,.inr ⟨x,hxm,rfl,g1⟩⟩
     ·right;rw [g];rfl
    ·obtain ⟨u0,hu0,_⟩:=r.ent i e h1;rw [hext _ _ hu0] at hu;cases hu;exact .inl ⟨i,e,h1,hu0,.inl ⟨rfl,.inr h2,fun x hx=>hnoent x _ (by rw [<- hx];exact h1)⟩⟩
   have hS:∀ b,Sh F.X σ.ent H w b->Sh F.X σ'.ent (famH H σ.nxt m (fun j=>xs.getD j undef)) w b:=by
    intro b hb;refine ⟨hb.1,hb.2.1,fun i e u he hu hbu => ?_⟩;rcases hback i e u he hu with ⟨i0,e0,h1,h2,_⟩ | h
    ·exact hb.2.2 i0 e0 u h1 h2 hbu
    ·rw [h] at hbu;cases hbu
   have hS':∀ b,Sh F.X σ.ent H w b->Sh F.X σ'.ent (famH H σ.nxt m (fun j=>xs.getD j undef)) w b/\w.heap[b]? =w.heap[b]? :=fun b hb=>⟨hS b hb,rfl⟩
   refine ⟨by rw [hn];exact r.size,r.defs,r.os,r.tape,r.output,r.grow,r.keep,r.xlt,fun i h1 h2 => ?_,fun i hi => ?_,fun i e he => ?_,fun i e u b he hu hb => ?_,fun i i' e e' u u' b h1 h2 h3 h4 h5 h6 => ?_,fun q x hq => ?_⟩
   ·rw [hx] at h1;rw [zpA (by omega)];exact r.fresh i (by omega) h2
   ·rw [zpA (by have:=zfS hi;omega)];exact r.pin i hi
   ·rcases hent i e he with ⟨rfl,rfl⟩ | ⟨x,hxm,rfl,rfl⟩ | ⟨hne,h1,h2⟩
    ·refine ⟨v,hext _ _ hH,.out E bts _ v xs (by rw [zbj,<- hm];exact hown) (by rw [zbj,<- hm];exact hbt) fun j hj => ?_⟩;rw [zbj] at hj;rw [zbA hj];exact .own _ _ (zmS _ _ hfB hj) (.inl (hcell j hj).1)
    ·exact ⟨_,zmS _ _ hfB hxm,(hcell x hxm).2.1.mono hS' hext (fun _ _=>rfl)⟩
    ·obtain ⟨u,hu,hr⟩:=r.ent i e h1;exact ⟨u,hext _ _ hu,hr.mono hS' hext (fun _ _=>rfl)⟩
   ·rcases hback i e u he hu with ⟨i0,e0,h1,h2,_⟩ | h
    ·exact r.own i0 e0 u b h1 h2 hb
    ·rw [h] at hb;cases hb
   ·rcases hback i e u h1 h3 with ⟨i0,e0,g1,g2,g3⟩ | h
    ·rcases hback i' e' u' h2 h4 with ⟨i1,e1,k1,k2,k3⟩ | h
     ·have:=r.inj i0 i1 e0 e1 u u' b g1 k1 g2 k2 h5 h6;subst this;rcases g3 with ⟨rfl,g3,_⟩ | ⟨x,hxm,rfl,g3⟩<;>rcases k3 with ⟨k3,k4,_⟩ | ⟨y,hym,rfl,k3⟩
      ·exact k3
      ·exfalso;rcases g3 with rfl | g3
       ·rcases hc y hym with ⟨o,p1,p2⟩ | ⟨p1,_⟩
        ·rw [p1] at k3;cases k3;rw [hk] at p2;cases p2
        ·rw [p1] at k3;cases k3
       ·exact g3 y hym k3
      ·exfalso;subst k3;rcases k4 with rfl | k4
       ·rcases hc x hxm with ⟨o,p1,p2⟩ | ⟨p1,_⟩
        ·rw [p1] at g3;cases g3;rw [hk] at p2;cases p2
        ·rw [p1] at g3;cases g3
       ·exact k4 x hxm g3
      ·rw [hinj x y i0 hxm hym g3 k3]
     ·rw [h] at h6;cases h6
    ·rw [h] at h5;cases h5
   ·rw [hg] at hq;exact (r.slot q x hq).mono hS' hext
theorem RelH.freezeOut (r:RelH F σ H a w) {σ':St} {k E bts Er sz btsr m:Nat} {cells:List AV} {rows:List (List D)} (hk:σ.ent k=some (.out E bts cells)) (hm:cells.length=m) (hrl:rows.length=m)
  (hc:∀ j,j < m->∃ o,cells.getD j default = .own o/\σ.ent o=some (.arr Er sz btsr (rows.getD j default)))
  (hn:σ'.n=σ.n) (hx:σ'.nxt=σ.nxt) (hg:∀ k,σ'.get k=σ.get k)
  (hent:∀ i e,σ'.ent i=some e->σ.ent i=some e/\i≠k/\∀ j,j < m->cells.getD j default ≠ .own i):
  RelH F σ' H a w/\(∃ v,H k=some v/\DRel w (Sh F.X σ'.ent H w) (.sl bts (rows.map (.sl btsr))) v)/\
   ∀ j o,j < m->cells.getD j default = .own o->∃ u,H o=some u/\DRel w (Sh F.X σ'.ent H w) (.sl btsr (rows.getD j default)) u:=by
 have hS:∀ b,Sh F.X σ.ent H w b->Sh F.X σ'.ent H w b/\w.heap[b]? =w.heap[b]? :=fun b hb=>⟨⟨hb.1,hb.2.1,fun i e u he hu hbu=>hb.2.2 i e u (hent i e he).1 hu hbu⟩,rfl⟩
 have hR:RelH F σ' H a w:=
  ⟨by rw [hn];exact r.size,r.defs,r.os,r.tape,r.output,r.grow,r.keep,r.xlt,fun i h1 h2=>r.fresh i (by rw [<- hx];exact h1) h2,r.pin,
   fun i e he=>by
    obtain ⟨u,hu,hr⟩:=r.ent i e (hent i e he).1;exact ⟨u,hu,hr.mono hS (fun _ _ h=>h) (fun _ _=>rfl)⟩,
   fun i e u b he hu hb=>r.own i e u b (hent i e he).1 hu hb,
   fun i i' e e' u u' b h1 h2=>r.inj i i' e e' u u' b (hent i e h1).1 (hent i' e' h2).1,
   fun q x hq=>(r.slot q x (by rw [<- hg];exact hq)).mono hS (fun _ _ h=>h)⟩
 have hrow:∀ o l,σ.ent o=some (.arr Er sz btsr l)->(∀ e,σ'.ent o≠some e)->∃ u,H o=some u/\DRel w (Sh F.X σ'.ent H w) (.sl btsr l) u:=by
  intro o l ho hgone;obtain ⟨u,hu,hr⟩:=r.ent o _ ho;refine ⟨u,hu,?_⟩;have hlt:∀ b,blk u=some b->b < w.heap.size:=fun b hb=>hr.lt hb
  have hSb:∀ b,blk u=some b->Sh F.X σ'.ent H w b:=fun b hb=>⟨hlt b hb,(r.own o _ u b ho hu hb).2,fun i e q he hq hbq=>hgone e (by
   have:=r.inj o i _ e u q b ho (hent i e he).1 hu hq hb hbq;rw [this];exact he)⟩
  cases hr with
  | arr _ _ _ _ _ xs hsz hown hbt hcs hrel=>
   have hown0:=hown;obtain ⟨hxl,h2⟩:=hown;rcases h2 with ⟨rfl,h0⟩ | ⟨g,off,cap,cur,rfl,hh,hnc,hcm,hcsz,htake⟩
   ·have:l=[]:=List.length_eq_zero_iff.1 h0;subst this;exact .nil _ _ _ (by simp [maxLen]) (fun _=>rfl)
   ·by_cases h0:l=[]
    ·subst h0;exact .nil _ _ _ hcm (by simp)
    ·have hpos:0 < l.length:=List.length_pos_iff.2 h0;refine .sl _ _ g off cap sz (fun j=>xs.getD j undef) hpos hsz (hSb g rfl) hnc hcm hbt hcs (fun j hj => ?_) (fun i hi j hj=>(hrel i hi j hj).mono hS);have hjx:j < xs.length:=by omega
     exact hown0.cell j _ (by simp [List.getD_eq_getElem?_getD,hjx])
 have hrows:∀ j o,j < m->cells.getD j default = .own o->∃ u,H o=some u/\DRel w (Sh F.X σ'.ent H w) (.sl btsr (rows.getD j default)) u:=by
  intro j o hj ho;obtain ⟨o',h1,h2⟩:=hc j hj;rw [h1] at ho;cases ho;exact hrow o _ h2 fun e he=>(hent o e he).2.2 j hj h1
 refine ⟨hR,?_,hrows⟩;obtain ⟨v,hH,hr⟩:=r.ent k _ hk;refine ⟨v,hH,?_⟩;have hlt:∀ b,blk v=some b->b < w.heap.size:=fun b hb=>hr.lt hb
 have hSb:∀ b,blk v=some b->Sh F.X σ'.ent H w b:=fun b hb=>⟨hlt b hb,(r.own k _ v b hk hH hb).2,fun i e q he hq hbq=>(hent i e he).2.1 (by
  exact (r.inj k i _ e v q b hk (hent i e he).1 hH hq hb hbq).symm)⟩
 cases hr with
 | out _ _ _ _ xs hown hbt hrel=>
  have hown0:=hown;obtain ⟨hxl,h2⟩:=hown;have hlm:(rows.map (D.sl btsr)).length=m:=by rw [List.length_map];exact hrl
  rcases h2 with ⟨rfl,h0⟩ | ⟨g,off,cap,cur,rfl,hh,hnc,hcm,hcsz,htake⟩
  ·have:rows=[]:=List.length_eq_zero_iff.1 (by omega);subst this;exact .nil _ _ _ (by simp [maxLen]) (fun _=>rfl)
  ·by_cases h0:m=0
   ·have:rows=[]:=List.length_eq_zero_iff.1 (by omega);subst this;rw [show cells.length=0 by omega];exact .nil _ _ _ hcm (by simp)
   ·have:=DRel.sl (w:=w) (S:=Sh F.X σ'.ent H w) bts (rows.map (D.sl btsr)) g off cap 1 (fun j=>xs.getD j undef) (by omega) (by omega) (hSb g rfl) (by omega) hcm (by rw [hlm,<- hm];exact hbt)
     (fun i hi=>by
      have hi':i < rows.length:=by simpa using hi
      simp [List.getD_eq_getElem?_getD,hi',D.cells])
     (fun j hj=>by
      have hjx:j < xs.length:=by omega
      exact hown0.cell j _ (by simp [List.getD_eq_getElem?_getD,hjx]))
     (fun i hi j hj=>by
      have hi':i < rows.length:=by simpa using hi
      have hj0:j=0:=by omega
      subst hj0;obtain ⟨o,h1,_⟩:=hc i (by omega);obtain ⟨u,hu,hd⟩:=hrows i o (by omega) h1;have h3:=hrel i (by omega);rw [h1] at h3;have h4:xs.getD i undef=u:=by
       generalize xs.getD i undef=q at h3;cases h3 with
       | own _ _ h _=>rw [hu] at h;cases h;rfl
      have e1:((rows.map (D.sl btsr)).getD i default).cells.getD 0 default = .sl btsr (rows.getD i default):=by
       simp [List.getD_eq_getElem?_getD,hi',D.cells]
      rw [e1];simp only [Nat.mul_one,Nat.add_zero];rw [h4];exact hd)
    rw [hlm,<- hm] at this;exact this
theorem RelH.flatRows (r:RelH F σ H a w) {σ':St} {k E bts Er sz btsr m:Nat} {cells:List AV} {rows:List (List D)} (hk:σ.ent k=some (.out E bts cells)) (hm:cells.length=m) (hrl:rows.length=m)
  (hc:∀ j,j < m->∃ o,cells.getD j default = .own o/\σ.ent o=some (.arr Er sz btsr (rows.getD j default)))
  (hn:σ'.n=σ.n) (hx:σ'.nxt=σ.nxt) (hg:∀ k,σ'.get k=σ.get k)
  (hent:∀ i e,σ'.ent i=some e->(i=k/\e = .arr E 1 bts (rows.map (.sl btsr)))\/(σ.ent i=some e/\i≠k/\∀ j,j < m->cells.getD j default ≠ .own i))
  (hne:∀ j,j < m->cells.getD j default ≠ .own k):
  RelH F σ' H a w:=by
 obtain ⟨kv,hkv,hkr⟩:=r.ent k _ hk;have hold:∀ i e,σ'.ent i=some e->∃ e0,σ.ent i=some e0:=fun i e he=>by
  rcases hent i e he with ⟨rfl,_⟩ | ⟨h,_⟩
  ·exact ⟨_,hk⟩
  ·exact ⟨_,h⟩
 have hS:∀ b,Sh F.X σ.ent H w b->Sh F.X σ'.ent H w b/\w.heap[b]? =w.heap[b]? :=fun b hb=>⟨⟨hb.1,hb.2.1,fun i e u he hu hbu=>by
  obtain ⟨e0,h0⟩:=hold i e he;exact hb.2.2 i e0 u h0 hu hbu⟩,rfl⟩
 have hrow:∀ o l,σ.ent o=some (.arr Er sz btsr l)->(∀ e,σ'.ent o≠some e)->∃ u,H o=some u/\DRel w (Sh F.X σ'.ent H w) (.sl btsr l) u:=by
  intro o l ho hgone;obtain ⟨u,hu,hr⟩:=r.ent o _ ho;refine ⟨u,hu,?_⟩;have hlt:∀ b,blk u=some b->b < w.heap.size:=fun b hb=>hr.lt hb
  have hSb:∀ b,blk u=some b->Sh F.X σ'.ent H w b:=fun b hb=>⟨hlt b hb,(r.own o _ u b ho hu hb).2,fun i e q he hq hbq=>hgone e (by
   obtain ⟨e0,h0⟩:=hold i e he;have:=r.inj o i _ e0 u q b ho h0 hu hq hb hbq;rw [this];exact he)⟩
  cases hr with
  | arr _ _ _ _ _ xs hsz hown hbt hcs hrel=>
   have hown0:=hown;obtain ⟨hxl,h2⟩:=hown;rcases h2 with ⟨rfl,h0⟩ | ⟨g,off,cap,cur,rfl,hh,hnc,hcm,hcsz,htake⟩
   ·have:l=[]:=List.length_eq_zero_iff.1 h0;subst this;exact .nil _ _ _ (by simp [maxLen]) (fun _=>rfl)
   ·by_cases h0:l=[]
    ·subst h0;exact .nil _ _ _ hcm (by simp)
    ·have hpos:0 < l.length:=List.length_pos_iff.2 h0;refine .sl _ _ g off cap sz (fun j=>xs.getD j undef) hpos hsz (hSb g rfl) hnc hcm hbt hcs (fun j hj => ?_) (fun i hi j hj=>(hrel i hi j hj).mono hS);have hjx:j < xs.length:=by omega
     exact hown0.cell j _ (by simp [List.getD_eq_getElem?_getD,hjx])
 have hrows:∀ j o,j < m->cells.getD j default = .own o->∃ u,H o=some u/\DRel w (Sh F.X σ'.ent H w) (.sl btsr (rows.getD j default)) u:=by
  intro j o hj ho;obtain ⟨o',h1,h2⟩:=hc j hj;rw [h1] at ho;cases ho;exact hrow o _ h2 fun e he=>by
   rcases hent o e he with ⟨rfl,_⟩ | ⟨_,_,h⟩
   ·exact hne j hj h1
   ·exact h j hj h1
 have hK:EntRel w (Sh F.X σ'.ent H w) H (.arr E 1 bts (rows.map (.sl btsr))) kv:=by
  cases hkr with
  | out _ _ _ _ xs hown hbt hrel=>
   have hlm:(rows.map (D.sl btsr)).length=cells.length:=by rw [List.length_map,hrl,hm]
   refine .arr E 1 bts _ kv xs (by omega) (by rw [hlm];exact hown) (by rw [hlm];exact hbt) (fun i hi => ?_) (fun i hi j hj => ?_)
   ·have hi':i < rows.length:=by simpa using hi
    simp [List.getD_eq_getElem?_getD,hi',D.cells]
   ·have hi':i < rows.length:=by simpa using hi
    have hj0:j=0:=by omega
    subst hj0;obtain ⟨o,h1,_⟩:=hc i (by omega);obtain ⟨u,hu,hd⟩:=hrows i o (by omega) h1;have h3:=hrel i (by omega);rw [h1] at h3;have h4:xs.getD i undef=u:=by
     generalize xs.getD i undef=q at h3;cases h3 with
     | own _ _ h _=>rw [hu] at h;cases h;rfl
    have e1:((rows.map (D.sl btsr)).getD i default).cells.getD 0 default = .sl btsr (rows.getD i default):=by
     simp [List.getD_eq_getElem?_getD,hi',D.cells]
    rw [e1];simp only [Nat.mul_one,Nat.add_zero];rw [h4];exact hd
 exact ⟨by rw [hn];exact r.size,r.defs,r.os,r.tape,r.output,r.grow,r.keep,r.xlt,fun i h1 h2=>r.fresh i (by rw [<- hx];exact h1) h2,r.pin,
  fun i e he=>by
   rcases hent i e he with ⟨rfl,rfl⟩ | ⟨h,_⟩
   ·exact ⟨kv,hkv,hK⟩
   ·obtain ⟨u,hu,hr⟩:=r.ent i e h;exact ⟨u,hu,hr.mono hS (fun _ _ h=>h) (fun _ _=>rfl)⟩,
  fun i e u b he hu hb=>by
   obtain ⟨e0,h0⟩:=hold i e he;exact r.own i e0 u b h0 hu hb,
  fun i i' e e' u u' b h1 h2=>by
   obtain ⟨e0,h0⟩:=hold i e h1;obtain ⟨e0',h0'⟩:=hold i' e' h2;exact r.inj i i' e0 e0' u u' b h0 h0',
  fun q x hq=>(r.slot q x (by rw [<- hg];exact hq)).mono hS (fun _ _ h=>h)⟩
theorem RelH.boxset (r:RelH F σ H a w) {id id2 j:Nat} {T:TypeId} {xs:List AV} {d:D} {v2:Value} (he:σ.ent id=some (.box T xs)) (hj:xs[j]? =some (.own id2)) (hH2:H id2=some v2) (hd:DRel w (Sh F.X σ.ent H w) d v2):
  RelH F (σ.put id (some (.box T (xs.set j (.d d))))) H a w:=by
 obtain ⟨v,hH,hr⟩:=r.ent id _ he;cases hr with
 | box _ _ b cur hb hs hrel=>
  refine r.upd he hH (b:=b) rfl ?_ (.box T _ b cur hb (by simpa using hs) fun q hq => ?_)
  ·exact { os:=rfl,tape:=rfl,output:=rfl,size:=Nat.le_refl _,block:=fun _ _ _=>rfl }
  ·have hq:q < xs.length:=by simpa using hq
   have h1:=hrel q hq;by_cases hqj:j=q
   ·subst hqj;have e1:xs.getD j default = .own id2:=by rw [List.getD_eq_getElem?_getD,hj];rfl
    have e2:(xs.set j (.d d)).getD j default = .d d:=by simp [List.getD_eq_getElem?_getD,hq]
    rw [e1] at h1;rw [e2];generalize cur.getD j undef=u at h1 ⊢;cases h1 with
    | own _ _ h _=>rw [hH2] at h;cases h;exact .d _ _ hd
   ·have e2:(xs.set j (.d d)).getD q default=xs.getD q default:=by simp [List.getD_eq_getElem?_getD,List.getElem?_set_ne hqj]
    rw [e2];exact h1
 | mp=>
  exfalso
  match j,hj with
  | 0,hj=>cases hj
  | 1,hj=>cases hj
  | q+2,hj=>simp at hj
end
end Go.Ab
