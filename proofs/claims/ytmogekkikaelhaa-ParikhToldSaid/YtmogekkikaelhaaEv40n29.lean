import Derived.Test.YtmogekkikaelhaaEv40n23
set_option linter.unusedVariables false
set_option linter.unusedSimpArgs false
set_option linter.unusedSectionVars false
namespace Go.Ab
noncomputable section
set_option linter.unusedVariables false
variable {R:Type}
def pch (T:Nat) (p:Int×Int):List PanicEntry:=[{ v := .iface T (.agg #[.int .i64 p.1,.int .i64 p.2]),recovered:=false }]
def dec (T:Nat):List PanicEntry->Option (Int×Int)
  | [⟨.iface u (.agg cs),false,false⟩]=>bif Nat.beq u T then (match cs.toList with
    | [.int .i64 a,.int .i64 b]=>some (a,b)
    | _=>none) else none
  | _=>none
theorem dec_pch (T:Nat) (p:Int×Int):dec T (pch T p)=some p:=by
  unfold pch dec;simp only [Nat.beq_refl,cond_true]
theorem zq1 {T:Nat} {ch:List PanicEntry} {p:Int×Int} (h:dec T ch=some p):ch=pch T p:=by
  unfold dec at h;split at h
  · rename_i u cs;have hb:=(zaa h).1;replace h:=(zaa h).2;have hb:=Nat.eq_of_beq_eq_true hb;subst hb;split at h
    · rename_i a b hl;cases h;unfold pch;have:cs=#[.int .i64 a,.int .i64 b]:=by rw [<- Array.toArray_toList (xs:=cs),hl]
      rw [this]
    · cases h
  · cases h
def FcP (P:Program) (f:FuncId) (args:List AV) (h:Hp) (T:Nat) (p:Int×Int):Prop:=
  ∀ (w:World) (X:Nat->Prop) (H:Hd) (vs:Array Value),(∀ b,X b->b < w.heap.size)->(∀ id,bs id < LIM->H id=none)->HOK X h H w->vs.size=args.length->
    (∀ i,i < args.length->VRel w (Sh X (zbm h) H w) H (args.getD i default) (vs.getD i undef))->
    Calls P f vs w (fun e w'=>e = .panicked (pch T p)/\
      (w'.os=w.os/\w'.tape=w.tape/\w'.output=w.output/\w.heap.size<=w'.heap.size)/\(∀ b,b < w.heap.size -> ¬ zcL h H b->w'.heap[b]? =w.heap[b]?))
structure CEp where
  f:Nat
  sig:Shape
  out:Shape
  den:Tup sig.tys->Option (Tup out.tys⊕(Int×Int))
def CEp.norm (c:CEp):CE:=⟨c.f,c.sig,c.out,fun X=>match c.den X with
  | some (.inl Y)=>some Y
  | _=>none⟩
structure CEp.ok (P:Program) (T:Nat) (c:CEp):Prop where
  call:∀ (as:Array Value) (w:World),(callFunc c.f as).run P w = .ok (.enter c.f as) w
  fc:∀ X Y,c.den X=some (.inl Y)->Fc P c.f (EV.avL (c.sig.vals X)) (hpSt (c.sig.heap X) (c.sig.rws X)) (fun r h=>r=(retE (c.out.vals Y)).av/\h=hpSt (c.out.heap Y) (c.out.rws Y))
  fp:∀ X p,c.den X=some (.inr p)->FcP P c.f (EV.avL (c.sig.vals X)) (hpSt (c.sig.heap X) (c.sig.rws X)) T p
theorem CEp.ok.norm {P:Program} {T:Nat} {c:CEp} (h:c.ok P T):c.norm.ok P:=⟨h.call,fun X Y hXY=>by
  refine h.fc X Y ?_;have hXY:(match c.den X with
    | some (.inl Y)=>some Y
    | _=>none)=some Y:=hXY
  split at hXY
  · rename_i Y' hY';cases hXY;exact hY'
  · cases hXY⟩
def GPOK (P:Program) (T:Nat) (Γ:List CEp):Prop:=∀ c∈Γ,c.ok P T
def pbind {A B:Type} (o:Option (A⊕(Int×Int))) (k:A->Option B) (kp:Int×Int->Option B):Option B:=match o with
  | some (.inl y)=>k y
  | some (.inr p)=>kp p
  | none=>none
def zo0 (s:ESt) (ids:Ids) (i:Nat):Bool:=match look s.heap i with
  | some (some (.box _ _)) => !(ids.map (·.2)).contains i
  | _=>false
def dropd (s:ESt) (ids:Ids):ESt:=⟨s.n,s.slots,((s.heap.map (·.1)).filter fun i => !zo0 s ids i).map (fun i=>(i,none))++s.heap,s.nxt,(s.rws.map fun p=>(p.1,none))++s.rws⟩
theorem Sfx.dropd (s:ESt) (ids:Ids):Sfx s (dropd s ids):=⟨⟨[],rfl⟩,⟨_,rfl⟩,⟨_,rfl⟩,Nat.le_refl _,rfl⟩
theorem zqr {β:Type} {l:List Nat} {k:Nat} {q:Option β} (h:look (l.map fun i=>(i,(none:Option β))) k=some q):q=none:=by
  obtain ⟨i,_,e⟩:=List.mem_map.1 (zak h);cases e;rfl
theorem ziO {β:Type}:∀ {l:List Nat} {k:Nat},k∈l->look (l.map fun i=>(i,(none:Option β))) k=some none
  | i::l,k,h=>by
    rw [List.map_cons,zae];by_cases e:i=k
    · rw [if_pos e]
    · rw [if_neg e];rcases List.mem_cons.1 h with h | h
      · exact absurd h.symm e
      · exact ziO h
theorem zq5 {s:ESt} {ids:Ids} (hlow:s.low=true):Eqv (s.st.back ids s.nxt (fun _=>none)) (dropd s ids).st:=by
  refine ⟨rfl,rfl,fun k x hx=>hx,fun k e he => ?_⟩;rw [zao] at he;show (if (ids.any fun p=>Nat.beq p.2 (bs k))=true then none else s.st.ent k)=some e;have he:(match look (((s.heap.map (·.1)).filter fun i => !zo0 s ids i).map (fun i=>(i,(none:Option EEnt)))++s.heap) k with
    | some e=>e.map (EEnt.ent ((s.rws.map fun p=>(p.1,(none:Option RW)))++s.rws))
    | none=>zar ((s.rws.map fun p=>(p.1,(none:Option RW)))++s.rws) k)=some e:=he
  rw [zag] at he;cases h1:look (((s.heap.map (·.1)).filter fun i => !zo0 s ids i).map (fun i=>(i,(none:Option EEnt)))) k with
  | some q=>
    rw [h1] at he;have:=zqr h1;subst this;cases he
  | none=>
    rw [h1] at he;simp only [Option.none_or] at he;cases h2:look s.heap k with
    | some q=>
      rw [h2] at he;simp only at he;have hk:zo0 s ids k=true:=by
        cases hb:zo0 s ids k with
        | true=>rfl
        | false=>
          have:k∈(s.heap.map (·.1)).filter fun i => !zo0 s ids i:=List.mem_filter.2 ⟨List.mem_map.2 ⟨_,zak h2,rfl⟩,by rw [hb];rfl⟩
          rw [ziO this] at h1;cases h1
      have hkR:k < RB:=by
        have:=List.all_eq_true.1 hlow (k,q) (zak h2);simpa using this
      have hk0:=hk;unfold zo0 at hk;rw [h2] at hk;cases q with
      | none=>cases he
      | some e0=>
        cases e0 with
        | box T c=>
          simp only [Bool.not_eq_true'] at hk;rw [if_neg fun hany=>by
            obtain ⟨p,hp,hpb⟩:=List.any_eq_true.1 hany;have:=Nat.eq_of_beq_eq_true hpb;rw [zlI hkR] at this;have:k∈ids.map (·.2):=List.mem_map.2 ⟨p,hp,this⟩;rw [List.contains_eq_mem] at hk;simp [this] at hk]
          have hent:s.ent k=some (.box T c):=by unfold ESt.ent;rw [h2]
          rw [zat hent,<- he];rfl
        | arr=>cases hk
        | out=>cases hk
        | outs=>cases hk
    | none=>
      rw [h2] at he;simp only at he;exfalso;unfold zar at he;split at he
      · rw [zag] at he;cases h3:look (s.rws.map fun p=>(p.1,(none:Option RW))) (k % RB) with
        | some q=>
          rw [h3] at he;obtain ⟨p,_,e⟩:=List.mem_map.1 (zak h3);have:q=none:=(congrArg Prod.snd e).symm;subst this;cases he
        | none=>
          rw [h3] at he;simp only [Option.none_or] at he;cases h4:look s.rws (k % RB) with
          | none=>rw [h4] at he;cases he
          | some q=>
            have key:∀ (l:List (Nat×Option RW)),look l (k % RB)=some q->look (l.map fun p=>(p.1,(none:Option RW))) (k % RB)≠none:=by
              intro l;induction l with
              | nil=>intro h;cases h
              | cons y l ih=>
                intro h hn;rw [List.map_cons,zae] at hn;obtain ⟨yk,yv⟩:=y;rw [zae] at h;by_cases hy:yk=k % RB
                · rw [if_pos hy] at hn;cases hn
                · rw [if_neg hy] at hn h;exact ih h hn
            exact key _ h4 h3
      · cases he
def ziu (s:ESt) (c:CEp) (vals:List EV) (d:Nat) (K:ESt->Option R) (KP:Int×Int->ESt->Option R):Option (Option R):=
  match hndL s c.sig.tys (c.sig.slots.map (·.2)) vals ([],[],[]) with
  | none=>none
  | some (vs,ids,ln)=>match mchE s c.sig.ents (vs,ids) with
    | none=>none
    | some (vs,ids)=>match finV c.sig.tys vs with
      | none=>none
      | some X=>bif inOK c.norm ids ln && zrZ c.out s.nxt ids && znU s c.out ids then some (pbind (c.den X) (fun Y=>K (zkK s c.norm ids d Y)) (fun p=>KP p (dropd s ids))) else none
def zhe (s:ESt) (g:Nat) (vals:List EV) (d:Nat) (K:ESt->Option R) (KP:Int×Int->ESt->Option R):List CEp->Option R
  | []=>none
  | c::r=>bif Nat.beq c.f g then (match ziu s c vals d K KP with
    | some x=>x
    | none=>zhe s g vals d K KP r) else zhe s g vals d K KP r
def zeW (Γ:List CEp) (s:ESt) (o:Oper) (K:ESt->Option R) (KP:Int×Int->ESt->Option R):Option R:=match o.op,o.dst,o.guard with
  | .call c,some d,none=>match c.callee with
    | .value f=>match s.ev f with
      | some (.fn g caps)=>match zjl s c.args.toList with
        | some vals=>bif Nat.blt d s.n then grd (zlR s (vals++caps)) (zhe s g (vals++caps) d K KP Γ) else none
        | none=>none
      | _=>none
    | _=>none
  | _,_,_=>none
def zqw (TT:List TE) (s:ESt) (o:Oper):ESt:=match o.op with
  | .call c=>match c.callee with
    | .value f=>zk2 TT s f c.args.toList
    | _=>s
  | _=>s
theorem zpR (TT:List TE) (s:ESt) (o:Oper):Wk s (zqw TT s o)/\Sfx s (zqw TT s o):=by
  unfold zqw;split
  · split
    · exact znP TT s _ _
    · exact ⟨Wk.refl _,Sfx.refl _⟩
  · exact ⟨Wk.refl _,Sfx.refl _⟩
def payl (s:ESt) (x:Operand):Option (Int×Int):=match s.ev x with
  | some (.d (.pair (.pair (.int .i64) (.pair (.int .i64) .unit)) .unit) p)=>some (p.1.1,p.1.2.1)
  | _=>none
def zoV (TT:List TE) (T:Nat) (s:ESt) (o o2:Oper) (KP:Int×Int->ESt->Option R):Option R:=match o.op,o.dst,o.guard,o2.op,o2.guard with
  | .makeInterface T' x,some d,none,.panic (.tmp d'),none=>bif Nat.beq T' T && Nat.beq d d' && Nat.blt d s.n then (match tyT TT T,payl s x with
      | some t,some p=>bif t.agg then KP p (s.set d .any) else none
      | _,_=>none) else none
  | _,_,_,_,_=>none
def zjM (TT:List TE) (Γ:List CE) (Γp:List CEp) (T:Nat) (bo:Option R->Option R->Option R) (ops:Array Oper) (K:ESt->Option R) (KP:Int×Int->ESt->Option R):List (Nat×Nat)->ESt->Option R
  | [],s=>K s
  | (c,i)::r,s=>match ops[i]? with
    | none=>none
    | some o=>bif Nat.beq c 5 then zeW Γp s o (fun s'=>zjM TT Γ Γp T bo ops K KP r s') KP
      else bif Nat.beq c 8 then zeW Γp (zqw TT s o) o (fun s'=>zjM TT Γ Γp T bo ops K KP r s') KP
      else bif Nat.beq c 6 then (match r with
        | [(_,j)]=>match ops[j]? with
          | some o2=>zoV TT T s o o2 KP
          | none=>none
        | _=>none)
      else zcm TT Γ bo ops.toList [(c,o)] s fun s'=>zjM TT Γ Γp T bo ops K KP r s'
section
variable {P:Program} {TT:List TE} {Γ:List CE} {Γp:List CEp} {T:Nat} {bo:Option R->Option R->Option R} {F:Fr} {ops:Array Oper} {q:R} {K:ESt->Option R} {KP:Int×Int->ESt->Option R} {s:ESt} {o:Oper}
theorem ztx {σ:St} {o:Oper} {f:Operand} {g:FuncId} {caps:List AV} {args:Array Operand} {ts:Array TypeId} (cm:List (Nat×Nat)) (ln:LN) {as cs:List AV} {h:Hp} {p:Int×Int}
    (ho:o.op = .call { callee := .value f,args:=args,argTypes:=ts }) (hf:σ.ev f=some (.fn g caps)) (hcall:∀ (as:Array Value) (w:World),(callFunc g as).run P w = .ok (.enter g as) w)
    (hdis:∀ i o,lkc cm i=some o->o∉ln) (hcm:cmOK cm=true) (hargs:zop σ cm ln args.toList as) (hcaps:zkF σ cm ln caps cs) (hh:zhj cm σ h) (hnx:σ.nxt<=LIM)
    (hfn:FcP P g (as++cs) h T p) {N:Act->World->Prop}:
    ∀ (a:Act) (w:World),Rel F σ a w->o.wp P a w N (fun e a' w'=>e = .panic (pch T p)/\a'=a/\Rel F (σ.back cm σ.nxt (fun _=>none)) a w'):=by
  intro a w ⟨H,r⟩;obtain ⟨hok,hS⟩:=zpD hdis r hcm hh;obtain ⟨hl,hav⟩:=hargs.rel r;obtain ⟨hcl,hcr⟩:=hcaps.rel;have hfv:=r.ev hf;obtain ⟨cv,hfe,hcs,hcv⟩:∃ cv:Array Value,a.eval f = .func (.func g) #[] cv/\cv.size=caps.length/\∀ i,i < caps.length->VRel w (Sh F.X σ.ent H w) H (caps.getD i default) (cv.getD i undef):=by
    generalize a.eval f=u at hfv;cases hfv with
    | fn _ _ cv hs h=>exact ⟨cv,rfl,hs,h⟩
  have hargsz:(args.map a.eval).size=as.length:=by simpa using hl
  have hC:=hfn w (fun b=>F.X b\/∃ id e v,σ.ent id=some e/\H id=some v/\blk v=some b/\(∀ i,lkc cm i≠some id)/\id∉ln) (cmH cm H) (args.map a.eval++cv)
    (fun b hb=>by
      rcases hb with hb | ⟨id,e,v,h1,h2,h3,_⟩
      · have:=r.xlt b hb;have:=r.grow;omega
      · obtain ⟨v',h4,h5⟩:=r.ent id e h1;rw [h2] at h4;cases h4;exact h5.lt h3)
    (fun id hid=>by
      unfold cmH;cases hc:lkc cm id with
      | none=>rfl
      | some q=>have:=(zgM (zbW hcm) hc).1;omega)
    hok (by simp only [Array.size_append,List.length_append,hargsz,hcs,hcl]) (fun i hi=>by
      have hi':i < as.length+cs.length:=by simpa using hi
      by_cases h1:i < as.length
      · have:=(hav i h1).mono (fun b hb=>⟨hS b hb,rfl⟩) (fun _ _ h=>h);have e1:(as++cs).getD i default=as.getD i default:=by simp only [List.getD_eq_getElem?_getD];rw [List.getElem?_append_left h1]
        have e2:(args.map a.eval++cv).getD i undef=(args.toList.map a.eval).getD i undef:=by
          have:i < (args.map a.eval).size:=by omega
          simp only [Array.getD_eq_getD_getElem?, List.getD_eq_getElem?_getD,Array.getElem?_append_left this];rw [<- Array.toList_map,Array.getElem?_toList]
        rw [e1,e2];exact this
      · have h2:i - as.length < caps.length:=by omega
        have:=(hcr (i - as.length) (by omega) F H a w r _ (hcv (i - as.length) h2)).mono (fun b hb=>⟨hS b hb,rfl⟩) (fun _ _ h=>h);have e1:(as++cs).getD i default=cs.getD (i - as.length) default:=by simp only [List.getD_eq_getElem?_getD];rw [List.getElem?_append_right (by omega)]
        have e2:(args.map a.eval++cv).getD i undef=cv.getD (i - as.length) undef:=by
          have:(args.map a.eval).size<=i:=by omega
          simp only [Array.getD_eq_getD_getElem?];rw [Array.getElem?_append_right this,hargsz]
        rw [e1,e2];exact this)
  unfold Oper.wp;have hrun:(execOp a.eval o).run P w = .ok (.enter g (args.map a.eval++cv)) w:=by
    simp [execOp,ho,resolve,hfe,Deferred.ofValue,invoke,hcall]
  rw [hrun];refine Calls.mono hC ?_;rintro e w' ⟨rfl,hos,hkeep⟩;refine ⟨rfl,rfl,?_⟩;have hno:∀ i e,zbm (fun _=>(none:Option Ent)) i=some e->False:=fun i e h=>by cases h
  obtain ⟨H'',hrel,_⟩:=r.callL (h':=fun _=>none) (H':=cmH cm H) (mp:=[]) (h'':=fun _=>none) (nxt':=σ.nxt) hdis hcm hh hos hkeep
    ⟨fun i e h=>(hno i e h).elim,fun i e v b h=>(hno i e h).elim,fun i j e e' v v' b h=>(hno i e h).elim⟩ (fun b ⟨i,e,v,h,_⟩=>(hno i e h).elim) (fun _ _=>rfl) (fun _ j e h=>(hno j e h).elim)
    (by simp [zlW,za0,hnx]) (fun i e h=>by cases h)
  exact ⟨H'',hrel⟩
theorem zkZ {c:CEp} (hc:c.ok P T) {f:Operand} {args:Array Operand} {ts:Array TypeId} {d:Nat} {vals caps:List EV} (hd:o.dst=some d) (hlt:Nat.blt d s.n=true)
    (ho:o.op = .call { callee := .value f,args:=args,argTypes:=ts }) (hf:s.ev f=some (.fn c.f caps)) (hargs:zjl s args.toList=some vals) (hrg:zmi (zlR s (vals++caps)))
    (h:ziu s c (vals++caps) d K KP=some (some q)):
    ∀ (a:Act) (w:World),Rel F s.st a w->o.wp P a w (fun a' w'=>(∃ u,a'=a.put o.dst u)/\∃ s',Sfx s s'/\K s'=some q/\Rel F s'.st a' w')
      (fun e a' w'=>∃ p s',e = .panic (pch T p)/\Sfx s s'/\KP p s'=some q/\Rel F s'.st a' w'):=by
  have h0:=h;unfold ziu at h;split at h
  · cases h
  · rename_i vs0 ids0 ln h1;split at h
    · cases h
    · rename_i vs ids h2;split at h
      · cases h
      · rename_i X h3;have hb:=(zaa h).1;replace h:=(zaa h).2;simp only [Option.some.injEq] at h;unfold pbind at h;split at h
        · rename_i Y hY;have hat:zfH s c.norm (vals++caps) d K=some (some q):=by
            unfold zfH;have e1:hndL s c.norm.sig.tys (c.norm.sig.slots.map (·.2)) (vals++caps) ([],[],[])=some (vs0,ids0,ln):=h1;rw [e1];simp only;have e2:mchE s c.norm.sig.ents (vs0,ids0)=some (vs,ids):=h2;rw [e2];simp only;have e3:finV c.norm.sig.tys vs=some X:=h3;rw [e3];simp only;have e4:(inOK c.norm ids ln && zrZ c.norm.out s.nxt ids && znU s c.norm.out ids)=true:=hb;rw [e4,cond_true];have e5:c.norm.den X=some Y:=by
              show (match c.den X with
                | some (.inl Y)=>some Y
                | _=>none)=some Y
              rw [hY]
            rw [e5];exact congrArg some h
          exact fun a w r=>Oper.wp_mono2 (fun a' w' ⟨⟨g1,_⟩,σ',⟨s',g2,g3,g4⟩,g5⟩=>⟨g1,s',g3,g4,by subst g2;exact g5⟩) (fun _ _ _ h=>h.elim) (zhJ hc.norm hd hlt ho hf hargs hrg hat a w r)
        · rename_i p hp;simp only [Bool.and_eq_true] at hb;obtain ⟨⟨hin,hout⟩,hleft⟩:=hb;simp only [inOK,Bool.and_eq_true] at hin;obtain ⟨⟨⟨⟨hcm,hdis⟩,hlnr⟩,hnd⟩,hflat⟩:=hin;simp only [znU,Bool.and_eq_true] at hleft;obtain ⟨hlow,hleft⟩:=hleft;have hvs:=ziz h3;have hmono:=zco h2;obtain ⟨_,hnd1⟩:=zgG hrg h1;have hagr:AgrA (vs0,ids0,ln) (Tup.get c.sig.tys X) ids ln:=⟨fun p hp=>hvs p (hmono.vs p hp),fun i o ho=>hmono.ids i o ho,fun _ h=>h⟩;have hC:=hnd1 _ ids ln hagr;rw [zmL,zc9] at hC;obtain ⟨ys,zs,hyz,hC1,hC2⟩:=zia hC;have hagrE:Agr (vs,ids) (Tup.get c.sig.tys X) false (toMp ids):=⟨hvs,fun i o ho => .inl (zhq ho)⟩;have hF:=hc.fp X p hp;have hnx:s.nxt<=LIM:=by
            simp only [zrZ,Bool.and_eq_true,zlW] at hout;have h1:=Nat.le_of_ble_eq_true hout.1.1.1.1.1.1.1.2;omega
          refine fun a w rl=>Oper.wp_mono2 (fun a' w' hh=>hh) (fun e a' w' hh => ?_) (ztx (F:=F) (T:=T) (N:=fun a' w'=>(∃ u,a'=a.put o.dst u)/\∃ s',Sfx s s'/\K s'=some q/\Rel F s'.st a' w') ids ⟨ln⟩ ho (zah hf) hc.call (fun i o hi => ?_) hcm (zm1 hargs hC1) hC2 (h:=hpSt (c.sig.heap X) (c.sig.rws X)) (zk9 hlow (zbW hcm) h2 hagrE rfl hnd) hnx (by rw [<- hyz];exact hF) a w rl)
          · obtain ⟨rfl,rfl,H,hr⟩:=hh;exact ⟨p,dropd s ids,rfl,Sfx.dropd s ids,h,H,(zq5 hlow).relH hr⟩
          · obtain ⟨_,o',g1,g2,⟨g3,rfl⟩ | ⟨g3,rfl⟩⟩:=zgM (zbW hcm) hi
            · rintro (hm | ⟨hm,_⟩)
              · have:=List.all_eq_true.1 hdis (_,o) (zak g1);simp at this;exact this hm
              · have:=((zbW hcm).key _ _ g1).2.2;omega
            · rintro (hm | ⟨_,hm⟩)
              · have:rid o' (i / RB - 1) < RB:=by simpa using List.all_eq_true.1 hlnr _ hm
                have:=zaP o' (i / RB - 1);omega
              · rw [zbc (((zbW hcm).key _ _ g1).2.2)] at hm;have:=List.all_eq_true.1 hdis (_,o') (zak g1);simp at this;exact this hm
        · cases h
theorem zfI {g:Nat} {vals:List EV} {d:Nat}:∀ {Γ:List CEp},zhe s g vals d K KP Γ=some q->∃ c∈Γ,c.f=g/\ziu s c vals d K KP=some (some q)
  | [],h=>by cases h
  | c::r,h=>by
    simp only [zhe] at h;cases hb:Nat.beq c.f g with
    | true=>
      rw [hb] at h;simp only [cond_true] at h;split at h
      · rename_i x hx;subst h;exact ⟨c,by simp,Nat.eq_of_beq_eq_true hb,hx⟩
      · obtain ⟨c',h1,h2⟩:=zfI h;exact ⟨c',by simp [h1],h2⟩
    | false=>
      rw [hb] at h;obtain ⟨c',h1,h2⟩:=zfI (show zhe s g vals d K KP r=some q from h);exact ⟨c',by simp [h1],h2⟩
def QP (T:Nat) (F:Fr) (s:ESt) (K:ESt->Option R) (KP:Int×Int->ESt->Option R) (q:R):Exit->Act->World->Prop:=fun e a w=>
  (e = .normal/\∃ s',Sfx s s'/\K s'=some q/\Rel F s'.st a w)\/∃ p s',e = .panic (pch T p)/\Sfx s s'/\KP p s'=some q/\Rel F s'.st a w
theorem QP.wide {s s':ESt} (h:Sfx s s') {e:Exit} {a:Act} {w:World} (hq:QP T F s' K KP q e a w):QP T F s K KP q e a w:=by
  rcases hq with ⟨h1,s1,h2,h3,h4⟩ | ⟨p,s1,h1,h2,h3,h4⟩
  · exact .inl ⟨h1,s1,h.trans h2,h3,h4⟩
  · exact .inr ⟨p,s1,h1,h.trans h2,h3,h4⟩
theorem zik {Q Q':Exit->Act->World->Prop} (hq:∀ e a w,Q e a w->Q' e a w):∀ (l:List Nat) (a:Act) (w:World),wpOps P ops Q l a w->wpOps P ops Q' l a w
  | [],a,w,h=>hq _ _ _ h
  | i::l,a,w,h=>by
    rw [wpOps_cons] at h ⊢;exact zhz hq (fun a w h=>zik hq l a w h) h
theorem zpk {o:Oper} (h:o.guard=none) {a:Act}:Region.wanted o (yielded ops a.tmps)=true:=by
  unfold Region.wanted;rw [h]
theorem zd2 {i:Nat} {Q:Exit->Act->World->Prop} {N:Act->World->Prop} {a:Act} {w:World} (hi:ops[i]? =some o) (hg:o.guard=none) (h:o.wp P a w N Q):wpOp P ops Q i N a w:=by
  unfold wpOp;simp only [hi];rw [if_pos (zpk hg)];exact .inl h
theorem ziv (hG:GPOK P T Γp) (h:zeW Γp s o K KP=some q):o.guard=none/\∀ (a:Act) (w:World),Rel F s.st a w->o.wp P a w (fun a' w'=>(∃ u,a'=a.put o.dst u)/\∃ s',Sfx s s'/\K s'=some q/\Rel F s'.st a' w')
      (fun e a' w'=>∃ p s',e = .panic (pch T p)/\Sfx s s'/\KP p s'=some q/\Rel F s'.st a' w'):=by
  unfold zeW at h;split at h
  · rename_i c d ho hd hg;obtain ⟨cal,args,ts⟩:=c;simp only at h;split at h
    · rename_i f;split at h
      · rename_i g caps hf;split at h
        · rename_i vals hv;have hb:=(zaa h).1;replace h:=(zaa h).2;obtain ⟨hrg,h⟩:=zm0 h;obtain ⟨c,hc,hcf,hat⟩:=zfI h;exact ⟨hg,zkZ (hG c hc) hd hb ho (by rw [hcf];exact hf) hv hrg hat⟩
        · cases h
      · cases h
    · cases h
  · cases h
theorem zr1 {x:Operand} {p:Int×Int} (h:payl s x=some p) {H:Hd} {a:Act} {w:World} (r:RelH F s.st H a w):a.eval x = .agg #[.int .i64 p.1,.int .i64 p.2]:=by
  unfold payl at h;split at h
  · rename_i y hx;cases h;have hv:=r.ev (zah hx);generalize a.eval x=v at hv;obtain ⟨⟨c,a',u⟩,u'⟩:=y;cases hv with
    | d _ _ hd=>
      have e:encD (.pair (.pair (.int .i64) (.pair (.int .i64) .unit)) .unit) ((c,a',u),u') = .agg [.lit (.int .i64 c),.lit (.int .i64 a')]:=rfl;rw [e] at hd;cases hd with
      | agg _ cs hs hr=>
        have h0:=hr 0 (by simp);have h1:=hr 1 (by simp);simp only [List.length_cons,List.length_nil] at hs;have e0:cs.getD 0 undef = .int .i64 c:=by
          generalize cs.getD 0 undef=z at h0;cases h0 with
          | lit=>rfl
        have e1:cs.getD 1 undef = .int .i64 a':=by
          generalize cs.getD 1 undef=z at h1;cases h1 with
          | lit=>rfl
        congr 1;apply Array.ext
        · simpa using hs
        · intro i hi1 hi2;have hi:i < 2:=by omega
          match i,hi with
          | 0,_=>simpa [Array.getD_eq_getD_getElem?, hi1] using e0
          | 1,_=>simpa [Array.getD_eq_getD_getElem?, hi1] using e1
  · cases h
theorem zmN (hT:TOK P TT) {i j:Nat} {o2:Oper} (hi:ops[i]? =some o) (hj:ops[j]? =some o2) (h:zoV TT T s o o2 KP=some q) {a:Act} {w:World} (r:Rel F s.st a w):wpOps P ops (QP T F s K KP q) [i,j] a w:=by
  unfold zoV at h;split at h
  · rename_i T' x d d' ho hd hg ho2 hg2
    first
    | skip
      have hb:=(zaa h).1;replace h:=(zaa h).2;simp only [Bool.and_eq_true] at hb;obtain ⟨⟨b1,b2⟩,b3⟩:=hb;have b1:=Nat.eq_of_beq_eq_true b1;have b2:=Nat.eq_of_beq_eq_true b2;subst b1;subst b2;split at h
      · rename_i t p ht hp;have hag:=(zaa h).1;replace h:=(zaa h).2;obtain ⟨z,hz,_⟩:=zaK hT ht;obtain ⟨dsc,hu,hda⟩:=hz.un;rw [hag] at hda;obtain ⟨H,r⟩:=r;have hv:=zr1 hp r;have hmk:(Instr.makeInterface T' (.agg #[.int .i64 p.1,.int .i64 p.2])).run P w = .ok (.iface T' (.agg #[.int .i64 p.1,.int .i64 p.2])) w:=by
          unfold Instr.makeInterface;rw [Sem.run_bind,run_underlying hu];cases dsc<;>first | rfl | cases hda
        rw [wpOps_cons];refine zd2 hi hg ?_;unfold Oper.wp;have e1:(execOp a.eval o).run P w = .ok (.value (.iface T' (.agg #[.int .i64 p.1,.int .i64 p.2]))) w:=by
          simp [execOp,ho,hv,hmk]
        rw [e1];show wpOps P ops (QP T' F s K KP q) [j] (a.put o.dst _) w;rw [wpOps_cons];refine zd2 hj hg2 ?_;have hlt:d < s.n:=by simpa using b3
        have hr':=(RelH.set r (d:=d) (x := .any) (v := .iface T' (.agg #[.int .i64 p.1,.int .i64 p.2])) (show d < s.st.n from hlt) (.any _));have hev:(a.put o.dst (.iface T' (.agg #[.int .i64 p.1,.int .i64 p.2]))).eval (.tmp d) = .iface T' (.agg #[.int .i64 p.1,.int .i64 p.2]):=by
          rw [hd];show (a.put (some d) _).tmps.getD d undef=_;rw [zmY (by rw [r.size];exact hlt),if_pos rfl]
        unfold Oper.wp;have e2:(execOp (a.put o.dst (.iface T' (.agg #[.int .i64 p.1,.int .i64 p.2]))).eval o2).run P w = .halt (.panic (.iface T' (.agg #[.int .i64 p.1,.int .i64 p.2]))) w:=by
          have hpn:(Instr.panic (.iface T' (.agg #[.int .i64 p.1,.int .i64 p.2]))).run P w = .halt (.panic (.iface T' (.agg #[.int .i64 p.1,.int .i64 p.2]))) w:=rfl;simp [execOp,ho2,hev,hpn]
        rw [e2];refine .inr ⟨p,s.set d .any,rfl,Sfx.set _ _ _,h,H,?_⟩;rw [hd];exact hr'
      · cases h
  · cases h
theorem zgr (hT:TOK P TT) (hG:GOK P Γ) (hGp:GPOK P T Γp) (hbo:Both bo):∀ (l:List (Nat×Nat)) (s:ESt),zjM TT Γ Γp T bo ops K KP l s=some q->∀ (a:Act) (w:World),Rel F s.st a w->wpOps P ops (QP T F s K KP q) (l.map (·.2)) a w
  | [],s,h,a,w,r => .inl ⟨rfl,s,Sfx.refl s,h,r⟩
  | (c,i)::r,s,h,a,w,rl=>by
    simp only [zjM] at h;split at h
    · cases h
    · rename_i o ho;have call:∀ s0,Sfx s s0->Rel F s0.st a w->zeW Γp s0 o (fun s'=>zjM TT Γ Γp T bo ops K KP r s') KP=some q->wpOps P ops (QP T F s K KP q) (((c,i)::r).map (·.2)) a w:=by
        intro s0 hs0 r0 h0;obtain ⟨hg,hw⟩:=ziv (F:=F) hGp h0;rw [List.map_cons,wpOps_cons];refine zd2 ho hg (Oper.wp_mono2 (fun a' w' ⟨_,s',g2,g3,g4⟩ => ?_) (fun e a' w' ⟨p,s',g1,g2,g3,g4⟩ => ?_) (hw a w r0))
        · exact zik (fun _ _ _=>QP.wide (hs0.trans g2)) _ _ _ (zgr hT hG hGp hbo r s' g3 a' w' g4)
        · exact .inr ⟨p,s',g1,hs0.trans g2,g3,g4⟩
      cases b5:Nat.beq c 5 with
      | true=>rw [b5,cond_true] at h;exact call s (Sfx.refl s) rl h
      | false=>
      rw [b5,cond_false] at h;cases b8:Nat.beq c 8 with
      | true=>
        rw [b8,cond_true] at h;obtain ⟨h1,h2⟩:=zpR TT s o;exact call _ h2 (h1.rel F a w rl) h
      | false=>
      rw [b8,cond_false] at h;cases b6:Nat.beq c 6 with
      | true=>
        rw [b6,cond_true] at h;split at h
        · rename_i j;split at h
          · rename_i o2 ho2;exact zmN hT ho ho2 h rl
          · cases h
        · cases h
      | false=>
      rw [b6,cond_false] at h;have hs:=zjF (Q:=QP T F s K KP q) ho (AO.single (zav (F:=F) hT hG hbo h) rl (K:=fun a' w'=>∃ s',Sfx s s'/\zjM TT Γ Γp T bo ops K KP r s'=some q/\Rel F s'.st a' w') (fun σ' a' w' ⟨s',h1,h2,h3⟩ r'=>by
        subst h1;exact ⟨s',h2,h3,r'⟩) (QP T F s K KP q))
      rw [List.map_cons,wpOps_cons];refine wpOp_mono (fun a' w' ⟨_,_,s',g2,g3,g4⟩ => ?_) hs;exact zik (fun _ _ _=>QP.wide g2) _ _ _ (zgr hT hG hGp hbo r s' g3 a' w' g4)
end
def evPP (TT:List TE) (Γ:List CE) (Γp:List CEp) (T:Nat) (bo:Option R->Option R->Option R) (ops:Array Oper) (K:ESt->Option R) (KP:Int×Int->Option R):OP->List Pn->Nat->Array Bool->ESt->Option R
  | .leaf,_,n,li,s=>match n with
    | 0=>bif (Region.ready .any ops li).isEmpty then K s else none
    | _=>none
  | .one i t,L,n,li,s=>match n,ops[i]? with
    | n+1,some o=>bif zdF o && Region.free .any ops li i && (Region.ready .any ops li).contains i && t.cov ops (li.setIfInBounds i true) then
        zcm TT Γ bo ops.toList [(0,o)] s fun s'=>bif L.all (pnOK TT ops s' 0 o) then evPP TT Γ Γp T bo ops K KP t L n (li.setIfInBounds i true) s' else none else none
    | _,_=>none
  | .rd k i W t,L,n,li,s=>match n,ops[i]? with
    | n+1,some o=>bif dB ops li [] i o W && rdOK TT k s o && t.cov ops (li.setIfInBounds i true) then
        zcm TT Γ bo ops.toList [(0,o)] s fun s'=>bif L.all (pnOK TT ops s' 0 o) && (!Nat.beq k 1 || fOK TT ops s' i) then evPP TT Γ Γp T bo ops K KP t ((k,i,W)::L) n (li.setIfInBounds i true) s' else none else none
    | _,_=>none
  | .alt c i t rest,L,n,li,s=>match n,ops[i]? with
    | m+1,some o=>bif t.cov ops (li.setIfInBounds i true) then
        let K1:ESt->Option R:=fun s'=>bif L.all (fun p=>p.2.2.contains i || pnOK TT ops s' c o p) then evPP TT Γ Γp T bo ops K KP t (L.filter fun p => !p.2.2.contains i) m (li.setIfInBounds i true) s' else none
        let one:Option R:=bif Nat.beq c 5 then zeW Γp s o K1 (fun p _=>KP p) else bif Nat.beq c 8 then zeW Γp (zqw TT s o) o K1 (fun p _=>KP p) else zcm TT Γ bo ops.toList [(c,o)] s K1
        match rest with
        | .stop=>one
        | _=>bo one (evPP TT Γ Γp T bo ops K KP rest L n li s)
      else none
    | _,_=>none
  | .frz k ty t,L,n,li,s=>evPP TT Γ Γp T bo ops K KP t L n li (s.prepF k ty)
  | .stop,_,_,_,_=>none
def ESt.blank (s:ESt):ESt:=⟨s.n,(s.slots.map fun p=>(p.1,EV.any))++s.slots,(s.heap.map fun p=>(p.1,none))++s.heap,s.nxt,(s.rws.map fun p=>(p.1,none))++s.rws⟩
theorem Sfx.blank (s:ESt):Sfx s s.blank:=⟨⟨_,rfl⟩,⟨_,rfl⟩,⟨_,rfl⟩,Nat.le_refl _,rfl⟩
theorem zli {β:Type} (v:β):∀ (l:List (Nat×β)) (k:Nat),look ((l.map fun p=>(p.1,v))++l) k=none\/look ((l.map fun p=>(p.1,v))++l) k=some v:=by
  intro l k;rw [zag];have key:∀ (l:List (Nat×β)),(look (l.map fun p=>(p.1,v)) k=some v)\/(look (l.map fun p=>(p.1,v)) k=none/\look l k=none):=by
    intro l;induction l with
    | nil=>exact .inr ⟨rfl,rfl⟩
    | cons y l ih=>
      obtain ⟨yk,yv⟩:=y;rw [List.map_cons,zae,zae];by_cases hy:yk=k
      · rw [if_pos hy];exact .inl rfl
      · rw [if_neg hy,if_neg hy];exact ih
  rcases key l with h | ⟨h1,h2⟩
  · rw [h];exact .inr rfl
  · rw [h1,h2];exact .inl rfl
theorem ze4 (s:ESt) (k:Nat):s.blank.st.ent k=none:=by
  rw [zao];show (match look ((s.heap.map fun p=>(p.1,(none:Option EEnt)))++s.heap) k with
    | some e=>e.map (EEnt.ent ((s.rws.map fun p=>(p.1,(none:Option RW)))++s.rws))
    | none=>zar ((s.rws.map fun p=>(p.1,(none:Option RW)))++s.rws) k)=none
  rcases zli (none:Option EEnt) s.heap k with h | h
  · rw [h];simp only;unfold zar;split
    · rcases zli (none:Option RW) s.rws (k % RB) with h | h
      · rw [h]
      · rw [h]
    · rfl
  · rw [h];rfl
theorem znr (s:ESt) {k:Nat} {x:AV} (h:s.blank.st.get k=some x):x = .any:=by
  rcases zli EV.any s.slots k with h1 | h1
  · exfalso;rw [zg6] at h;have h:(look ((s.slots.map fun p=>(p.1,EV.any))++s.slots) k).map EV.av=some x:=h;rw [h1] at h;cases h
  · rw [zg6] at h;have h:(look ((s.slots.map fun p=>(p.1,EV.any))++s.slots) k).map EV.av=some x:=h;rw [h1] at h;cases h;rfl
theorem zqP {F:Fr} {s0 s:ESt} {a:Act} {w:World} (hn:s.n=s0.n) (h:Rel F s.st a w):Rel F s0.blank.st a w:=by
  obtain ⟨H,r⟩:=h;refine ⟨fun id=>if pinB id=true then H id else none,r.size.trans hn,r.defs,r.os,r.tape,r.output,r.grow,r.keep,r.xlt,fun id _ h2 => ?_,fun id hp => ?_,fun id e he => ?_,fun id e v b he => ?_,fun id id' e e' v v' b he => ?_,fun k x hk => ?_⟩
  · show (if pinB id=true then H id else none)=none;rw [if_neg fun hp=>by have:=zfS hp;omega]
  · show (if pinB id=true then H id else none)=_;rw [if_pos hp];exact r.pin id hp
  · rw [ze4] at he;cases he
  · rw [ze4] at he;cases he
  · rw [ze4] at he;cases he
  · rw [znr _ hk];exact .any _
theorem zqO {F:Fr} {s0:ESt} {a:Act} {w:World} {d:Option Tmp} {v:Value} (h:Rel F s0.blank.st (a.put d v) w):Rel F s0.blank.st a w:=by
  obtain ⟨H,r⟩:=h;have e1:(a.put d v).tmps.size=a.tmps.size:=by cases d<;>simp [Act.put]
  have e2:(a.put d v).defers=a.defers:=by cases d<;>rfl
  refine ⟨H,e1 ▸ r.size,e2 ▸ r.defs,r.os,r.tape,r.output,r.grow,r.keep,r.xlt,r.fresh,r.pin,fun id e he => ?_,fun id e v b he => ?_,fun id id' e e' v v' b he => ?_,fun k x hk => ?_⟩
  · rw [ze4] at he;cases he
  · rw [ze4] at he;cases he
  · rw [ze4] at he;cases he
  · rw [znr _ hk];exact .any _
def QPP (T:Nat) (F:Fr) (s0 s:ESt) (K:ESt->Option R) (KP:Int×Int->Option R) (q:R):Exit->Act->World->Prop:=fun e a w=>
  QK F s K q e a w\/∃ p,e = .panic (pch T p)/\KP p=some q/\Rel F s0.blank.st a w
section
variable {P:Program} {TT:List TE} {Γ:List CE} {Γp:List CEp} {T:Nat} {bo:Option R->Option R->Option R} {F:Fr} {ops:Array Oper} {q:R} {K:ESt->Option R} {KP:Int×Int->Option R}
theorem QPP.wide {s0 s s':ESt} (h:Sfx s s') {e:Exit} {a:Act} {w:World} (hq:QPP T F s0 s' K KP q e a w):QPP T F s0 s K KP q e a w:=hq.imp (QK.wide h) id
theorem QPP.panic {s0 s:ESt} {d:Option Tmp} (v:Value):∀ c (a:Act) (w:World),QPP T F s0 s K KP q (.panic c) (a.put d v) w->QPP T F s0 s K KP q (.panic c) a w:=fun c a w h=>by
  rcases h with h | ⟨p,h1,h2,h3⟩
  · cases h.1
  · exact .inr ⟨p,h1,h2,zqO h3⟩
theorem QPP.frame {F':Fr} {s0 s:ESt} (hf:∀ σ a w,Rel F' σ a w->Rel F σ a w) {e:Exit} {a:Act} {w:World} (h:QPP T F' s0 s K KP q e a w):QPP T F s0 s K KP q e a w:=
  h.imp (QK.frame hf) fun ⟨p,h1,h2,h3⟩=>⟨p,h1,h2,hf _ _ _ h3⟩
theorem zdZ (hsel:Region.noSelect ops=true) (hT:TOK P TT) (hG:GOK P Γ) (hGp:GPOK P T Γp) (hbo:Both bo) {s0:ESt}:∀ (t:OP),
    (∀ (F:Fr) (LC:List (Pn×PD)) (n:Nat) (li:Array Bool) (s:ESt) (a:Act) (w:World),t.cov ops li=true->s.n=s0.n->evPP TT Γ Γp T bo ops K KP t (LC.map (·.1)) n li s=some q->Rel F s.st a w->(∀ c∈LC,PInv P F ops c.1 c.2 a w)->zb1 P ops (QPP T F s0 s K KP q) n (LC.map (·.2)) li a w)/\
    (∀ (F:Fr) (LC:List (Pn×PD)) (n:Nat) (li:Array Bool) (s:ESt) (a:Act) (w:World),s.n=s0.n->evPP TT Γ Γp T bo ops K KP t (LC.map (·.1)) (n+1) li s=some q->Rel F s.st a w->(∀ c∈LC,PInv P F ops c.1 c.2 a w)->∀ i∈t.alts,
      wpOp P ops (QPP T F s0 s K KP q) i (fun a' w'=>(∀ p∈LC.map (·.2),p.W i=false->p.J w')/\zb1 P ops (QPP T F s0 s K KP q) n ((LC.map (·.2)).filter fun p => !p.W i) (li.setIfInBounds i true) a' w') a w)
  | .leaf=>by
    refine ⟨fun F LC n li s a w _ hn h r hp => ?_,fun F LC n li s a w hn h r hp i hi=>by cases hi⟩;simp only [evPP] at h;split at h
    · have hb:=(zaa h).1;replace h:=(zaa h).2;exact ⟨by simpa using hb,.inl ⟨rfl,_,⟨s,rfl,Sfx.refl _,h⟩,r⟩⟩
    · cases h
  | .one i t=>by
    refine ⟨fun F LC n li s a w _ hn h r hp => ?_,fun F LC n li s a w hn h r hp i hi=>by cases hi⟩;simp only [evPP] at h;split at h
    · rename_i n o ho;have hb:=(zaa h).1;replace h:=(zaa h).2;simp only [Bool.and_eq_true] at hb;obtain ⟨⟨⟨hpu,hf⟩,hr⟩,hc⟩:=hb;have hs:=AO.single (zav (F:=F) hT hG hbo h) r (K:=KK F s (fun s'=>bif (LC.map (·.1)).all (pnOK TT ops s' 0 o) then evPP TT Γ Γp T bo ops K KP t (LC.map (·.1)) n (li.setIfInBounds i true) s' else none) q) (fun σ' a' w' ⟨s',h1,h2,h3⟩ r'=>by
        subst h1;exact ⟨s',h2,h3,r'⟩) (QPP T F s0 s K KP q)
      have hfr:=Region.free_spec ho hf;have hJ:∀ p∈LC.map (·.2),p.J w:=fun p hp'=>by
        obtain ⟨c,hc',rfl⟩:=List.mem_map.1 hp';exact (hp c hc').2.1
      have fin:∀ v,KK F s (fun s'=>bif (LC.map (·.1)).all (pnOK TT ops s' 0 o) then evPP TT Γ Γp T bo ops K KP t (LC.map (·.1)) n (li.setIfInBounds i true) s' else none) q (a.put o.dst v) w->zb1 P ops (QPP T F s0 s K KP q) n (LC.map (·.2)) (li.setIfInBounds i true) (a.put o.dst v) w:=fun v ⟨s',h2,h3,r'⟩=>by
        have hb:=(zaa h3).1;replace h3:=(zaa h3).2;refine zbC (fun _ _ _=>QPP.wide h2) _ _ _ _ _ ((zdZ hsel hT hG hGp hbo t).1 F LC n _ s' _ w hc (h2.n.trans hn) h3 r' fun c hc' => ?_);exact (hp c hc').step hsel hT ⟨v,rfl⟩ (fun _=>Ext.refl w) r' (List.all_eq_true.1 hb _ (List.mem_map.2 ⟨c,hc',rfl⟩))
      split at hs
      · rename_i hw;obtain ⟨v,hv,hk⟩:=hs;exact zf1 ho (Region.noSelect_spec hsel) (QPP.panic v) n _ li a w hfr (by simpa using hr) (.inl ⟨hw,fun w' _=>hv w' (.inl hpu)⟩) hJ (fin v hk)
      · rename_i hw;exact zf1 ho (Region.noSelect_spec hsel) (QPP.panic undef) n _ li a w hfr (by simpa using hr) (.inr ⟨by simpa using hw,rfl⟩) hJ (fin undef hs)
    · cases h
  | .rd k i W t=>by
    refine ⟨fun F LC n li s a w _ hn h r hp => ?_,fun F LC n li s a w hn h r hp i hi=>by cases hi⟩;simp only [evPP] at h;split at h
    · rename_i n o ho;have hb:=(zaa h).1;replace h:=(zaa h).2;simp only [Bool.and_eq_true] at hb;obtain ⟨⟨hd,hrd⟩,hc⟩:=hb;obtain ⟨_,hr,hW,hWl,hfr⟩:=zoD hd;obtain ⟨H,rH⟩:=r;obtain ⟨F',rH',hFF,hkeep⟩:=zr6 rH;have hp':∀ c∈LC,PInv P F' ops c.1 c.2 a w:=fun c hc'=>(hp c hc').frame hFF
      have hs:=AO.single (zav (F:=F') hT hG hbo h) ⟨H,rH'⟩ (K:=KK F' s (fun s'=>bif (LC.map (·.1)).all (pnOK TT ops s' 0 o) && (!Nat.beq k 1 || fOK TT ops s' i) then evPP TT Γ Γp T bo ops K KP t ((k,i,W)::LC.map (·.1)) n (li.setIfInBounds i true) s' else none) q) (fun σ' a' w' ⟨s',h1,h2,h3⟩ r'=>by
        subst h1;exact ⟨s',h2,h3,r'⟩) (QPP T F s0 s K KP q)
      have hJ:∀ p∈LC.map (·.2),p.J w:=fun p hp''=>by
        obtain ⟨c,hc',rfl⟩:=List.mem_map.1 hp'';exact (hp c hc').2.1
      have fin:∀ v,KK F' s (fun s'=>bif (LC.map (·.1)).all (pnOK TT ops s' 0 o) && (!Nat.beq k 1 || fOK TT ops s' i) then evPP TT Γ Γp T bo ops K KP t ((k,i,W)::LC.map (·.1)) n (li.setIfInBounds i true) s' else none) q (a.put o.dst v) w->
          ∀ J:World->Prop,YieldsIf P ops J o v a->(∀ s',Rel F' s'.st (a.put o.dst v) w->(!Nat.beq k 1 || fOK TT ops s' i)=true->PInv P F' ops (k,i,W) ⟨fun j=>W.contains j,J⟩ (a.put o.dst v) w)->zb1 P ops (QPP T F s0 s K KP q) (n+1) (LC.map (·.2)) li a w:=fun v ⟨s',h2,h3,r'⟩ J hy hpi=>by
        have hb:=(zaa h3).1;replace h3:=(zaa h3).2;rw [Bool.and_eq_true] at hb;have hpv:=hpi s' r' hb.2;have:=(zdZ hsel hT hG hGp hbo t).1 F' (((k,i,W),⟨fun j=>W.contains j,J⟩)::LC) n _ s' _ w hc (h2.n.trans hn) h3 r' fun c hc'=>by
          rcases List.mem_cons.1 hc' with rfl | hc'
          · exact hpv
          · exact (hp' c hc').step hsel hT ⟨v,rfl⟩ (fun _=>Ext.refl w) r' (List.all_eq_true.1 hb.1 _ (List.mem_map.2 ⟨c,hc',rfl⟩))
        exact zj4 ⟨fun j=>W.contains j,J⟩ ho (Region.noSelect_spec hsel) (QPP.panic v) hW n _ li a w hWl (fun j oj h1 h2 h3 h4=>(hfr j oj h1 h2 h3 h4).1) hr hy hpv.2.1 hJ
          (zbC (fun _ _ _ h=>(QPP.wide h2 h).frame hFF) _ _ _ _ _ this)
      split at hs
      · rename_i hw;obtain ⟨v,hv,hk⟩:=hs;by_cases h2k:2<=k
        · have hk2:k=2:=by
            unfold rdOK at hrd;split at hrd
            · omega
            · omega
            · rfl
            · cases hrd
          subst hk2;simp only [rdOK] at hrd;split at hrd
          · rename_i t' x hop;split at hrd
            · rename_i tx y hx;split at hrd
              · rename_i u hu;have:=Ty.eq_of_beq hrd;subst this;obtain ⟨z,hz,_⟩:=zaK hT hu;obtain ⟨b,v',hb,hv'⟩:=ziM (P:=P) rH hop (zah hx) (by
                  cases hag:u.agg with
                  | false=>
                    obtain ⟨d,hd,hda⟩:=hz.un;rw [hag] at hda;exact .inl ⟨zca hag y,d,hd,hda⟩
                  | true=>
                    rw [hag] at hz;exact .inr ⟨_,_,_,_,zbz hag y,hz,zau u y⟩)
                have e:v'=v:=by
                  have h1:=hv' w rfl;rw [hv w (.inr (Ext.refl w))] at h1;injection h1 with h1 _
                  injection h1 with h1
                  exact h1.symm
                subst e;exact fin v' hk (fun w'=>w'.heap[b]? =w.heap[b]?) (.inl ⟨hw,fun w' h=>hv' w' h⟩) fun s' r' _=>⟨rfl,rfl,.inr (.inr ⟨Nat.le_refl _,fun σ a' w' r''=>hkeep b hb σ a' w' r''⟩)⟩
              · cases hrd
            · cases hrd
          · cases hrd
        · refine fin v hk (fun w'=>(execOp a.eval o).run P w' = .ok (.value v) w') (.inl ⟨hw,fun w' h=>h⟩) fun s' r' hfo => ?_
          refine ⟨rfl,hv w (.inr (Ext.refl w)),?_⟩;by_cases hk0:k=0
          · exact .inl ⟨hk0,fun w' hx=>hv w' (.inr hx)⟩
          · have hk1:k=1:=by omega
            subst hk1;have hfo:fOK TT ops s' i=true:=by simpa using hfo
            obtain ⟨oi,d,g1,g2,g3,g4⟩:=zix hT hfo r';rw [ho] at g1;cases g1;have he:=execOp_put o (fun cs b=>Region.noSelect_spec hsel _ o cs b ho) a o.dst v (fun t ht=>by rw [g2] at ht;cases ht;exact g3);have e:(a.put o.dst v).tmps.getD d undef=v:=by
              rw [he,hv w (.inr (Ext.refl w))] at g4;injection g4 with g4 _
              injection g4 with g4
              exact g4.symm
            exact .inr (.inl ⟨rfl,o,d,ho,g2,fun w' h=>by rw [he,e] at h;exact h⟩)
      · rename_i hw;refine fin undef hs (fun _=>True) (.inr ⟨by simpa using hw,rfl⟩) fun s' r' hfo=>⟨rfl,trivial,?_⟩
        by_cases hk0:k=0
        · exact .inl ⟨hk0,fun _ _=>trivial⟩
        · by_cases hk1:k=1
          · subst hk1;have hfo:fOK TT ops s' i=true:=by simpa using hfo
            obtain ⟨oi,d,g1,g2,g3,g4⟩:=zix hT hfo r';exact .inr (.inl ⟨rfl,oi,d,g1,g2,fun _ _=>trivial⟩)
          · exact .inr (.inr ⟨by omega,fun _ _ _ _=>trivial⟩)
    · cases h
  | .frz k ty t=>by
    refine ⟨fun F LC n li s a w hc hn h r hp => ?_,fun F LC n li s a w hn h r hp i hi=>by cases hi⟩;simp only [evPP] at h;obtain ⟨hw,hs⟩:=zkA s k ty;exact zbC (fun _ _ _=>QPP.wide hs) _ _ _ _ _ ((zdZ hsel hT hG hGp hbo t).1 F LC n li _ a w hc (hs.n.trans hn) h (hw.rel F a w r) hp)
  | .stop=>by
    refine ⟨fun F LC n li s a w _ hn h r hp=>by simp [evPP] at h,fun F LC n li s a w hn h r hp i hi=>by cases hi⟩
  | .alt c i t rest=>by
    have hL:∀ (F:Fr) (LC:List (Pn×PD)) (n:Nat) (li:Array Bool) (s:ESt) (a:Act) (w:World),s.n=s0.n->evPP TT Γ Γp T bo ops K KP (.alt c i t rest) (LC.map (·.1)) (n+1) li s=some q->Rel F s.st a w->(∀ c∈LC,PInv P F ops c.1 c.2 a w)->∀ j∈(OP.alt c i t rest).alts,
        wpOp P ops (QPP T F s0 s K KP q) j (fun a' w'=>(∀ p∈LC.map (·.2),p.W j=false->p.J w')/\zb1 P ops (QPP T F s0 s K KP q) n ((LC.map (·.2)).filter fun p => !p.W j) (li.setIfInBounds j true) a' w') a w:=by
      intro F LC n li s a w hn h r hp j hj;simp only [evPP] at h;split at h
      · rename_i n' m o hn' ho;cases hn';have hc:=(zaa h).1;replace h:=(zaa h).2;generalize hK1:(fun s'=>bif (LC.map (·.1)).all (fun p=>p.2.2.contains i || pnOK TT ops s' c o p) then evPP TT Γ Γp T bo ops K KP t ((LC.map (·.1)).filter fun p => !p.2.2.contains i) n (li.setIfInBounds i true) s' else none)=K1 at h;generalize hone:(bif Nat.beq c 5 then zeW Γp s o K1 (fun p _=>KP p) else bif Nat.beq c 8 then zeW Γp (zqw TT s o) o K1 (fun p _=>KP p) else zcm TT Γ bo ops.toList [(c,o)] s K1)=one at h;have fin:∀ a' w',(∃ u,a'=a.put o.dst u)->(c<=1->Ext w w')->(∃ s',Sfx s s'/\K1 s'=some q/\Rel F s'.st a' w')->
            (∀ p∈LC.map (·.2),p.W i=false->p.J w')/\zb1 P ops (QPP T F s0 s K KP q) n ((LC.map (·.2)).filter fun p => !p.W i) (li.setIfInBounds i true) a' w':=by
          rintro a' w' hu hx ⟨s',h2,h3,r'⟩;subst hK1;have hb:=(zaa h3).1;replace h3:=(zaa h3).2;have hstep:∀ c'∈LC,c'.1.2.2.contains i=false->PInv P F ops c'.1 c'.2 a' w':=fun c' hc' hi=>by
            have:=List.all_eq_true.1 hb _ (List.mem_map.2 ⟨c',hc',rfl⟩);rw [hi,Bool.false_or] at this;exact (hp c' hc').step hsel hT hu hx r' this
          obtain ⟨f1,f2⟩:=zn6 (LC:=LC) (i:=i) fun c' hc'=>(hp c' hc').1
          refine ⟨fun p hp' hpi => ?_,?_⟩
          · obtain ⟨c',hc',rfl⟩:=List.mem_map.1 hp';exact (hstep c' hc' (by have:=(hp c' hc').1;rw [this] at hpi;exact hpi)).2.1
          · rw [f2];rw [f1] at h3;refine zbC (fun _ _ _=>QPP.wide h2) _ _ _ _ _ ((zdZ hsel hT hG hGp hbo t).1 F _ n _ s' a' w' hc (h2.n.trans hn) h3 r' fun c' hc' => ?_);rw [List.mem_filter] at hc';exact hstep c' hc'.1 (by simpa using hc'.2)
        have hon:one=some q->wpOp P ops (QPP T F s0 s K KP q) i (fun a' w'=>(∀ p∈LC.map (·.2),p.W i=false->p.J w')/\zb1 P ops (QPP T F s0 s K KP q) n ((LC.map (·.2)).filter fun p => !p.W i) (li.setIfInBounds i true) a' w') a w:=fun h1=>by
          have call:∀ s1,Sfx s s1->Rel F s1.st a w->2<=c->zeW Γp s1 o K1 (fun p _=>KP p)=some q->wpOp P ops (QPP T F s0 s K KP q) i (fun a' w'=>(∀ p∈LC.map (·.2),p.W i=false->p.J w')/\zb1 P ops (QPP T F s0 s K KP q) n ((LC.map (·.2)).filter fun p => !p.W i) (li.setIfInBounds i true) a' w') a w:=by
            intro s1 hs1 r1 hc2 h0;obtain ⟨hg,hw⟩:=ziv (F:=F) hGp h0;refine zd2 ho hg (Oper.wp_mono2 (fun a' w' ⟨hu,s',g2,g3,g4⟩ => ?_) (fun e a' w' ⟨p,s',g1,g2,g3,g4⟩ => ?_) (hw a w r1))
            · exact fin a' w' hu (fun hc1=>by omega) ⟨s',hs1.trans g2,g3,g4⟩
            · exact .inr ⟨p,g1,g3,zqP (by rw [g2.n,hs1.n,hn]) g4⟩
          subst hone;cases b5:Nat.beq c 5 with
          | true=>rw [b5,cond_true] at h1;exact call s (Sfx.refl s) r (by have:=Nat.eq_of_beq_eq_true b5;omega) h1
          | false=>
          rw [b5,cond_false] at h1;cases b8:Nat.beq c 8 with
          | true=>
            rw [b8,cond_true] at h1;obtain ⟨k1,k2⟩:=zpR TT s o;exact call _ k2 (k1.rel F a w r) (by have:=Nat.eq_of_beq_eq_true b8;omega) h1
          | false=>
          rw [b8,cond_false] at h1;have hs:=zjF ho (AO.single (zav (F:=F) hT hG hbo h1) r (K:=KK F s K1 q) (fun σ' a' w' ⟨s',h1,h2,h3⟩ r'=>by
            subst h1;exact ⟨s',h2,h3,r'⟩) (QPP T F s0 s K KP q))
          exact wpOp_mono (fun a' w' ⟨hu,hx,h5⟩=>fin a' w' hu hx h5) hs
        have hj':j=i\/j∈rest.alts:=by simpa [OP.alts] using hj
        split at h
        · rcases hj' with rfl | hj'
          · exact hon h
          · cases hj'
        · rcases hj' with rfl | hj'
          · exact hon (hbo.l h)
          · exact (zdZ hsel hT hG hGp hbo rest).2 F LC n li s a w hn (hbo.r h) r hp j hj'
      · cases h
    refine ⟨fun F LC n li s a w hcov hn h r hp => ?_,hL⟩;cases n with
    | zero=>simp only [evPP] at h;cases h
    | succ n=>
      simp only [OP.cov,Bool.and_eq_true] at hcov;refine ⟨fun hr => ?_,fun j hj => ?_⟩
      · rw [hr] at hcov;simp at hcov
      · have:=List.all_eq_true.1 hcov.2 j hj;exact hL F LC n li s a w hn h r hp j (by simpa using this)
end
end
end Go.Ab
