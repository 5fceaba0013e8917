import Derived.Test.YtajabcfngklacaaEv40n23
set_option linter.unusedVariables false
set_option linter.unusedSimpArgs false
set_option linter.unusedSectionVars false
namespace Go.Ab
noncomputable section
set_option linter.unusedVariables false
variable {R:Type}
def pch (T:Nat) (p:Int×Int):List PanicEntry:=[{ v := .iface T (.agg #[.int .i64 p.1,.int .i64 p.2]),recovered:=false }]
def dec (T:Nat):List PanicEntry->Option (Int×Int)
  | [⟨.iface u (.agg cs),false,false⟩]=>bif Nat.beq u T then (match cs.toList with
    | [.int .i64 a,.int .i64 b]=>some (a,b)
    | _=>none) else none
  | _=>none
theorem zAJ {T:Nat} {d:List PanicEntry} {p:Int×Int} (h:dec T d=some p):d=pch T p:=by
  unfold dec at h;split at h
  · rename_i u cs;have c:=(zad h).1;replace h:=(zad h).2;have c:=Nat.eq_of_beq_eq_true c;subst c;split at h
    · rename_i a b e;cases h;unfold pch;have:cs=#[.int .i64 a,.int .i64 b]:=by rw [<- Array.toArray_toList (xs:=cs),e]
      rw [this]
    · cases h
  · cases h
def FcP (P:Program) (f:FuncId) (args:List AV) (h:Hp) (T:Nat) (p:Int×Int):Prop:=
  ∀ (w:World) (X:Nat->Prop) (H:Hd) (vs:Array Value),(∀ b,X b->b < w.heap.size)->(∀ id,bs id < LIM->H id=none)->HOK X h H w->vs.size=args.length->
    (∀ i,i < args.length->VRel w (Sh X (zgK h) H w) H (args.getD i default) (vs.getD i undef))->
    Calls P f vs w (fun e w'=>e = .panicked (pch T p)/\
      (w'.os=w.os/\w'.tape=w.tape/\w'.output=w.output/\w.heap.size<=w'.heap.size)/\(∀ b,b < w.heap.size -> ¬ zml h H b->w'.heap[b]? =w.heap[b]?))
structure CEp where
  f:Nat
  sig:Shape
  out:Shape
  den:Tup sig.tys->Option (Tup out.tys⊕(Int×Int))
def CEp.norm (c:CEp):CE:=⟨c.f,c.sig,c.out,fun X=>match c.den X with
  | some (.inl Y)=>some Y
  | _=>none⟩
structure CEp.ok (P:Program) (T:Nat) (c:CEp):Prop where
  call:∀ (as:Array Value) (w:World),(callFunc c.f as).run P w = .ok (.enter c.f as) w
  fc:∀ X Y,c.den X=some (.inl Y)->Fc P c.f (EV.avL (c.sig.vals X)) (hpSt (c.sig.heap X) (c.sig.rws X)) (fun r h=>r=(retE (c.out.vals Y)).av/\h=hpSt (c.out.heap Y) (c.out.rws Y))
  fp:∀ X p,c.den X=some (.inr p)->FcP P c.f (EV.avL (c.sig.vals X)) (hpSt (c.sig.heap X) (c.sig.rws X)) T p
theorem CEp.ok.norm {P:Program} {T:Nat} {c:CEp} (h:c.ok P T):c.norm.ok P:=⟨h.call,fun X Y a=>by
  refine h.fc X Y ?_;have a:(match c.den X with
    | some (.inl Y)=>some Y
    | _=>none)=some Y:=a
  split at a
  · rename_i d b;cases a;exact b
  · cases a⟩
def GPOK (P:Program) (T:Nat) (Γ:List CEp):Prop:=∀ c∈Γ,c.ok P T
def pbind {A B:Type} (o:Option (A⊕(Int×Int))) (k:A->Option B) (a:Int×Int->Option B):Option B:=match o with
  | some (.inl y)=>k y
  | some (.inr p)=>a p
  | none=>none
def zyg (s:ESt) (a:Ids) (i:Nat):Bool:=match look s.heap i with
  | some (some (.box _ _)) => !(a.map (·.2)).contains i
  | _=>false
def dropd (s:ESt) (a:Ids):ESt:=⟨s.n,s.slots,((s.heap.map (·.1)).filter fun i => !zyg s a i).map (fun i=>(i,none))++s.heap,s.nxt,(s.rws.map fun p=>(p.1,none))++s.rws⟩
theorem Sfx.dropd (s:ESt) (a:Ids):Sfx s (dropd s a):=⟨⟨[],rfl⟩,⟨_,rfl⟩,⟨_,rfl⟩,Nat.le_refl _,rfl⟩
theorem zzY {β:Type} {l:List Nat} {k:Nat} {q:Option β} (h:look (l.map fun i=>(i,(none:Option β))) k=some q):q=none:=by
  obtain ⟨i,_,e⟩:=List.mem_map.1 (zaN h);cases e;rfl
theorem zqM {β:Type}:∀ {l:List Nat} {k:Nat},k∈l->look (l.map fun i=>(i,(none:Option β))) k=some none
  | i::l,k,h=>by
    rw [List.map_cons,zan];by_cases e:i=k
    · rw [if_pos e]
    · rw [if_neg e];rcases List.mem_cons.1 h with h | h
      · exact absurd h.symm e
      · exact zqM h
theorem zAL {s:ESt} {b:Ids} (g:s.low=true):Eqv (s.st.back b s.nxt (fun _=>none)) (dropd s b).st:=by
  refine ⟨rfl,rfl,fun k x A=>A,fun k e a => ?_⟩;rw [zbC] at a;show (if (b.any fun p=>Nat.beq p.2 (bs k))=true then none else s.st.ent k)=some e;have a:(match look (((s.heap.map (·.1)).filter fun i => !zyg s b i).map (fun i=>(i,(none:Option EEnt)))++s.heap) k with
    | some e=>e.map (EEnt.ent ((s.rws.map fun p=>(p.1,(none:Option RW)))++s.rws))
    | none=>zbi ((s.rws.map fun p=>(p.1,(none:Option RW)))++s.rws) k)=some e:=a
  rw [zao] at a;cases o:look (((s.heap.map (·.1)).filter fun i => !zyg s b i).map (fun i=>(i,(none:Option EEnt)))) k with
  | some q=>
    rw [o] at a;have:=zzY o;subst this;cases a
  | none=>
    rw [o] at a;simp only [Option.none_or] at a;cases f:look s.heap k with
    | some q=>
      rw [f] at a;simp only at a;have d:zyg s b k=true:=by
        cases C:zyg s b k with
        | true=>rfl
        | false=>
          have:k∈(s.heap.map (·.1)).filter fun i => !zyg s b i:=List.mem_filter.2 ⟨List.mem_map.2 ⟨_,zaN f,rfl⟩,by rw [C];rfl⟩
          rw [zqM this] at o;cases o
      have t:k < RB:=by
        have:=List.all_eq_true.1 g (k,q) (zaN f);simpa using this
      have B:=d;unfold zyg at d;rw [f] at d;cases q with
      | none=>cases a
      | some e0=>
        cases e0 with
        | box T c=>
          simp only [Bool.not_eq_true'] at d;rw [if_neg fun j=>by
            obtain ⟨p,D,v⟩:=List.any_eq_true.1 j;have:=Nat.eq_of_beq_eq_true v;rw [zuP t] at this;have:k∈b.map (·.2):=List.mem_map.2 ⟨p,D,this⟩;rw [List.contains_eq_mem] at d;simp [this] at d]
          have n:s.ent k=some (.box T c):=by unfold ESt.ent;rw [f]
          rw [zbw n,<- a];rfl
        | arr=>cases d
        | out=>cases d
        | outs=>cases d
    | none=>
      rw [f] at a;simp only at a;exfalso;unfold zbi at a;split at a
      · rw [zao] at a;cases r:look (s.rws.map fun p=>(p.1,(none:Option RW))) (k % RB) with
        | some q=>
          rw [r] at a;obtain ⟨p,_,e⟩:=List.mem_map.1 (zaN r);have:q=none:=(congrArg Prod.snd e).symm;subst this;cases a
        | none=>
          rw [r] at a;simp only [Option.none_or] at a;cases w:look s.rws (k % RB) with
          | none=>rw [w] at a;cases a
          | some q=>
            have u:∀ (l:List (Nat×Option RW)),look l (k % RB)=some q->look (l.map fun p=>(p.1,(none:Option RW))) (k % RB)≠none:=by
              intro l;induction l with
              | nil=>intro h;cases h
              | cons y l F=>
                intro h m;rw [List.map_cons,zan] at m;obtain ⟨E,H⟩:=y;rw [zan] at h;by_cases z:E=k % RB
                · rw [if_pos z] at m;cases m
                · rw [if_neg z] at m h;exact F h m
            exact u _ w r
      · cases a
def zqy (s:ESt) (c:CEp) (vals:List EV) (d:Nat) (K:ESt->Option R) (KP:Int×Int->ESt->Option R):Option (Option R):=
  match hndL s c.sig.tys (c.sig.slots.map (·.2)) vals ([],[],[]) with
  | none=>none
  | some (vs,ids,ln)=>match mchE s c.sig.ents (vs,ids) with
    | none=>none
    | some (vs,ids)=>match finV c.sig.tys vs with
      | none=>none
      | some X=>bif inOK c.norm ids ln && zBw c.out s.nxt ids && zxd s c.out ids then some (pbind (c.den X) (fun Y=>K (ztt s c.norm ids d Y)) (fun p=>KP p (dropd s ids))) else none
def zo4 (s:ESt) (g:Nat) (vals:List EV) (d:Nat) (K:ESt->Option R) (KP:Int×Int->ESt->Option R):List CEp->Option R
  | []=>none
  | c::r=>bif Nat.beq c.f g then (match zqy s c vals d K KP with
    | some x=>x
    | none=>zo4 s g vals d K KP r) else zo4 s g vals d K KP r
def zl9 (Γ:List CEp) (s:ESt) (o:Oper) (K:ESt->Option R) (KP:Int×Int->ESt->Option R):Option R:=match o.op,o.dst,o.guard with
  | .call c,some d,none=>match c.callee with
    | .value f=>match s.ev f with
      | some (.fn g caps)=>match zrv s c.args.toList with
        | some vals=>bif Nat.blt d s.n then grd (zu2 s (vals++caps)) (zo4 s g (vals++caps) d K KP Γ) else none
        | none=>none
      | _=>none
    | _=>none
  | _,_,_=>none
def zz9 (TT:List TE) (s:ESt) (o:Oper):ESt:=match o.op with
  | .call c=>match c.callee with
    | .value f=>ztO TT s f c.args.toList
    | _=>s
  | _=>s
theorem zzj (TT:List TE) (s:ESt) (o:Oper):Wk s (zz9 TT s o)/\Sfx s (zz9 TT s o):=by
  unfold zz9;split
  · split
    · exact zw8 TT s _ _
    · exact ⟨Wk.refl _,Sfx.refl _⟩
  · exact ⟨Wk.refl _,Sfx.refl _⟩
def payl (s:ESt) (x:Operand):Option (Int×Int):=match s.ev x with
  | some (.d (.pair (.pair (.int .i64) (.pair (.int .i64) .unit)) .unit) p)=>some (p.1.1,p.1.2.1)
  | _=>none
def zx9 (TT:List TE) (T:Nat) (s:ESt) (o a:Oper) (KP:Int×Int->ESt->Option R):Option R:=match o.op,o.dst,o.guard,a.op,a.guard with
  | .makeInterface T' x,some d,none,.panic (.tmp d'),none=>bif Nat.beq T' T && Nat.beq d d' && Nat.blt d s.n then (match tyT TT T,payl s x with
      | some t,some p=>bif t.agg then KP p (s.set d .any) else none
      | _,_=>none) else none
  | _,_,_,_,_=>none
def zsd (TT:List TE) (Γ:List CE) (Γp:List CEp) (T:Nat) (bo:Option R->Option R->Option R) (ops:Array Oper) (K:ESt->Option R) (KP:Int×Int->ESt->Option R):List (Nat×Nat)->ESt->Option R
  | [],s=>K s
  | (c,i)::r,s=>match ops[i]? with
    | none=>none
    | some o=>bif Nat.beq c 5 then zl9 Γp s o (fun a=>zsd TT Γ Γp T bo ops K KP r a) KP
      else bif Nat.beq c 8 then zl9 Γp (zz9 TT s o) o (fun a=>zsd TT Γ Γp T bo ops K KP r a) KP
      else bif Nat.beq c 6 then (match r with
        | [(_,j)]=>match ops[j]? with
          | some b=>zx9 TT T s o b KP
          | none=>none
        | _=>none)
      else zhq TT Γ bo ops.toList [(c,o)] s fun a=>zsd TT Γ Γp T bo ops K KP r a
section
variable {P:Program} {TT:List TE} {Γ:List CE} {Γp:List CEp} {T:Nat} {bo:Option R->Option R->Option R} {F:Fr} {ops:Array Oper} {q:R} {K:ESt->Option R} {KP:Int×Int->ESt->Option R} {s:ESt} {o:Oper}
theorem zDl {σ:St} {o:Oper} {f:Operand} {g:FuncId} {c:List AV} {args:Array Operand} {ts:Array TypeId} (cm:List (Nat×Nat)) (ln:LN) {as cs:List AV} {h:Hp} {p:Int×Int}
    (Z:o.op = .call { callee := .value f,args:=args,argTypes:=ts }) (hf:σ.ev f=some (.fn g c)) (n:∀ (as:Array Value) (w:World),(callFunc g as).run P w = .ok (.enter g as) w)
    (m:∀ i o,lkc cm i=some o->o∉ln) (s:cmOK cm=true) (t:zxJ σ cm ln args.toList as) (x:ztp σ cm ln c cs) (W:zpa cm σ h) (D:σ.nxt<=LIM)
    (E:FcP P g (as++cs) h T p) {N:Act->World->Prop}:
    ∀ (a:Act) (w:World),Rel F σ a w->o.wp P a w N (fun e a' w'=>e = .panic (pch T p)/\a'=a/\Rel F (σ.back cm σ.nxt (fun _=>none)) a w'):=by
  intro a w ⟨H,r⟩;obtain ⟨M,X⟩:=zy3 m r s W;obtain ⟨hl,O⟩:=t.rel r;obtain ⟨hcl,Q⟩:=x.rel;have z:=r.ev hf;obtain ⟨k,R,S,U⟩:∃ k:Array Value,a.eval f = .func (.func g) #[] k/\k.size=c.length/\∀ i,i < c.length->VRel w (Sh F.X σ.ent H w) H (c.getD i default) (k.getD i undef):=by
    generalize a.eval f=u at z;cases z with
    | fn _ _ k hs h=>exact ⟨k,rfl,hs,h⟩
  have d:(args.map a.eval).size=as.length:=by simpa using hl
  have hC:=E w (fun b=>F.X b\/∃ id e v,σ.ent id=some e/\H id=some v/\blk v=some b/\(∀ i,lkc cm i≠some id)/\id∉ln) (cmH cm H) (args.map a.eval++k)
    (fun b y=>by
      rcases y with y | ⟨id,e,v,C,L,h3,_⟩
      · have:=r.xlt b y;have:=r.grow;omega
      · obtain ⟨v',Y,h5⟩:=r.ent id e C;rw [L] at Y;cases Y;exact h5.lt h3)
    (fun id hid=>by
      unfold cmH;cases hc:lkc cm id with
      | none=>rfl
      | some q=>have:=(zor (zfY s) hc).1;omega)
    M (by simp only [Array.size_append,List.length_append,d,S,hcl]) (fun i hi=>by
      have hi':i < as.length+cs.length:=by simpa using hi
      by_cases C:i < as.length
      · have:=(O i C).mono (fun b y=>⟨X b y,rfl⟩) (fun _ _ h=>h);have I:(as++cs).getD i default=as.getD i default:=by simp only [List.getD_eq_getElem?_getD];rw [List.getElem?_append_left C]
        have J:(args.map a.eval++k).getD i undef=(args.toList.map a.eval).getD i undef:=by
          have:i < (args.map a.eval).size:=by omega
          simp only [Array.getD_eq_getD_getElem?, List.getD_eq_getElem?_getD,Array.getElem?_append_left this];rw [<- Array.toList_map,Array.getElem?_toList]
        rw [I,J];exact this
      · have L:i - as.length < c.length:=by omega
        have:=(Q (i - as.length) (by omega) F H a w r _ (U (i - as.length) L)).mono (fun b y=>⟨X b y,rfl⟩) (fun _ _ h=>h);have I:(as++cs).getD i default=cs.getD (i - as.length) default:=by simp only [List.getD_eq_getElem?_getD];rw [List.getElem?_append_right (by omega)]
        have J:(args.map a.eval++k).getD i undef=k.getD (i - as.length) undef:=by
          have:(args.map a.eval).size<=i:=by omega
          simp only [Array.getD_eq_getD_getElem?];rw [Array.getElem?_append_right this,d]
        rw [I,J];exact this)
  unfold Oper.wp;have A:(execOp a.eval o).run P w = .ok (.enter g (args.map a.eval++k)) w:=by
    simp [execOp,Z,resolve,R,Deferred.ofValue,invoke,n]
  rw [A];refine Calls.mono hC ?_;rintro e w' ⟨rfl,hos,hkeep⟩;refine ⟨rfl,rfl,?_⟩;have l:∀ i e,zgK (fun _=>(none:Option Ent)) i=some e->False:=fun i e h=>by cases h
  obtain ⟨V,B,_⟩:=r.callL (h':=fun _=>none) (H':=cmH cm H) (mp:=[]) (h'':=fun _=>none) (nxt':=σ.nxt) m s W hos hkeep
    ⟨fun i e h=>(l i e h).elim,fun i e v b h=>(l i e h).elim,fun i j e e' v v' b h=>(l i e h).elim⟩ (fun b ⟨i,e,v,h,_⟩=>(l i e h).elim) (fun _ _=>rfl) (fun _ j e h=>(l j e h).elim)
    (by simp [zu9,zcV,D]) (fun i e h=>by cases h)
  exact ⟨V,B⟩
theorem ztL {c:CEp} (O:c.ok P T) {f:Operand} {args:Array Operand} {ts:Array TypeId} {d:Nat} {vals g:List EV} (hd:o.dst=some d) (Q:Nat.blt d s.n=true)
    (C:o.op = .call { callee := .value f,args:=args,argTypes:=ts }) (hf:s.ev f=some (.fn c.f g)) (l:zrv s args.toList=some vals) (E:zvA (zu2 s (vals++g)))
    (h:zqy s c (vals++g) d K KP=some (some q)):
    ∀ (a:Act) (w:World),Rel F s.st a w->o.wp P a w (fun v w'=>(∃ u,v=a.put o.dst u)/\∃ k,Sfx s k/\K k=some q/\Rel F k.st v w')
      (fun e v w'=>∃ p k,e = .panic (pch T p)/\Sfx s k/\KP p k=some q/\Rel F k.st v w'):=by
  have h0:=h;unfold zqy at h;split at h
  · cases h
  · rename_i A m ln U;split at h
    · cases h
    · rename_i vs b V;split at h
      · cases h
      · rename_i X h3;have W:=(zad h).1;replace h:=(zad h).2;simp only [Option.some.injEq] at h;unfold pbind at h;split at h
        · rename_i Y hY;have Z:znc s c.norm (vals++g) d K=some (some q):=by
            unfold znc;have e1:hndL s c.norm.sig.tys (c.norm.sig.slots.map (·.2)) (vals++g) ([],[],[])=some (A,m,ln):=U;rw [e1];simp only;have e2:mchE s c.norm.sig.ents (A,m)=some (vs,b):=V;rw [e2];simp only;have e3:finV c.norm.sig.tys vs=some X:=h3;rw [e3];simp only;have e4:(inOK c.norm b ln && zBw c.norm.out s.nxt b && zxd s c.norm.out b)=true:=W;rw [e4,cond_true];have e5:c.norm.den X=some Y:=by
              show (match c.den X with
                | some (.inl Y)=>some Y
                | _=>none)=some Y
              rw [hY]
            rw [e5];exact congrArg some h
          exact fun a w r=>Oper.wp_mono2 (fun v w' ⟨⟨D,_⟩,σ',⟨k,g2,g3,g4⟩,g5⟩=>⟨D,k,g3,g4,by subst g2;exact g5⟩) (fun _ _ _ h=>h.elim) (zpC O.norm hd Q C hf l E Z a w r)
        · rename_i p R;simp only [Bool.and_eq_true] at W;obtain ⟨⟨L,x⟩,j⟩:=W;simp only [inOK,Bool.and_eq_true] at L;obtain ⟨⟨⟨⟨t,y⟩,hlnr⟩,hnd⟩,hflat⟩:=L;simp only [zxd,Bool.and_eq_true] at j;obtain ⟨z,j⟩:=j;have I:=zqD h3;have n:=zhs V;obtain ⟨_,M⟩:=zon E U;have J:AgrA (A,m,ln) (Tup.get c.sig.tys X) b ln:=⟨fun p R=>I p (n.vs p R),fun i o C=>n.ids i o C,fun _ h=>h⟩;have hC:=M _ b ln J;rw [zv0,zi2] at hC;obtain ⟨ys,zs,a1,a2,a3⟩:=zp8 hC;have B:Agr (vs,b) (Tup.get c.sig.tys X) false (toMp b):=⟨I,fun i o C => .inl (zph C)⟩;have hF:=O.fp X p R;have a0:s.nxt<=LIM:=by
            simp only [zBw,Bool.and_eq_true,zu9] at x;have U:=Nat.le_of_ble_eq_true x.1.1.1.1.1.1.1.2;omega
          refine fun a w rl=>Oper.wp_mono2 (fun v w' S=>S) (fun e v w' S => ?_) (zDl (F:=F) (T:=T) (N:=fun v w'=>(∃ u,v=a.put o.dst u)/\∃ k,Sfx s k/\K k=some q/\Rel F k.st v w') b ⟨ln⟩ C (za0 hf) O.call (fun i o hi => ?_) t (zwg l a2) a3 (h:=hpSt (c.sig.heap X) (c.sig.rws X)) (ztR z (zfY t) V B rfl hnd) a0 (by rw [<- a1];exact hF) a w rl)
          · obtain ⟨rfl,rfl,H,hr⟩:=S;exact ⟨p,dropd s b,rfl,Sfx.dropd s b,h,H,(zAL z).relH hr⟩
          · obtain ⟨_,o',D,g2,⟨g3,rfl⟩ | ⟨g3,rfl⟩⟩:=zor (zfY t) hi
            · rintro (hm | ⟨hm,_⟩)
              · have:=List.all_eq_true.1 y (_,o) (zaN D);simp at this;exact this hm
              · have:=((zfY t).key _ _ D).2.2;omega
            · rintro (hm | ⟨_,hm⟩)
              · have:rid o' (i / RB - 1) < RB:=by simpa using List.all_eq_true.1 hlnr _ hm
                have:=zdX o' (i / RB - 1);omega
              · rw [ze1 (((zfY t).key _ _ D).2.2)] at hm;have:=List.all_eq_true.1 y (_,o') (zaN D);simp at this;exact this hm
        · cases h
theorem znd {g:Nat} {vals:List EV} {d:Nat}:∀ {Γ:List CEp},zo4 s g vals d K KP Γ=some q->∃ c∈Γ,c.f=g/\zqy s c vals d K KP=some (some q)
  | [],h=>by cases h
  | c::r,h=>by
    simp only [zo4] at h;cases a:Nat.beq c.f g with
    | true=>
      rw [a] at h;simp only [cond_true] at h;split at h
      · rename_i x i;subst h;exact ⟨c,by simp,Nat.eq_of_beq_eq_true a,i⟩
      · obtain ⟨b,e,f⟩:=znd h;exact ⟨b,by simp [e],f⟩
    | false=>
      rw [a] at h;obtain ⟨b,e,f⟩:=znd (show zo4 s g vals d K KP r=some q from h);exact ⟨b,by simp [e],f⟩
def QP (T:Nat) (F:Fr) (s:ESt) (K:ESt->Option R) (KP:Int×Int->ESt->Option R) (q:R):Exit->Act->World->Prop:=fun e a w=>
  (e = .normal/\∃ b,Sfx s b/\K b=some q/\Rel F b.st a w)\/∃ p b,e = .panic (pch T p)/\Sfx s b/\KP p b=some q/\Rel F b.st a w
theorem QP.wide {s i:ESt} (h:Sfx s i) {e:Exit} {a:Act} {w:World} (j:QP T F i K KP q e a w):QP T F s K KP q e a w:=by
  rcases j with ⟨b,c,d,f,g⟩ | ⟨p,c,b,d,f,g⟩
  · exact .inl ⟨b,c,h.trans d,f,g⟩
  · exact .inr ⟨p,c,b,h.trans d,f,g⟩
theorem zqn {Q c:Exit->Act->World->Prop} (b:∀ e a w,Q e a w->c e a w):∀ (l:List Nat) (a:Act) (w:World),wpOps P ops Q l a w->wpOps P ops c l a w
  | [],a,w,h=>b _ _ _ h
  | i::l,a,w,h=>by
    rw [wpOps_cons] at h ⊢;exact zpm b (fun a w h=>zqn b l a w h) h
theorem zyP {o:Oper} (h:o.guard=none) {a:Act}:Region.wanted o (yielded ops a.tmps)=true:=by
  unfold Region.wanted;rw [h]
theorem zkJ {i:Nat} {Q:Exit->Act->World->Prop} {N:Act->World->Prop} {a:Act} {w:World} (b:ops[i]? =some o) (c:o.guard=none) (h:o.wp P a w N Q):wpOp P ops Q i N a w:=by
  unfold wpOp;simp only [b];rw [if_pos (zyP c)];exact .inl h
theorem zqz (n:GPOK P T Γp) (h:zl9 Γp s o K KP=some q):o.guard=none/\∀ (a:Act) (w:World),Rel F s.st a w->o.wp P a w (fun i w'=>(∃ u,i=a.put o.dst u)/\∃ b,Sfx s b/\K b=some q/\Rel F b.st i w')
      (fun e i w'=>∃ p b,e = .panic (pch T p)/\Sfx s b/\KP p b=some q/\Rel F b.st i w'):=by
  unfold zl9 at h;split at h
  · rename_i c d r t v;obtain ⟨A,args,ts⟩:=c;simp only at h;split at h
    · rename_i f;split at h
      · rename_i g m x;split at h
        · rename_i vals y;have z:=(zad h).1;replace h:=(zad h).2;obtain ⟨j,h⟩:=zwf h;obtain ⟨c,B,k,l⟩:=znd h;exact ⟨v,ztL (n c B) t z r (by rw [k];exact x) y j l⟩
        · cases h
      · cases h
    · cases h
  · cases h
theorem zBz {x:Operand} {p:Int×Int} (h:payl s x=some p) {H:Hd} {a:Act} {w:World} (r:RelH F s.st H a w):a.eval x = .agg #[.int .i64 p.1,.int .i64 p.2]:=by
  unfold payl at h;split at h
  · rename_i y n;cases h;have g:=r.ev (za0 n);generalize a.eval x=v at g;obtain ⟨⟨c,f,u⟩,u'⟩:=y;cases g with
    | d _ _ l=>
      have e:encD (.pair (.pair (.int .i64) (.pair (.int .i64) .unit)) .unit) ((c,f,u),u') = .agg [.lit (.int .i64 c),.lit (.int .i64 f)]:=rfl;rw [e] at l;cases l with
      | agg _ cs hs m=>
        have j:=m 0 (by simp);have k:=m 1 (by simp);simp only [List.length_cons,List.length_nil] at hs;have e0:cs.getD 0 undef = .int .i64 c:=by
          generalize cs.getD 0 undef=z at j;cases j with
          | lit=>rfl
        have q:cs.getD 1 undef = .int .i64 f:=by
          generalize cs.getD 1 undef=z at k;cases k with
          | lit=>rfl
        congr 1;apply Array.ext
        · simpa using hs
        · intro i b o;have t:i < 2:=by omega
          match i,t with
          | 0,_=>simpa [Array.getD_eq_getD_getElem?, b] using e0
          | 1,_=>simpa [Array.getD_eq_getD_getElem?, b] using q
  · cases h
theorem zv2 (D:TOK P TT) {i j:Nat} {f:Oper} (E:ops[i]? =some o) (I:ops[j]? =some f) (h:zx9 TT T s o f KP=some q) {a:Act} {w:World} (r:Rel F s.st a w):wpOps P ops (QP T F s K KP q) [i,j] a w:=by
  unfold zx9 at h;split at h
  · rename_i b x d V J B L g k
    first
    | skip
      have C:=(zad h).1;replace h:=(zad h).2;simp only [Bool.and_eq_true] at C;obtain ⟨⟨l,m⟩,b3⟩:=C;have l:=Nat.eq_of_beq_eq_true l;have m:=Nat.eq_of_beq_eq_true m;subst l;subst m;split at h
      · rename_i t p M N;have n:=(zad h).1;replace h:=(zad h).2;obtain ⟨z,S,_⟩:=zeD D M;obtain ⟨dsc,U,e⟩:=S.un;rw [n] at e;obtain ⟨H,r⟩:=r;have O:=zBz N r;have u:(Instr.makeInterface b (.agg #[.int .i64 p.1,.int .i64 p.2])).run P w = .ok (.iface b (.agg #[.int .i64 p.1,.int .i64 p.2])) w:=by
          unfold Instr.makeInterface;rw [Sem.run_bind,run_underlying U];cases dsc<;>first | rfl | cases e
        rw [wpOps_cons];refine zkJ E L ?_;unfold Oper.wp;have Q:(execOp a.eval o).run P w = .ok (.value (.iface b (.agg #[.int .i64 p.1,.int .i64 p.2]))) w:=by
          simp [execOp,J,O,u]
        rw [Q];show wpOps P ops (QP b F s K KP q) [j] (a.put o.dst _) w;rw [wpOps_cons];refine zkJ I k ?_;have c:d < s.n:=by simpa using b3
        have y:=(RelH.set r (d:=d) (x := .any) (v := .iface b (.agg #[.int .i64 p.1,.int .i64 p.2])) (show d < s.st.n from c) (.any _));have A:(a.put o.dst (.iface b (.agg #[.int .i64 p.1,.int .i64 p.2]))).eval (.tmp d) = .iface b (.agg #[.int .i64 p.1,.int .i64 p.2]):=by
          rw [B];show (a.put (some d) _).tmps.getD d undef=_;rw [zwe (by rw [r.size];exact c),if_pos rfl]
        unfold Oper.wp;have R:(execOp (a.put o.dst (.iface b (.agg #[.int .i64 p.1,.int .i64 p.2]))).eval f).run P w = .halt (.panic (.iface b (.agg #[.int .i64 p.1,.int .i64 p.2]))) w:=by
          have hpn:(Instr.panic (.iface b (.agg #[.int .i64 p.1,.int .i64 p.2]))).run P w = .halt (.panic (.iface b (.agg #[.int .i64 p.1,.int .i64 p.2]))) w:=rfl;simp [execOp,g,A,hpn]
        rw [R];refine .inr ⟨p,s.set d .any,rfl,Sfx.set _ _ _,h,H,?_⟩;rw [B];exact y
      · cases h
  · cases h
theorem zoi (n:TOK P TT) (t:GOK P Γ) (f:GPOK P T Γp) (g:Both bo):∀ (l:List (Nat×Nat)) (s:ESt),zsd TT Γ Γp T bo ops K KP l s=some q->∀ (a:Act) (w:World),Rel F s.st a w->wpOps P ops (QP T F s K KP q) (l.map (·.2)) a w
  | [],s,h,a,w,r => .inl ⟨rfl,s,Sfx.refl s,h,r⟩
  | (c,i)::r,s,h,a,w,rl=>by
    simp only [zsd] at h;split at h
    · cases h
    · rename_i o u;have d:∀ s0,Sfx s s0->Rel F s0.st a w->zl9 Γp s0 o (fun b=>zsd TT Γ Γp T bo ops K KP r b) KP=some q->wpOps P ops (QP T F s K KP q) (((c,i)::r).map (·.2)) a w:=by
        intro s0 m C D;obtain ⟨E,H⟩:=zqz (F:=F) f D;rw [List.map_cons,wpOps_cons];refine zkJ u E (Oper.wp_mono2 (fun k w' ⟨_,b,g2,g3,g4⟩ => ?_) (fun e k w' ⟨p,b,g1,g2,g3,g4⟩ => ?_) (H a w C))
        · exact zqn (fun _ _ _=>QP.wide (m.trans g2)) _ _ _ (zoi n t f g r b g3 k w' g4)
        · exact .inr ⟨p,b,g1,m.trans g2,g3,g4⟩
      cases z:Nat.beq c 5 with
      | true=>rw [z,cond_true] at h;exact d s (Sfx.refl s) rl h
      | false=>
      rw [z,cond_false] at h;cases A:Nat.beq c 8 with
      | true=>
        rw [A,cond_true] at h;obtain ⟨x,y⟩:=zzj TT s o;exact d _ y (x.rel F a w rl) h
      | false=>
      rw [A,cond_false] at h;cases B:Nat.beq c 6 with
      | true=>
        rw [B,cond_true] at h;split at h
        · rename_i j;split at h
          · rename_i I v;exact zv2 n u v h rl
          · cases h
        · cases h
      | false=>
      rw [B,cond_false] at h;have hs:=zr1 (Q:=QP T F s K KP q) u (AO.single (zbc (F:=F) n t g h) rl (K:=fun k w'=>∃ b,Sfx s b/\zsd TT Γ Γp T bo ops K KP r b=some q/\Rel F b.st k w') (fun σ' k w' ⟨b,x,y,h3⟩ r'=>by
        subst x;exact ⟨b,y,h3,r'⟩) (QP T F s K KP q))
      rw [List.map_cons,wpOps_cons];refine wpOp_mono (fun k w' ⟨_,_,b,g2,g3,g4⟩ => ?_) hs;exact zqn (fun _ _ _=>QP.wide g2) _ _ _ (zoi n t f g r b g3 k w' g4)
end
def evPP (TT:List TE) (Γ:List CE) (Γp:List CEp) (T:Nat) (bo:Option R->Option R->Option R) (ops:Array Oper) (K:ESt->Option R) (KP:Int×Int->Option R):OP->List Pn->Nat->Array Bool->ESt->Option R
  | .leaf,_,n,li,s=>match n with
    | 0=>bif (Region.ready .any ops li).isEmpty then K s else none
    | _=>none
  | .one i t,L,n,li,s=>match n,ops[i]? with
    | n+1,some o=>bif zmx o && Region.free .any ops li i && (Region.ready .any ops li).contains i && t.cov ops (li.setIfInBounds i true) then
        zhq TT Γ bo ops.toList [(0,o)] s fun a=>bif L.all (pnOK TT ops a 0 o) then evPP TT Γ Γp T bo ops K KP t L n (li.setIfInBounds i true) a else none else none
    | _,_=>none
  | .rd k i W t,L,n,li,s=>match n,ops[i]? with
    | n+1,some o=>bif dB ops li [] i o W && rdOK TT k s o && t.cov ops (li.setIfInBounds i true) then
        zhq TT Γ bo ops.toList [(0,o)] s fun a=>bif L.all (pnOK TT ops a 0 o) && (!Nat.beq k 1 || fOK TT ops a i) then evPP TT Γ Γp T bo ops K KP t ((k,i,W)::L) n (li.setIfInBounds i true) a else none else none
    | _,_=>none
  | .alt c i t rest,L,n,li,s=>match n,ops[i]? with
    | m+1,some o=>bif t.cov ops (li.setIfInBounds i true) then
        let K1:ESt->Option R:=fun a=>bif L.all (fun p=>p.2.2.contains i || pnOK TT ops a c o p) then evPP TT Γ Γp T bo ops K KP t (L.filter fun p => !p.2.2.contains i) m (li.setIfInBounds i true) a else none
        let one:Option R:=bif Nat.beq c 5 then zl9 Γp s o K1 (fun p _=>KP p) else bif Nat.beq c 8 then zl9 Γp (zz9 TT s o) o K1 (fun p _=>KP p) else zhq TT Γ bo ops.toList [(c,o)] s K1
        match rest with
        | .stop=>one
        | _=>bo one (evPP TT Γ Γp T bo ops K KP rest L n li s)
      else none
    | _,_=>none
  | .frz k ty t,L,n,li,s=>evPP TT Γ Γp T bo ops K KP t L n li (s.prepF k ty)
  | .stop,_,_,_,_=>none
def ESt.blank (s:ESt):ESt:=⟨s.n,(s.slots.map fun p=>(p.1,EV.any))++s.slots,(s.heap.map fun p=>(p.1,none))++s.heap,s.nxt,(s.rws.map fun p=>(p.1,none))++s.rws⟩
theorem Sfx.blank (s:ESt):Sfx s s.blank:=⟨⟨_,rfl⟩,⟨_,rfl⟩,⟨_,rfl⟩,Nat.le_refl _,rfl⟩
theorem zt1 {β:Type} (v:β):∀ (l:List (Nat×β)) (k:Nat),look ((l.map fun p=>(p.1,v))++l) k=none\/look ((l.map fun p=>(p.1,v))++l) k=some v:=by
  intro l k;rw [zao];have a:∀ (l:List (Nat×β)),(look (l.map fun p=>(p.1,v)) k=some v)\/(look (l.map fun p=>(p.1,v)) k=none/\look l k=none):=by
    intro l;induction l with
    | nil=>exact .inr ⟨rfl,rfl⟩
    | cons y l d=>
      obtain ⟨c,e⟩:=y;rw [List.map_cons,zan,zan];by_cases b:c=k
      · rw [if_pos b];exact .inl rfl
      · rw [if_neg b,if_neg b];exact d
  rcases a l with h | ⟨h1,h2⟩
  · rw [h];exact .inr rfl
  · rw [h1,h2];exact .inl rfl
theorem zmo (s:ESt) (k:Nat):s.blank.st.ent k=none:=by
  rw [zbC];show (match look ((s.heap.map fun p=>(p.1,(none:Option EEnt)))++s.heap) k with
    | some e=>e.map (EEnt.ent ((s.rws.map fun p=>(p.1,(none:Option RW)))++s.rws))
    | none=>zbi ((s.rws.map fun p=>(p.1,(none:Option RW)))++s.rws) k)=none
  rcases zt1 (none:Option EEnt) s.heap k with h | h
  · rw [h];simp only;unfold zbi;split
    · rcases zt1 (none:Option RW) s.rws (k % RB) with h | h
      · rw [h]
      · rw [h]
    · rfl
  · rw [h];rfl
theorem zwN (s:ESt) {k:Nat} {x:AV} (h:s.blank.st.get k=some x):x = .any:=by
  rcases zt1 EV.any s.slots k with h1 | h1
  · exfalso;rw [zoN] at h;have h:(look ((s.slots.map fun p=>(p.1,EV.any))++s.slots) k).map EV.av=some x:=h;rw [h1] at h;cases h
  · rw [zoN] at h;have h:(look ((s.slots.map fun p=>(p.1,EV.any))++s.slots) k).map EV.av=some x:=h;rw [h1] at h;cases h;rfl
theorem zAu {F:Fr} {s0 s:ESt} {a:Act} {w:World} (f:s.n=s0.n) (h:Rel F s.st a w):Rel F s0.blank.st a w:=by
  obtain ⟨H,r⟩:=h;refine ⟨fun id=>if pinB id=true then H id else none,r.size.trans f,r.defs,r.os,r.tape,r.output,r.grow,r.keep,r.xlt,fun id _ j => ?_,fun id d => ?_,fun id e c => ?_,fun id e v b c => ?_,fun id g e e' v l b c => ?_,fun k x i => ?_⟩
  · show (if pinB id=true then H id else none)=none;rw [if_neg fun d=>by have:=zoy d;omega]
  · show (if pinB id=true then H id else none)=_;rw [if_pos d];exact r.pin id d
  · rw [zmo] at c;cases c
  · rw [zmo] at c;cases c
  · rw [zmo] at c;cases c
  · rw [zwN _ i];exact .any _
theorem zAt {F:Fr} {s0:ESt} {a:Act} {w:World} {d:Option Tmp} {v:Value} (h:Rel F s0.blank.st (a.put d v) w):Rel F s0.blank.st a w:=by
  obtain ⟨H,r⟩:=h;have i:(a.put d v).tmps.size=a.tmps.size:=by cases d<;>simp [Act.put]
  have j:(a.put d v).defers=a.defers:=by cases d<;>rfl
  refine ⟨H,i ▸ r.size,j ▸ r.defs,r.os,r.tape,r.output,r.grow,r.keep,r.xlt,r.fresh,r.pin,fun id e c => ?_,fun id e v b c => ?_,fun id f e e' v l b c => ?_,fun k x g => ?_⟩
  · rw [zmo] at c;cases c
  · rw [zmo] at c;cases c
  · rw [zmo] at c;cases c
  · rw [zwN _ g];exact .any _
def QPP (T:Nat) (F:Fr) (s0 s:ESt) (K:ESt->Option R) (KP:Int×Int->Option R) (q:R):Exit->Act->World->Prop:=fun e a w=>
  QK F s K q e a w\/∃ p,e = .panic (pch T p)/\KP p=some q/\Rel F s0.blank.st a w
section
variable {P:Program} {TT:List TE} {Γ:List CE} {Γp:List CEp} {T:Nat} {bo:Option R->Option R->Option R} {F:Fr} {ops:Array Oper} {q:R} {K:ESt->Option R} {KP:Int×Int->Option R}
theorem QPP.wide {s0 s b:ESt} (h:Sfx s b) {e:Exit} {a:Act} {w:World} (c:QPP T F s0 b K KP q e a w):QPP T F s0 s K KP q e a w:=c.imp (QK.wide h) id
theorem QPP.panic {s0 s:ESt} {d:Option Tmp} (v:Value):∀ c (a:Act) (w:World),QPP T F s0 s K KP q (.panic c) (a.put d v) w->QPP T F s0 s K KP q (.panic c) a w:=fun c a w h=>by
  rcases h with h | ⟨p,h1,h2,h3⟩
  · cases h.1
  · exact .inr ⟨p,h1,h2,zAt h3⟩
theorem QPP.frame {b:Fr} {s0 s:ESt} (c:∀ σ a w,Rel b σ a w->Rel F σ a w) {e:Exit} {a:Act} {w:World} (h:QPP T b s0 s K KP q e a w):QPP T F s0 s K KP q e a w:=
  h.imp (QK.frame c) fun ⟨p,h1,h2,h3⟩=>⟨p,h1,h2,c _ _ _ h3⟩
theorem zkH (l:Region.noSelect ops=true) (S:TOK P TT) (hG:GOK P Γ) (X:GPOK P T Γp) (I:Both bo) {s0:ESt}:∀ (t:OP),
    (∀ (F:Fr) (LC:List (Pn×PD)) (n:Nat) (A:Array Bool) (s:ESt) (a:Act) (w:World),t.cov ops A=true->s.n=s0.n->evPP TT Γ Γp T bo ops K KP t (LC.map (·.1)) n A s=some q->Rel F s.st a w->(∀ c∈LC,PInv P F ops c.1 c.2 a w)->zgB P ops (QPP T F s0 s K KP q) n (LC.map (·.2)) A a w)/\
    (∀ (F:Fr) (LC:List (Pn×PD)) (n:Nat) (A:Array Bool) (s:ESt) (a:Act) (w:World),s.n=s0.n->evPP TT Γ Γp T bo ops K KP t (LC.map (·.1)) (n+1) A s=some q->Rel F s.st a w->(∀ c∈LC,PInv P F ops c.1 c.2 a w)->∀ i∈t.alts,
      wpOp P ops (QPP T F s0 s K KP q) i (fun B w'=>(∀ p∈LC.map (·.2),p.W i=false->p.J w')/\zgB P ops (QPP T F s0 s K KP q) n ((LC.map (·.2)).filter fun p => !p.W i) (A.setIfInBounds i true) B w') a w)
  | .leaf=>by
    refine ⟨fun F LC n A s a w _ N h r L => ?_,fun F LC n A s a w N h r L i hi=>by cases hi⟩;simp only [evPP] at h;split at h
    · have O:=(zad h).1;replace h:=(zad h).2;exact ⟨by simpa using O,.inl ⟨rfl,_,⟨s,rfl,Sfx.refl _,h⟩,r⟩⟩
    · cases h
  | .one i t=>by
    refine ⟨fun F LC n A s a w _ N h r L => ?_,fun F LC n A s a w N h r L i hi=>by cases hi⟩;simp only [evPP] at h;split at h
    · rename_i n o ho;have O:=(zad h).1;replace h:=(zad h).2;simp only [Bool.and_eq_true] at O;obtain ⟨⟨⟨hpu,hf⟩,hr⟩,hc⟩:=O;have hs:=AO.single (zbc (F:=F) S hG I h) r (K:=KK F s (fun g=>bif (LC.map (·.1)).all (pnOK TT ops g 0 o) then evPP TT Γ Γp T bo ops K KP t (LC.map (·.1)) n (A.setIfInBounds i true) g else none) q) (fun σ' B w' ⟨g,E,Q,C⟩ M=>by
        subst E;exact ⟨g,Q,C,M⟩) (QPP T F s0 s K KP q)
      have hfr:=Region.free_spec ho hf;have hJ:∀ p∈LC.map (·.2),p.J w:=fun p hp'=>by
        obtain ⟨c,f,rfl⟩:=List.mem_map.1 hp';exact (L c f).2.1
      have fin:∀ v,KK F s (fun g=>bif (LC.map (·.1)).all (pnOK TT ops g 0 o) then evPP TT Γ Γp T bo ops K KP t (LC.map (·.1)) n (A.setIfInBounds i true) g else none) q (a.put o.dst v) w->zgB P ops (QPP T F s0 s K KP q) n (LC.map (·.2)) (A.setIfInBounds i true) (a.put o.dst v) w:=fun v ⟨g,Q,C,M⟩=>by
        have O:=(zad C).1;replace C:=(zad C).2;refine zeW (fun _ _ _=>QPP.wide Q) _ _ _ _ _ ((zkH l S hG X I t).1 F LC n _ g _ w hc (Q.n.trans N) C M fun c f => ?_);exact (L c f).step l S ⟨v,rfl⟩ (fun _=>Ext.refl w) M (List.all_eq_true.1 O _ (List.mem_map.2 ⟨c,f,rfl⟩))
      split at hs
      · rename_i hw;obtain ⟨v,hv,hk⟩:=hs;exact znw ho (Region.noSelect_spec l) (QPP.panic v) n _ A a w hfr (by simpa using hr) (.inl ⟨hw,fun w' _=>hv w' (.inl hpu)⟩) hJ (fin v hk)
      · rename_i hw;exact znw ho (Region.noSelect_spec l) (QPP.panic undef) n _ A a w hfr (by simpa using hr) (.inr ⟨by simpa using hw,rfl⟩) hJ (fin undef hs)
    · cases h
  | .rd k i W t=>by
    refine ⟨fun F LC n A s a w _ N h r L => ?_,fun F LC n A s a w N h r L i hi=>by cases hi⟩;simp only [evPP] at h;split at h
    · rename_i n o ho;have O:=(zad h).1;replace h:=(zad h).2;simp only [Bool.and_eq_true] at O;obtain ⟨⟨hd,D⟩,hc⟩:=O;obtain ⟨_,hr,hW,hWl,hfr⟩:=zxW hd;obtain ⟨H,rH⟩:=r;obtain ⟨F',rH',hFF,hkeep⟩:=zBK rH;have hp':∀ c∈LC,PInv P F' ops c.1 c.2 a w:=fun c f=>(L c f).frame hFF
      have hs:=AO.single (zbc (F:=F') S hG I h) ⟨H,rH'⟩ (K:=KK F' s (fun g=>bif (LC.map (·.1)).all (pnOK TT ops g 0 o) && (!Nat.beq k 1 || fOK TT ops g i) then evPP TT Γ Γp T bo ops K KP t ((k,i,W)::LC.map (·.1)) n (A.setIfInBounds i true) g else none) q) (fun σ' B w' ⟨g,E,Q,C⟩ M=>by
        subst E;exact ⟨g,Q,C,M⟩) (QPP T F s0 s K KP q)
      have hJ:∀ p∈LC.map (·.2),p.J w:=fun p hp''=>by
        obtain ⟨c,f,rfl⟩:=List.mem_map.1 hp'';exact (L c f).2.1
      have fin:∀ v,KK F' s (fun g=>bif (LC.map (·.1)).all (pnOK TT ops g 0 o) && (!Nat.beq k 1 || fOK TT ops g i) then evPP TT Γ Γp T bo ops K KP t ((k,i,W)::LC.map (·.1)) n (A.setIfInBounds i true) g else none) q (a.put o.dst v) w->
          ∀ J:World->Prop,YieldsIf P ops J o v a->(∀ g,Rel F' g.st (a.put o.dst v) w->(!Nat.beq k 1 || fOK TT ops g i)=true->PInv P F' ops (k,i,W) ⟨fun j=>W.contains j,J⟩ (a.put o.dst v) w)->zgB P ops (QPP T F s0 s K KP q) (n+1) (LC.map (·.2)) A a w:=fun v ⟨g,Q,C,M⟩ J hy hpi=>by
        have O:=(zad C).1;replace C:=(zad C).2;rw [Bool.and_eq_true] at O;have hpv:=hpi g M O.2;have:=(zkH l S hG X I t).1 F' (((k,i,W),⟨fun j=>W.contains j,J⟩)::LC) n _ g _ w hc (Q.n.trans N) C M fun c f=>by
          rcases List.mem_cons.1 f with rfl | f
          · exact hpv
          · exact (hp' c f).step l S ⟨v,rfl⟩ (fun _=>Ext.refl w) M (List.all_eq_true.1 O.1 _ (List.mem_map.2 ⟨c,f,rfl⟩))
        exact zsJ ⟨fun j=>W.contains j,J⟩ ho (Region.noSelect_spec l) (QPP.panic v) hW n _ A a w hWl (fun j oj E Q C h4=>(hfr j oj E Q C h4).1) hr hy hpv.2.1 hJ
          (zeW (fun _ _ _ h=>(QPP.wide Q h).frame hFF) _ _ _ _ _ this)
      split at hs
      · rename_i hw;obtain ⟨v,hv,hk⟩:=hs;by_cases h2k:2<=k
        · have hk2:k=2:=by
            unfold rdOK at D;split at D
            · omega
            · omega
            · rfl
            · cases D
          subst hk2;simp only [rdOK] at D;split at D
          · rename_i t' x hop;split at D
            · rename_i tx y hx;split at D
              · rename_i u hu;have:=Ty.eq_of_beq D;subst this;obtain ⟨z,hz,_⟩:=zeD S hu;obtain ⟨b,v',O,hv'⟩:=zqK (P:=P) rH hop (za0 hx) (by
                  cases hag:u.agg with
                  | false=>
                    obtain ⟨d,hd,hda⟩:=hz.un;rw [hag] at hda;exact .inl ⟨ziq hag y,d,hd,hda⟩
                  | true=>
                    rw [hag] at hz;exact .inr ⟨_,_,_,_,zfi hag y,hz,zbg u y⟩)
                have e:v'=v:=by
                  have E:=hv' w rfl;rw [hv w (.inr (Ext.refl w))] at E;injection E with E _
                  injection E with E
                  exact E.symm
                subst e;exact fin v' hk (fun w'=>w'.heap[b]? =w.heap[b]?) (.inl ⟨hw,fun w' h=>hv' w' h⟩) fun g M _=>⟨rfl,rfl,.inr (.inr ⟨Nat.le_refl _,fun σ B w' r''=>hkeep b O σ B w' r''⟩)⟩
              · cases D
            · cases D
          · cases D
        · refine fin v hk (fun w'=>(execOp a.eval o).run P w' = .ok (.value v) w') (.inl ⟨hw,fun w' h=>h⟩) fun g M R => ?_
          refine ⟨rfl,hv w (.inr (Ext.refl w)),?_⟩;by_cases hk0:k=0
          · exact .inl ⟨hk0,fun w' hx=>hv w' (.inr hx)⟩
          · have hk1:k=1:=by omega
            subst hk1;have R:fOK TT ops g i=true:=by simpa using R
            obtain ⟨oi,d,g1,g2,g3,g4⟩:=zqB S R M;rw [ho] at g1;cases g1;have he:=execOp_put o (fun cs b=>Region.noSelect_spec l _ o cs b ho) a o.dst v (fun t ht=>by rw [g2] at ht;cases ht;exact g3);have e:(a.put o.dst v).tmps.getD d undef=v:=by
              rw [he,hv w (.inr (Ext.refl w))] at g4;injection g4 with g4 _
              injection g4 with g4
              exact g4.symm
            exact .inr (.inl ⟨rfl,o,d,ho,g2,fun w' h=>by rw [he,e] at h;exact h⟩)
      · rename_i hw;refine fin undef hs (fun _=>True) (.inr ⟨by simpa using hw,rfl⟩) fun g M R=>⟨rfl,trivial,?_⟩
        by_cases hk0:k=0
        · exact .inl ⟨hk0,fun _ _=>trivial⟩
        · by_cases hk1:k=1
          · subst hk1;have R:fOK TT ops g i=true:=by simpa using R
            obtain ⟨oi,d,g1,g2,g3,g4⟩:=zqB S R M;exact .inr (.inl ⟨rfl,oi,d,g1,g2,fun _ _=>trivial⟩)
          · exact .inr (.inr ⟨by omega,fun _ _ _ _=>trivial⟩)
    · cases h
  | .frz k ty t=>by
    refine ⟨fun F LC n A s a w hc N h r L => ?_,fun F LC n A s a w N h r L i hi=>by cases hi⟩;simp only [evPP] at h;obtain ⟨hw,hs⟩:=zti s k ty;exact zeW (fun _ _ _=>QPP.wide hs) _ _ _ _ _ ((zkH l S hG X I t).1 F LC n A _ a w hc (hs.n.trans N) h (hw.rel F a w r) L)
  | .stop=>by
    refine ⟨fun F LC n A s a w _ N h r L=>by simp [evPP] at h,fun F LC n A s a w N h r L i hi=>by cases hi⟩
  | .alt c i t V=>by
    have hL:∀ (F:Fr) (LC:List (Pn×PD)) (n:Nat) (A:Array Bool) (s:ESt) (a:Act) (w:World),s.n=s0.n->evPP TT Γ Γp T bo ops K KP (.alt c i t V) (LC.map (·.1)) (n+1) A s=some q->Rel F s.st a w->(∀ c∈LC,PInv P F ops c.1 c.2 a w)->∀ j∈(OP.alt c i t V).alts,
        wpOp P ops (QPP T F s0 s K KP q) j (fun B w'=>(∀ p∈LC.map (·.2),p.W j=false->p.J w')/\zgB P ops (QPP T F s0 s K KP q) n ((LC.map (·.2)).filter fun p => !p.W j) (A.setIfInBounds j true) B w') a w:=by
      intro F LC n A s a w N h r L j hj;simp only [evPP] at h;split at h
      · rename_i n' m o hn' ho;cases hn';have hc:=(zad h).1;replace h:=(zad h).2;generalize hK1:(fun g=>bif (LC.map (·.1)).all (fun p=>p.2.2.contains i || pnOK TT ops g c o p) then evPP TT Γ Γp T bo ops K KP t ((LC.map (·.1)).filter fun p => !p.2.2.contains i) n (A.setIfInBounds i true) g else none)=K1 at h;generalize hone:(bif Nat.beq c 5 then zl9 Γp s o K1 (fun p _=>KP p) else bif Nat.beq c 8 then zl9 Γp (zz9 TT s o) o K1 (fun p _=>KP p) else zhq TT Γ bo ops.toList [(c,o)] s K1)=one at h;have fin:∀ B w',(∃ u,B=a.put o.dst u)->(c<=1->Ext w w')->(∃ g,Sfx s g/\K1 g=some q/\Rel F g.st B w')->
            (∀ p∈LC.map (·.2),p.W i=false->p.J w')/\zgB P ops (QPP T F s0 s K KP q) n ((LC.map (·.2)).filter fun p => !p.W i) (A.setIfInBounds i true) B w':=by
          rintro B w' hu hx ⟨g,Q,C,M⟩;subst hK1;have O:=(zad C).1;replace C:=(zad C).2;have hstep:∀ Y∈LC,Y.1.2.2.contains i=false->PInv P F ops Y.1 Y.2 B w':=fun Y f hi=>by
            have:=List.all_eq_true.1 O _ (List.mem_map.2 ⟨Y,f,rfl⟩);rw [hi,Bool.false_or] at this;exact (L Y f).step l S hu hx M this
          obtain ⟨f1,f2⟩:=zxk (LC:=LC) (i:=i) fun Y f=>(L Y f).1
          refine ⟨fun p hp' hpi => ?_,?_⟩
          · obtain ⟨Y,f,rfl⟩:=List.mem_map.1 hp';exact (hstep Y f (by have:=(L Y f).1;rw [this] at hpi;exact hpi)).2.1
          · rw [f2];rw [f1] at C;refine zeW (fun _ _ _=>QPP.wide Q) _ _ _ _ _ ((zkH l S hG X I t).1 F _ n _ g B w' hc (Q.n.trans N) C M fun Y f => ?_);rw [List.mem_filter] at f;exact hstep Y f.1 (by simpa using f.2)
        have hon:one=some q->wpOp P ops (QPP T F s0 s K KP q) i (fun B w'=>(∀ p∈LC.map (·.2),p.W i=false->p.J w')/\zgB P ops (QPP T F s0 s K KP q) n ((LC.map (·.2)).filter fun p => !p.W i) (A.setIfInBounds i true) B w') a w:=fun E=>by
          have call:∀ s1,Sfx s s1->Rel F s1.st a w->2<=c->zl9 Γp s1 o K1 (fun p _=>KP p)=some q->wpOp P ops (QPP T F s0 s K KP q) i (fun B w'=>(∀ p∈LC.map (·.2),p.W i=false->p.J w')/\zgB P ops (QPP T F s0 s K KP q) n ((LC.map (·.2)).filter fun p => !p.W i) (A.setIfInBounds i true) B w') a w:=by
            intro s1 hs1 r1 hc2 h0;obtain ⟨hg,hw⟩:=zqz (F:=F) X h0;refine zkJ ho hg (Oper.wp_mono2 (fun B w' ⟨hu,g,g2,g3,g4⟩ => ?_) (fun e B w' ⟨p,g,g1,g2,g3,g4⟩ => ?_) (hw a w r1))
            · exact fin B w' hu (fun hc1=>by omega) ⟨g,hs1.trans g2,g3,g4⟩
            · exact .inr ⟨p,g1,g3,zAu (by rw [g2.n,hs1.n,N]) g4⟩
          subst hone;cases b5:Nat.beq c 5 with
          | true=>rw [b5,cond_true] at E;exact call s (Sfx.refl s) r (by have:=Nat.eq_of_beq_eq_true b5;omega) E
          | false=>
          rw [b5,cond_false] at E;cases b8:Nat.beq c 8 with
          | true=>
            rw [b8,cond_true] at E;obtain ⟨k1,k2⟩:=zzj TT s o;exact call _ k2 (k1.rel F a w r) (by have:=Nat.eq_of_beq_eq_true b8;omega) E
          | false=>
          rw [b8,cond_false] at E;have hs:=zr1 ho (AO.single (zbc (F:=F) S hG I E) r (K:=KK F s K1 q) (fun σ' B w' ⟨g,E,Q,C⟩ M=>by
            subst E;exact ⟨g,Q,C,M⟩) (QPP T F s0 s K KP q))
          exact wpOp_mono (fun B w' ⟨hu,hx,h5⟩=>fin B w' hu hx h5) hs
        have Z:j=i\/j∈V.alts:=by simpa [OP.alts] using hj
        split at h
        · rcases Z with rfl | Z
          · exact hon h
          · cases Z
        · rcases Z with rfl | Z
          · exact hon (I.l h)
          · exact (zkH l S hG X I V).2 F LC n A s a w N (I.r h) r L j Z
      · cases h
    refine ⟨fun F LC n A s a w U N h r L => ?_,hL⟩;cases n with
    | zero=>simp only [evPP] at h;cases h
    | succ n=>
      simp only [OP.cov,Bool.and_eq_true] at U;refine ⟨fun hr => ?_,fun j hj => ?_⟩
      · rw [hr] at U;simp at U
      · have:=List.all_eq_true.1 U.2 j hj;exact hL F LC n A s a w N h r L j (by simpa using this)
end
end
end Go.Ab
