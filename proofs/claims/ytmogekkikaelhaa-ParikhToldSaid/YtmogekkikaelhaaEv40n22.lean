import Derived.Test.YtmogekkikaelhaaEv40n10
import Derived.Test.YtmogekkikaelhaaAb24n17
set_option linter.unusedVariables false
set_option linter.unusedSimpArgs false
namespace Go.Ab
noncomputable section
open Enc (enc)
mutual
def EV.frz (id:Nat) (t:Ty) (x:t.den):EV->EV
 | .ptr i o=>bif Nat.beq i id && Nat.beq o 0 then .addr t x else .ptr i o
 | .agg l => .agg (EV.frzL id t x l)
 | .tup l => .tup (EV.frzL id t x l)
 | .fn f l => .fn f (EV.frzL id t x l)
 | .any => .any
 | .undef => .undef
 | .d u y => .d u y
 | .nil => .nil
 | .own i => .own i
 | .eptr i s j k => .eptr i s j k
 | .vptr i o n u j=>bif Nat.beq i id then .raw (AV.frz id (encD t x) (.ptr i (o+j))) else .vptr i o n u j
 | .view i s j k => .view i s j k
 | .full u l => .full u l
 | .row f u i => .row f u i
 | .reptr f u i j k => .reptr f u i j k
 | .raw a => .raw (AV.frz id (encD t x) a)
 | .addr u y => .addr u y
 | .lit v => .lit v
def EV.frzL (id:Nat) (t:Ty) (x:t.den):List EV->List EV
 | []=>[]
 | y::r=>EV.frz id t x y::EV.frzL id t x r
end
mutual
theorem EV.frz_av (id:Nat) (t:Ty) (x:t.den):∀ y:EV,(EV.frz id t x y).av=AV.frz id (encD t x) y.av
 | .ptr i o=>by
  rw [EV.frz,EV.av,AV.frz];cases Nat.beq i id && Nat.beq o 0<;>rfl
 | .agg l=>by rw [EV.frz,EV.av,EV.av,AV.frz,EV.frzL_av id t x l]
 | .tup l=>by rw [EV.frz,EV.av,EV.av,AV.frz,EV.frzL_av id t x l]
 | .fn f l=>by rw [EV.frz,EV.av,EV.av,AV.frz,EV.frzL_av id t x l]
 | .any=>rfl
 | .undef=>rfl
 | .d u y=>rfl
 | .nil=>rfl
 | .own i=>rfl
 | .eptr i s j k=>rfl
 | .vptr i o n u j=>by
  rw [EV.frz,EV.av,AV.frz];cases hb:Nat.beq i id with
  | true=>simp only [cond_true,EV.av,AV.frz,hb]
  | false=>simp only [cond_false,EV.av,Bool.false_and]
 | .view i s j k=>rfl
 | .full u l=>rfl
 | .row f u i=>rfl
 | .reptr f u i j k=>rfl
 | .raw a=>rfl
 | .addr u y=>rfl
 | .lit v=>rfl
theorem EV.frzL_av (id:Nat) (t:Ty) (x:t.den):∀ l:List EV,EV.avL (EV.frzL id t x l)=AV.frzL id (encD t x) (EV.avL l)
 | []=>rfl
 | y::r=>by rw [EV.frzL,EV.avL,EV.avL,AV.frzL,EV.frz_av id t x y,EV.frzL_av id t x r]
end
def EEnt.frz (id:Nat) (t:Ty) (x:t.den):EEnt->EEnt
 | .box T c => .box T (EV.frzL id t x c)
 | .arr E u l => .arr E u l
 | .out f E => .out f E
 | .outs E c => .outs E (EV.frzL id t x c)
theorem zsx (id:Nat) (x:D) (f n:Nat):AV.frzL id x (famA f n)=famA f n:=by
 unfold famA;generalize List.range n=l;induction l with
 | nil=>rfl
 | cons y l ih=>rw [List.map_cons,AV.frzL,ih];rfl
theorem EEnt.frz_ent (id:Nat) (t:Ty) (x:t.den) (rs:List (Nat×Option RW)) (e:EEnt):(EEnt.frz id t x e).ent rs=Ent.frz id (encD t x) (e.ent rs):=by
 cases e with
 | arr E u l=>rfl
 | box T c=>rw [EEnt.frz,EEnt.ent,EEnt.ent,Ent.frz,EV.frzL_av]
 | out f E=>rw [EEnt.frz,EEnt.ent,Ent.frz,zsx]
 | outs E c=>rw [EEnt.frz,EEnt.ent,EEnt.ent,Ent.frz,EV.frzL_av]
mutual
def EV.has (id:Nat):EV->Bool
 | .ptr i o=>Nat.beq i id && Nat.beq o 0
 | .vptr i _ _ _ _=>Nat.beq i id
 | .raw _=>true
 | .agg l=>EV.hasL id l
 | .tup l=>EV.hasL id l
 | .fn _ l=>EV.hasL id l
 | _=>false
def EV.hasL (id:Nat):List EV->Bool
 | []=>false
 | y::r=>EV.has id y || EV.hasL id r
end
mutual
theorem EV.frz_not {id:Nat} (t:Ty) (x:t.den):∀ {y:EV},EV.has id y=false->EV.frz id t x y=y
 | .ptr i o,h=>by rw [EV.has] at h;rw [EV.frz,h];rfl
 | .agg l,h=>by rw [EV.has] at h;rw [EV.frz,EV.frzL_not t x h]
 | .tup l,h=>by rw [EV.has] at h;rw [EV.frz,EV.frzL_not t x h]
 | .fn f l,h=>by rw [EV.has] at h;rw [EV.frz,EV.frzL_not t x h]
 | .any,_=>rfl
 | .undef,_=>rfl
 | .d u y,_=>rfl
 | .nil,_=>rfl
 | .own i,_=>rfl
 | .eptr i s j k,_=>rfl
 | .vptr i o n u j,h=>by rw [EV.has] at h;rw [EV.frz,h];rfl
 | .view i s j k,_=>rfl
 | .full u l,_=>rfl
 | .row f u i,_=>rfl
 | .reptr f u i j k,_=>rfl
 | .raw _,h=>by cases h
 | .addr u y,_=>rfl
 | .lit v,_=>rfl
theorem EV.frzL_not {id:Nat} (t:Ty) (x:t.den):∀ {l:List EV},EV.hasL id l=false->EV.frzL id t x l=l
 | [],_=>rfl
 | y::r,h=>by
  rw [EV.hasL,Bool.or_eq_false_iff] at h;rw [EV.frzL,EV.frz_not t x h.1,EV.frzL_not t x h.2]
end
def EEnt.has (id:Nat):Option EEnt->Bool
 | some (.box _ c)=>EV.hasL id c
 | some (.outs _ c)=>EV.hasL id c
 | _=>false
def zjA (s:ESt) (id k:Nat):Bool:=match s.get k with
 | some y=>y.has id
 | none=>false
def ESt.freezeAll (s:ESt) (id:Nat) (t:Ty) (x:t.den):ESt:=
 ⟨s.n,((s.slots.filter fun p=>zjA s id p.1).map fun p=>(p.1,p.2.frz id t x))++s.slots,
  ((id,none)::(s.heap.filter fun p=>EEnt.has id (s.ent p.1)).map fun p=>(p.1,p.2.map (EEnt.frz id t x)))++s.heap,s.nxt,s.rws⟩
theorem zhm {β:Type} (P:Nat->Bool):∀ (l:List (Nat×β)) (k:Nat),look (l.filter fun p=>P p.1) k=if P k=true then look l k else none
 | [],k=>by split<;>rfl
 | (j,v)::r,k=>by
  rw [List.filter_cons];by_cases hj:P j=true
  ·rw [if_pos hj,zae,zae,zhm P r k];by_cases h:j=k
   ·subst h;rw [if_pos rfl,if_pos hj,if_pos rfl]
   ·rw [if_neg h,if_neg h]
  ·rw [if_neg hj,zae,zhm P r k];by_cases h:j=k
   ·subst h;rw [if_neg hj,if_neg hj]
   ·rw [if_neg h]
theorem zkv {β:Type}:∀ (l m:List (Nat×β)) (k:Nat),look (l++m) k=match look l k with | some v=>some v | none=>look m k
 | [],m,k=>rfl
 | (j,v)::l,m,k=>by
  rw [List.cons_append,zae,zae,zkv l m k];by_cases h:j=k
  ·rw [if_pos h,if_pos h]
  ·rw [if_neg h,if_neg h]
theorem zdU (s:ESt) (id:Nat) (t:Ty) (x:t.den) (k:Nat):(s.freezeAll id t x).get k=(s.get k).map (EV.frz id t x):=by
 have e:(s.freezeAll id t x).get k=look (((s.slots.filter fun p=>zjA s id p.1).map fun p=>(p.1,p.2.frz id t x))++s.slots) k:=rfl;have eg:s.get k=look s.slots k:=rfl;rw [e,zkv,zhn,zhm (zjA s id),eg];by_cases h:zjA s id k=true
 ·rw [if_pos h];cases look s.slots k<;>rfl
 ·rw [if_neg h];have h:zjA s id k=false:=by simpa using h
  unfold zjA at h;rw [eg] at h;cases hl:look s.slots k with
  | none=>rfl
  | some y=>
   rw [hl] at h;show some y=some (EV.frz id t x y);rw [EV.frz_not t x h]
theorem zmy (s:ESt) (j:Nat):s.ent j=(look s.heap j).join:=by
 unfold ESt.ent;cases look s.heap j with
 | none=>rfl
 | some e=>cases e<;>rfl
theorem zmV (s:ESt) (id:Nat) (t:Ty) (x:t.den) (j:Nat):(s.freezeAll id t x).ent j=if id=j then none else (s.ent j).map (EEnt.frz id t x):=by
 have eg:s.ent j=(look s.heap j).join:=zmy s j;have e:(s.freezeAll id t x).ent j=(look (((id,none)::(s.heap.filter fun p=>EEnt.has id (s.ent p.1)).map fun p=>(p.1,p.2.map (EEnt.frz id t x)))++s.heap) j).join:=by rw [zmy];rfl
 rw [e,List.cons_append,zae];by_cases h:id=j
 ·rw [if_pos h,if_pos h];rfl
 ·rw [if_neg h,if_neg h,zkv,zhn,zhm (fun k=>EEnt.has id (s.ent k))];by_cases hh:EEnt.has id (s.ent j)=true
  ·rw [if_pos hh,eg];cases h2:look s.heap j with
   | none=>rfl
   | some e=>cases e<;>rfl
  ·rw [if_neg hh];have hh:EEnt.has id (s.ent j)=false:=by simpa using hh
   show ((look s.heap j).join)=(s.ent j).map (EEnt.frz id t x);rw [<- eg];cases h2:s.ent j with
   | none=>rfl
   | some e=>
    rw [h2] at hh;cases e with
    | arr E u l=>rfl
    | box T c=>rw [EEnt.has] at hh;show some (EEnt.box T c)=some (EEnt.box T (EV.frzL id t x c));rw [EV.frzL_not t x hh]
    | out f E=>rfl
    | outs E c=>rw [EEnt.has] at hh;show some (EEnt.outs E c)=some (EEnt.outs E (EV.frzL id t x c));rw [EV.frzL_not t x hh]
theorem Sfx.freezeAll (s:ESt) (id:Nat) (t:Ty) (x:t.den):Sfx s (s.freezeAll id t x):=⟨⟨_,rfl⟩,⟨_,rfl⟩,⟨[],rfl⟩,Nat.le_refl _,rfl⟩
def ESt.freezeT (s:ESt) (id:Nat) (t:Ty):ESt:=match s.ent id with
 | some (.box _ cs)=>match zjs t cs with
  | some (x,[])=>s.freezeAll id t x
  | _=>s
 | _=>s
theorem zpc {rs:List (Nat×Option RW)} {k:Nat} {e:Ent} (h:zar rs k=some e):∃ E,∃ t:Ty,∃ l:List t.den,e=Ent.arrOf E l:=by
 unfold zar at h;split at h
 ·split at h
  ·rename_i r _;unfold RW.ent at h;split at h
   ·cases h
   ·obtain ⟨l,_,rfl⟩:=Option.map_eq_some_iff.1 h;exact ⟨r.E,r.t,l,rfl⟩
  ·cases h
 ·cases h
theorem zhK (s:ESt) (id:Nat) (t:Ty) (x:t.den) (y:Option Ent) {j:Nat} {e:Ent} (hj:(s.freezeAll id t x).st.ent j=some e):j≠id/\∃ e0,(s.st.put id y).ent j=some e0/\e=e0.frz id (encD t x):=by
 rw [zao] at hj;cases hl:look (s.freezeAll id t x).heap j with
 | some q=>
  rw [hl] at hj;cases q with
  | none=>cases hj
  | some e1=>
   simp only [Option.map_some,Option.some.injEq] at hj;have h1:(s.freezeAll id t x).ent j=some e1:=by rw [zmy,hl];rfl
   rw [zmV] at h1;by_cases h:id=j
   ·rw [if_pos h] at h1;cases h1
   ·rw [if_neg h] at h1;refine ⟨fun e=>h e.symm,?_⟩;obtain ⟨e0,he2,rfl⟩:=Option.map_eq_some_iff.1 h1;exact ⟨e0.ent s.rws,by rw [St.ent_put,if_neg h];exact zat he2,by rw [<- hj];exact EEnt.frz_ent id t x _ e0⟩
 | none=>
  rw [hl] at hj;have hj:zar s.rws j=some e:=hj;have e:(s.freezeAll id t x).heap=((id,none)::(s.heap.filter fun p=>EEnt.has id (s.ent p.1)).map fun p=>(p.1,p.2.map (EEnt.frz id t x)))++s.heap:=rfl;rw [e,List.cons_append,zae] at hl;by_cases h:id=j
  ·rw [if_pos h] at hl;cases hl
  ·rw [if_neg h,zkv] at hl;split at hl
   ·cases hl
   ·refine ⟨fun e=>h e.symm,_,by rw [St.ent_put,if_neg h,zao,hl];exact hj,?_⟩;obtain ⟨E,u,l,rfl⟩:=zpc hj;rfl
theorem zqm (s:ESt) (id:Nat) (t:Ty):Wk s (s.freezeT id t)/\Sfx s (s.freezeT id t):=by
 unfold ESt.freezeT;split
 ·rename_i T cs he;split
  ·rename_i x hx;refine ⟨⟨fun F a w ⟨H,r⟩=>⟨H,?_⟩,fun k u y h=>by rw [zdU,h];rfl⟩,Sfx.freezeAll s id t x⟩;obtain ⟨l1,h1,h2⟩:=zcI hx;rw [List.append_nil] at h1;subst h1;have r2:=r.boxpack (zat he) h2;refine r2.freezeAll (id:=id) (T:=T) (x:=encD t x) ?_ rfl rfl (fun j e hj => ?_) (fun k y hk => ?_)
   ·rw [St.ent_put,if_pos rfl];rfl
   ·exact zhK s id t x _ hj
   ·rw [zg6,zdU] at hk;cases hg:s.get k with
    | none=>rw [hg] at hk;cases hk
    | some z=>
     rw [hg] at hk;cases hk;exact ⟨z.av,zbY hg,EV.frz_av id t x z⟩
  ·exact ⟨Wk.refl _,Sfx.refl _⟩
 ·exact ⟨Wk.refl _,Sfx.refl _⟩
def ESt.freeze1 (TT:List TE) (s:ESt) (id:Nat):ESt:=match s.ent id with
 | some (.box T cs)=>match tyT TT T with
  | some t=>match zjs t cs with
   | some (x,[])=>s.freezeAll id t x
   | _=>s
  | none=>s
 | _=>s
theorem zl4 (TT:List TE) (s:ESt) (id:Nat):Wk s (s.freeze1 TT id)/\Sfx s (s.freeze1 TT id):=by
 unfold ESt.freeze1;split
 ·rename_i T cs he;split
  ·rename_i t _;split
   ·rename_i x hx;refine ⟨⟨fun F a w ⟨H,r⟩=>⟨H,?_⟩,fun k u y h=>by rw [zdU,h];rfl⟩,Sfx.freezeAll s id t x⟩;obtain ⟨l1,h1,h2⟩:=zcI hx;rw [List.append_nil] at h1;subst h1;have r2:=r.boxpack (zat he) h2;refine r2.freezeAll (id:=id) (T:=T) (x:=encD t x) ?_ rfl rfl (fun j e hj => ?_) (fun k y hk => ?_)
    ·rw [St.ent_put,if_pos rfl];rfl
    ·exact zhK s id t x _ hj
    ·rw [zg6,zdU] at hk;cases hg:s.get k with
     | none=>rw [hg] at hk;cases hk
     | some z=>
      rw [hg] at hk;cases hk;exact ⟨z.av,zbY hg,EV.frz_av id t x z⟩
   ·exact ⟨Wk.refl _,Sfx.refl _⟩
  ·exact ⟨Wk.refl _,Sfx.refl _⟩
 ·exact ⟨Wk.refl _,Sfx.refl _⟩
def zeX (TT:List TE):ESt->List EV->ESt
 | s,[]=>s
 | s,.ptr id _::r=>zeX TT (s.freeze1 TT id) r
 | s,_::r=>zeX TT s r
theorem zjn (TT:List TE):∀ (l:List EV) (s:ESt),Wk s (zeX TT s l)/\Sfx s (zeX TT s l)
 | [],s=>⟨Wk.refl s,Sfx.refl s⟩
 | y::r,s=>by
  cases y with
  | ptr id o=>
   simp only [zeX];obtain ⟨h1,h2⟩:=zl4 TT s id;obtain ⟨h3,h4⟩:=zjn TT r (s.freeze1 TT id);exact ⟨h1.trans h3,h2.trans h4⟩
  | _=>
   simp only [zeX];exact zjn TT r s
def frzV (TT:List TE) (s:ESt):Option EV->ESt
 | some (.fn _ c)=>zeX TT s c
 | _=>s
theorem zry (TT:List TE) (s:ESt) (v:Option EV):Wk s (frzV TT s v)/\Sfx s (frzV TT s v):=by
 unfold frzV;split
 ·exact zjn TT _ s
 ·exact ⟨Wk.refl _,Sfx.refl _⟩
theorem zoX (TT:List TE) (s:ESt) (id:Nat):(s.freeze1 TT id).nxt=s.nxt:=by
 unfold ESt.freeze1;split
 ·split
  ·split<;>rfl
  ·rfl
 ·rfl
theorem zh4 (TT:List TE):∀ (l:List EV) (s:ESt),(zeX TT s l).nxt=s.nxt
 | [],s=>rfl
 | y::r,s=>by
  cases y with
  | ptr id o=>simp only [zeX];rw [zh4 TT r,zoX]
  | _=>simp only [zeX];exact zh4 TT r s
theorem zsC (TT:List TE) (s:ESt) (v:Option EV):(frzV TT s v).nxt=s.nxt:=by
 unfold frzV;split
 ·exact zh4 TT _ s
 ·rfl
end
end Go.Ab
