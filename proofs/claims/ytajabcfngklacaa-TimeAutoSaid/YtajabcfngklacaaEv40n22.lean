import Derived.Test.YtajabcfngklacaaEv40n10
import Derived.Test.YtajabcfngklacaaAb24n17
set_option linter.unusedVariables false
set_option linter.unusedSimpArgs false
namespace Go.Ab
noncomputable section
open Enc (enc)
mutual
def EV.frz (id:Nat) (t:Ty) (x:t.den):EV->EV
 | .ptr i o=>bif Nat.beq i id && Nat.beq o 0 then .addr t x else .ptr i o
 | .agg l => .agg (EV.frzL id t x l)
 | .tup l => .tup (EV.frzL id t x l)
 | .fn f l => .fn f (EV.frzL id t x l)
 | .any => .any
 | .undef => .undef
 | .d u y => .d u y
 | .nil => .nil
 | .own i => .own i
 | .eptr i s j k => .eptr i s j k
 | .vptr i o n u j=>bif Nat.beq i id then .raw (AV.frz id (encD t x) (.ptr i (o+j))) else .vptr i o n u j
 | .view i s j k => .view i s j k
 | .full u l => .full u l
 | .row f u i => .row f u i
 | .reptr f u i j k => .reptr f u i j k
 | .raw a => .raw (AV.frz id (encD t x) a)
 | .addr u y => .addr u y
 | .lit v => .lit v
def EV.frzL (id:Nat) (t:Ty) (x:t.den):List EV->List EV
 | []=>[]
 | y::r=>EV.frz id t x y::EV.frzL id t x r
end
mutual
theorem EV.frz_av (id:Nat) (t:Ty) (x:t.den):∀ y:EV,(EV.frz id t x y).av=AV.frz id (encD t x) y.av
 | .ptr i o=>by
  rw [EV.frz,EV.av,AV.frz];cases Nat.beq i id && Nat.beq o 0<;>rfl
 | .agg l=>by rw [EV.frz,EV.av,EV.av,AV.frz,EV.frzL_av id t x l]
 | .tup l=>by rw [EV.frz,EV.av,EV.av,AV.frz,EV.frzL_av id t x l]
 | .fn f l=>by rw [EV.frz,EV.av,EV.av,AV.frz,EV.frzL_av id t x l]
 | .any=>rfl
 | .undef=>rfl
 | .d u y=>rfl
 | .nil=>rfl
 | .own i=>rfl
 | .eptr i s j k=>rfl
 | .vptr i o n u j=>by
  rw [EV.frz,EV.av,AV.frz];cases b:Nat.beq i id with
  | true=>simp only [cond_true,EV.av,AV.frz,b]
  | false=>simp only [cond_false,EV.av,Bool.false_and]
 | .view i s j k=>rfl
 | .full u l=>rfl
 | .row f u i=>rfl
 | .reptr f u i j k=>rfl
 | .raw a=>rfl
 | .addr u y=>rfl
 | .lit v=>rfl
theorem EV.frzL_av (id:Nat) (t:Ty) (x:t.den):∀ l:List EV,EV.avL (EV.frzL id t x l)=AV.frzL id (encD t x) (EV.avL l)
 | []=>rfl
 | y::r=>by rw [EV.frzL,EV.avL,EV.avL,AV.frzL,EV.frz_av id t x y,EV.frzL_av id t x r]
end
def EEnt.frz (id:Nat) (t:Ty) (x:t.den):EEnt->EEnt
 | .box T c => .box T (EV.frzL id t x c)
 | .arr E u l => .arr E u l
 | .out f E => .out f E
 | .outs E c => .outs E (EV.frzL id t x c)
theorem zCd (id:Nat) (x:D) (f n:Nat):AV.frzL id x (famA f n)=famA f n:=by
 unfold famA;generalize List.range n=l;induction l with
 | nil=>rfl
 | cons y l a=>rw [List.map_cons,AV.frzL,a];rfl
theorem EEnt.frz_ent (id:Nat) (t:Ty) (x:t.den) (rs:List (Nat×Option RW)) (e:EEnt):(EEnt.frz id t x e).ent rs=Ent.frz id (encD t x) (e.ent rs):=by
 cases e with
 | arr E u l=>rfl
 | box T c=>rw [EEnt.frz,EEnt.ent,EEnt.ent,Ent.frz,EV.frzL_av]
 | out f E=>rw [EEnt.frz,EEnt.ent,Ent.frz,zCd]
 | outs E c=>rw [EEnt.frz,EEnt.ent,EEnt.ent,Ent.frz,EV.frzL_av]
mutual
def EV.has (id:Nat):EV->Bool
 | .ptr i o=>Nat.beq i id && Nat.beq o 0
 | .vptr i _ _ _ _=>Nat.beq i id
 | .raw _=>true
 | .agg l=>EV.hasL id l
 | .tup l=>EV.hasL id l
 | .fn _ l=>EV.hasL id l
 | _=>false
def EV.hasL (id:Nat):List EV->Bool
 | []=>false
 | y::r=>EV.has id y || EV.hasL id r
end
mutual
theorem EV.frz_not {id:Nat} (t:Ty) (x:t.den):∀ {y:EV},EV.has id y=false->EV.frz id t x y=y
 | .ptr i o,h=>by rw [EV.has] at h;rw [EV.frz,h];rfl
 | .agg l,h=>by rw [EV.has] at h;rw [EV.frz,EV.frzL_not t x h]
 | .tup l,h=>by rw [EV.has] at h;rw [EV.frz,EV.frzL_not t x h]
 | .fn f l,h=>by rw [EV.has] at h;rw [EV.frz,EV.frzL_not t x h]
 | .any,_=>rfl
 | .undef,_=>rfl
 | .d u y,_=>rfl
 | .nil,_=>rfl
 | .own i,_=>rfl
 | .eptr i s j k,_=>rfl
 | .vptr i o n u j,h=>by rw [EV.has] at h;rw [EV.frz,h];rfl
 | .view i s j k,_=>rfl
 | .full u l,_=>rfl
 | .row f u i,_=>rfl
 | .reptr f u i j k,_=>rfl
 | .raw _,h=>by cases h
 | .addr u y,_=>rfl
 | .lit v,_=>rfl
theorem EV.frzL_not {id:Nat} (t:Ty) (x:t.den):∀ {l:List EV},EV.hasL id l=false->EV.frzL id t x l=l
 | [],_=>rfl
 | y::r,h=>by
  rw [EV.hasL,Bool.or_eq_false_iff] at h;rw [EV.frzL,EV.frz_not t x h.1,EV.frzL_not t x h.2]
end
def EEnt.has (id:Nat):Option EEnt->Bool
 | some (.box _ c)=>EV.hasL id c
 | some (.outs _ c)=>EV.hasL id c
 | _=>false
def zrT (s:ESt) (id k:Nat):Bool:=match s.get k with
 | some y=>y.has id
 | none=>false
def ESt.freezeAll (s:ESt) (id:Nat) (t:Ty) (x:t.den):ESt:=
 ⟨s.n,((s.slots.filter fun p=>zrT s id p.1).map fun p=>(p.1,p.2.frz id t x))++s.slots,
  ((id,none)::(s.heap.filter fun p=>EEnt.has id (s.ent p.1)).map fun p=>(p.1,p.2.map (EEnt.frz id t x)))++s.heap,s.nxt,s.rws⟩
theorem zpd {β:Type} (P:Nat->Bool):∀ (l:List (Nat×β)) (k:Nat),look (l.filter fun p=>P p.1) k=if P k=true then look l k else none
 | [],k=>by split<;>rfl
 | (j,v)::r,k=>by
  rw [List.filter_cons];by_cases a:P j=true
  ·rw [if_pos a,zan,zan,zpd P r k];by_cases h:j=k
   ·subst h;rw [if_pos rfl,if_pos a,if_pos rfl]
   ·rw [if_neg h,if_neg h]
  ·rw [if_neg a,zan,zpd P r k];by_cases h:j=k
   ·subst h;rw [if_neg a,if_neg a]
   ·rw [if_neg h]
theorem ztg {β:Type}:∀ (l m:List (Nat×β)) (k:Nat),look (l++m) k=match look l k with | some v=>some v | none=>look m k
 | [],m,k=>rfl
 | (j,v)::l,m,k=>by
  rw [List.cons_append,zan,zan,ztg l m k];by_cases h:j=k
  ·rw [if_pos h,if_pos h]
  ·rw [if_neg h,if_neg h]
theorem zko (s:ESt) (id:Nat) (t:Ty) (x:t.den) (k:Nat):(s.freezeAll id t x).get k=(s.get k).map (EV.frz id t x):=by
 have e:(s.freezeAll id t x).get k=look (((s.slots.filter fun p=>zrT s id p.1).map fun p=>(p.1,p.2.frz id t x))++s.slots) k:=rfl;have a:s.get k=look s.slots k:=rfl;rw [e,ztg,zpe,zpd (zrT s id),a];by_cases h:zrT s id k=true
 ·rw [if_pos h];cases look s.slots k<;>rfl
 ·rw [if_neg h];have h:zrT s id k=false:=by simpa using h
  unfold zrT at h;rw [a] at h;cases b:look s.slots k with
  | none=>rfl
  | some y=>
   rw [b] at h;show some y=some (EV.frz id t x y);rw [EV.frz_not t x h]
theorem zvT (s:ESt) (j:Nat):s.ent j=(look s.heap j).join:=by
 unfold ESt.ent;cases look s.heap j with
 | none=>rfl
 | some e=>cases e<;>rfl
theorem zwc (s:ESt) (id:Nat) (t:Ty) (x:t.den) (j:Nat):(s.freezeAll id t x).ent j=if id=j then none else (s.ent j).map (EEnt.frz id t x):=by
 have b:s.ent j=(look s.heap j).join:=zvT s j;have e:(s.freezeAll id t x).ent j=(look (((id,none)::(s.heap.filter fun p=>EEnt.has id (s.ent p.1)).map fun p=>(p.1,p.2.map (EEnt.frz id t x)))++s.heap) j).join:=by rw [zvT];rfl
 rw [e,List.cons_append,zan];by_cases h:id=j
 ·rw [if_pos h,if_pos h];rfl
 ·rw [if_neg h,if_neg h,ztg,zpe,zpd (fun k=>EEnt.has id (s.ent k))];by_cases a:EEnt.has id (s.ent j)=true
  ·rw [if_pos a,b];cases d:look s.heap j with
   | none=>rfl
   | some e=>cases e<;>rfl
  ·rw [if_neg a];have a:EEnt.has id (s.ent j)=false:=by simpa using a
   show ((look s.heap j).join)=(s.ent j).map (EEnt.frz id t x);rw [<- b];cases d:s.ent j with
   | none=>rfl
   | some e=>
    rw [d] at a;cases e with
    | arr E u l=>rfl
    | box T c=>rw [EEnt.has] at a;show some (EEnt.box T c)=some (EEnt.box T (EV.frzL id t x c));rw [EV.frzL_not t x a]
    | out f E=>rfl
    | outs E c=>rw [EEnt.has] at a;show some (EEnt.outs E c)=some (EEnt.outs E (EV.frzL id t x c));rw [EV.frzL_not t x a]
theorem Sfx.freezeAll (s:ESt) (id:Nat) (t:Ty) (x:t.den):Sfx s (s.freezeAll id t x):=⟨⟨_,rfl⟩,⟨_,rfl⟩,⟨[],rfl⟩,Nat.le_refl _,rfl⟩
def ESt.freezeT (s:ESt) (id:Nat) (t:Ty):ESt:=match s.ent id with
 | some (.box _ cs)=>match zrC t cs with
  | some (x,[])=>s.freezeAll id t x
  | _=>s
 | _=>s
theorem zyF {rs:List (Nat×Option RW)} {k:Nat} {e:Ent} (h:zbi rs k=some e):∃ E,∃ t:Ty,∃ l:List t.den,e=Ent.arrOf E l:=by
 unfold zbi at h;split at h
 ·split at h
  ·rename_i r _;unfold RW.ent at h;split at h
   ·cases h
   ·obtain ⟨l,_,rfl⟩:=Option.map_eq_some_iff.1 h;exact ⟨r.E,r.t,l,rfl⟩
  ·cases h
 ·cases h
theorem zpD (s:ESt) (id:Nat) (t:Ty) (x:t.den) (y:Option Ent) {j:Nat} {e:Ent} (a:(s.freezeAll id t x).st.ent j=some e):j≠id/\∃ e0,(s.st.put id y).ent j=some e0/\e=e0.frz id (encD t x):=by
 rw [zbC] at a;cases b:look (s.freezeAll id t x).heap j with
 | some q=>
  rw [b] at a;cases q with
  | none=>cases a
  | some f=>
   simp only [Option.map_some,Option.some.injEq] at a;have c:(s.freezeAll id t x).ent j=some f:=by rw [zvT,b];rfl
   rw [zwc] at c;by_cases h:id=j
   ·rw [if_pos h] at c;cases c
   ·rw [if_neg h] at c;refine ⟨fun e=>h e.symm,?_⟩;obtain ⟨e0,d,rfl⟩:=Option.map_eq_some_iff.1 c;exact ⟨e0.ent s.rws,by rw [St.ent_put,if_neg h];exact zbw d,by rw [<- a];exact EEnt.frz_ent id t x _ e0⟩
 | none=>
  rw [b] at a;have a:zbi s.rws j=some e:=a;have e:(s.freezeAll id t x).heap=((id,none)::(s.heap.filter fun p=>EEnt.has id (s.ent p.1)).map fun p=>(p.1,p.2.map (EEnt.frz id t x)))++s.heap:=rfl;rw [e,List.cons_append,zan] at b;by_cases h:id=j
  ·rw [if_pos h] at b;cases b
  ·rw [if_neg h,ztg] at b;split at b
   ·cases b
   ·refine ⟨fun e=>h e.symm,_,by rw [St.ent_put,if_neg h,zbC,b];exact a,?_⟩;obtain ⟨E,u,l,rfl⟩:=zyF a;rfl
theorem zzT (s:ESt) (id:Nat) (t:Ty):Wk s (s.freezeT id t)/\Sfx s (s.freezeT id t):=by
 unfold ESt.freezeT;split
 ·rename_i T cs g;split
  ·rename_i x i;refine ⟨⟨fun F a w ⟨H,r⟩=>⟨H,?_⟩,fun k u y h=>by rw [zko,h];rfl⟩,Sfx.freezeAll s id t x⟩;obtain ⟨l1,d,m⟩:=zh1 i;rw [List.append_nil] at d;subst d;have l:=r.boxpack (zbw g) m;refine l.freezeAll (id:=id) (T:=T) (x:=encD t x) ?_ rfl rfl (fun j e f => ?_) (fun k y b => ?_)
   ·rw [St.ent_put,if_pos rfl];rfl
   ·exact zpD s id t x _ f
   ·rw [zoN,zko] at b;cases c:s.get k with
    | none=>rw [c] at b;cases b
    | some z=>
     rw [c] at b;cases b;exact ⟨z.av,zf0 c,EV.frz_av id t x z⟩
  ·exact ⟨Wk.refl _,Sfx.refl _⟩
 ·exact ⟨Wk.refl _,Sfx.refl _⟩
def ESt.freeze1 (TT:List TE) (s:ESt) (id:Nat):ESt:=match s.ent id with
 | some (.box T cs)=>match tyT TT T with
  | some t=>match zrC t cs with
   | some (x,[])=>s.freezeAll id t x
   | _=>s
  | none=>s
 | _=>s
theorem zvg (TT:List TE) (s:ESt) (id:Nat):Wk s (s.freeze1 TT id)/\Sfx s (s.freeze1 TT id):=by
 unfold ESt.freeze1;split
 ·rename_i T cs g;split
  ·rename_i t _;split
   ·rename_i x i;refine ⟨⟨fun F a w ⟨H,r⟩=>⟨H,?_⟩,fun k u y h=>by rw [zko,h];rfl⟩,Sfx.freezeAll s id t x⟩;obtain ⟨l1,d,m⟩:=zh1 i;rw [List.append_nil] at d;subst d;have l:=r.boxpack (zbw g) m;refine l.freezeAll (id:=id) (T:=T) (x:=encD t x) ?_ rfl rfl (fun j e f => ?_) (fun k y b => ?_)
    ·rw [St.ent_put,if_pos rfl];rfl
    ·exact zpD s id t x _ f
    ·rw [zoN,zko] at b;cases c:s.get k with
     | none=>rw [c] at b;cases b
     | some z=>
      rw [c] at b;cases b;exact ⟨z.av,zf0 c,EV.frz_av id t x z⟩
   ·exact ⟨Wk.refl _,Sfx.refl _⟩
  ·exact ⟨Wk.refl _,Sfx.refl _⟩
 ·exact ⟨Wk.refl _,Sfx.refl _⟩
def zma (TT:List TE):ESt->List EV->ESt
 | s,[]=>s
 | s,.ptr id _::r=>zma TT (s.freeze1 TT id) r
 | s,_::r=>zma TT s r
theorem zrx (TT:List TE):∀ (l:List EV) (s:ESt),Wk s (zma TT s l)/\Sfx s (zma TT s l)
 | [],s=>⟨Wk.refl s,Sfx.refl s⟩
 | y::r,s=>by
  cases y with
  | ptr id o=>
   simp only [zma];obtain ⟨a,b⟩:=zvg TT s id;obtain ⟨c,d⟩:=zrx TT r (s.freeze1 TT id);exact ⟨a.trans c,b.trans d⟩
  | _=>
   simp only [zma];exact zrx TT r s
def frzV (TT:List TE) (s:ESt):Option EV->ESt
 | some (.fn _ c)=>zma TT s c
 | _=>s
theorem zA5 (TT:List TE) (s:ESt) (v:Option EV):Wk s (frzV TT s v)/\Sfx s (frzV TT s v):=by
 unfold frzV;split
 ·exact zrx TT _ s
 ·exact ⟨Wk.refl _,Sfx.refl _⟩
theorem zyc (TT:List TE) (s:ESt) (id:Nat):(s.freeze1 TT id).nxt=s.nxt:=by
 unfold ESt.freeze1;split
 ·split
  ·split<;>rfl
  ·rfl
 ·rfl
theorem zp7 (TT:List TE):∀ (l:List EV) (s:ESt),(zma TT s l).nxt=s.nxt
 | [],s=>rfl
 | y::r,s=>by
  cases y with
  | ptr id o=>simp only [zma];rw [zp7 TT r,zyc]
  | _=>simp only [zma];exact zp7 TT r s
theorem zCk (TT:List TE) (s:ESt) (v:Option EV):(frzV TT s v).nxt=s.nxt:=by
 unfold frzV;split
 ·exact zp7 TT _ s
 ·rfl
end
end Go.Ab
