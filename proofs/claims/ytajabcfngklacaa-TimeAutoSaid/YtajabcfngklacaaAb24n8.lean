import Derived.Test.YtajabcfngklacaaAb24n7
set_option linter.unusedVariables false
set_option linter.unusedSimpArgs false
set_option linter.unusedSectionVars false
namespace Go.Ab
open Enc (enc)
open Go.RowKit (Below)
def lk (mp:List (Nat×Option Nat)) (k:Nat):Option (Option Nat):=match look mp k with
 | some q=>some q
 | none=>if RB<=k then (match look mp (k % RB) with
  | some (some o)=>some (some (rid o (k / RB - 1)))
  | _=>none) else none
theorem zqL {mp:List (Nat×Option Nat)} {k:Nat} {q:Option Nat} (h:look mp k=some q):lk mp k=some q:=by unfold lk;rw [h]
theorem ztZ {mp:List (Nat×Option Nat)} {k:Nat} (h:k < RB):lk mp k=look mp k:=by
 unfold lk;cases look mp k with
 | some q=>rfl
 | none=>simp only;rw [if_neg (by omega)]
theorem zt0 {mp:List (Nat×Option Nat)} {f o x:Nat} (a:f < RB) (b:look mp (rid f x)=none) (h:look mp f=some (some o)):lk mp (rid f x)=some (some (rid o x)):=by
 unfold lk;rw [b];simp only;rw [if_pos (zdX f x),ze1 a,h,zjU a]
theorem zkp {mp:List (Nat×Option Nat)} {k:Nat} {q:Option Nat} (h:lk mp k=some q):look mp k=some q\/(RB<=k/\look mp k=none/\∃ o,look mp (k % RB)=some (some o)/\q=some (rid o (k / RB - 1))):=by
 unfold lk at h;split at h
 ·rename_i c h';exact .inl (by rw [h',h])
 ·rename_i h';right;split at h
  ·rename_i a;split at h
   ·rename_i o b;cases h;exact ⟨a,h',o,b,rfl⟩
   ·cases h
  ·cases h
mutual
def ren (a:Bool) (mp:List (Nat×Option Nat)):AV->Option AV
 | .own i=>match lk mp i with
  | some (some o)=>some (.own o)
  | some none=>some .nil
  | none=>bif a && pinB i then some (.own i) else none
 | .ptr i k=>match lk mp i with
  | some (some o)=>some (.ptr o k)
  | some none=>none
  | none=>bif a && pinB i then some (.ptr i k) else none
 | .eptr i s j k=>match lk mp i with
  | some (some o)=>some (.eptr o s j k)
  | some none=>none
  | none=>bif a && pinB i then some (.eptr i s j k) else none
 | .view i s j k=>match lk mp i with
  | some (some o)=>some (.view o s j k)
  | some none=>none
  | none=>bif a && pinB i then some (.view i s j k) else none
 | .agg l=>match renL a mp l with
  | some b=>some (.agg b)
  | none=>none
 | .tup l=>match renL a mp l with
  | some b=>some (.tup b)
  | none=>none
 | .fn f l=>match renL a mp l with
  | some b=>some (.fn f b)
  | none=>none
 | x=>some x
def renL (a:Bool) (mp:List (Nat×Option Nat)):List AV->Option (List AV)
 | []=>some []
 | x::r=>match ren a mp x with
  | some y=>match renL a mp r with
   | some ys=>some (y::ys)
   | none=>none
  | none=>none
end
def renE (a:Bool) (mp:List (Nat×Option Nat)):Ent->Option Ent
 | .arr E sz bts l=>some (.arr E sz bts l)
 | .box T cells=>match renL a mp cells with
  | some c=>some (.box T c)
  | none=>none
 | .out E bts cells=>match renL a mp cells with
  | some c=>some (.out E bts c)
  | none=>none
theorem zjy {a:Bool} {mp:List (Nat×Option Nat)}:∀ {l' l:List AV},renL a mp l'=some l->l'.length=l.length/\∀ i,i < l.length->ren a mp (l'.getD i default)=some (l.getD i default)
 | [],l,h=>by
  simp only [renL] at h;cases h;exact ⟨rfl,fun i b=>by simp at b⟩
 | x::r,l,h=>by
  simp only [renL] at h;split at h
  ·rename_i y d;split at h
   ·rename_i ys c;cases h;obtain ⟨e,f⟩:=zjy c;refine ⟨by simp [e],fun i b => ?_⟩;cases i with
    | zero=>exact d
    | succ i=>simpa using f i (by simpa using b)
   ·cases h
  ·cases h
def Fits (a:Bool) (mp:List (Nat×Option Nat)) (H H':Hd):Prop:=
 (∀ i o v,lk mp i=some (some o)->H o=some v->H' i=some v)/\(∀ i,lk mp i=some none->H' i=some (.slice none 0 0))/\
 (a=true->∀ i,pinB i=true->lk mp i=none->H' i=H i)
theorem VRel.ren {e:Bool} {mp:List (Nat×Option Nat)} {H H':Hd} (r:Fits e mp H H') {w:World} {S S':Nat->Prop} (F:∀ b,S b->S' b) {x:AV} {v:Value} (h:VRel w S H x v):
  ∀ {m:AV},ren e mp m=some x->VRel w S' H' m v:=by
 induction h with
 | any v=>intro m a;cases m<;>simp only [Ab.ren] at a<;>first | (exact .any v) | (exfalso;revert a;(repeat' split)<;>first | (simp;done) | (generalize (e && pinB _)=q;cases q<;>simp))
 | d x v h=>intro m a;cases m<;>simp only [Ab.ren] at a<;>first | (cases a;exact .d _ _ (h.mono fun b g=>⟨F b g,rfl⟩)) | (exfalso;revert a;(repeat' split)<;>first | (simp;done) | (generalize (e && pinB _)=q;cases q<;>simp))
 | nil=>
  intro m a;cases m with
  | nil=>exact .nil
  | own i=>
   simp only [Ab.ren] at a;split at a
   ·cases a
   ·rename_i p;exact .own i _ (r.2.1 i p) (.inl ⟨_,_,_,rfl⟩)
   ·revert a;cases e && pinB i<;>simp
  | _=>exfalso;revert a;simp only [Ab.ren];(repeat' split)<;>first | (simp;done) | (generalize (e && pinB _)=q;cases q<;>simp)
 | own id v h hs=>
  intro m a;cases m with
  | own i=>
   simp only [Ab.ren] at a;split at a
   ·rename_i o p;cases a;exact .own i _ (r.1 i _ v p h) hs
   ·cases a
   ·rename_i p;cases g:e && pinB i
    ·rw [g] at a;cases a
    ·rw [g] at a;cases a;simp only [Bool.and_eq_true] at g;exact .own _ _ (by rw [r.2.2 g.1 _ g.2 p];exact h) hs
  | _=>exfalso;revert a;simp only [Ab.ren];(repeat' split)<;>first | (simp;done) | (generalize (e && pinB _)=q;cases q<;>simp)
 | ptr id off b h=>
  intro m a;cases m with
  | ptr i k=>
   simp only [Ab.ren] at a;split at a
   ·rename_i o p;cases a;exact .ptr i _ b (r.1 i _ _ p h)
   ·cases a
   ·rename_i p;cases g:e && pinB i
    ·rw [g] at a;cases a
    ·rw [g] at a;cases a;simp only [Bool.and_eq_true] at g;exact .ptr _ _ b (by rw [r.2.2 g.1 _ g.2 p];exact h)
  | _=>exfalso;revert a;simp only [Ab.ren];(repeat' split)<;>first | (simp;done) | (generalize (e && pinB _)=q;cases q<;>simp)
 | eptr id sz i k b J n c h I=>
  intro m a;cases m with
  | eptr t s j N=>
   simp only [Ab.ren] at a;split at a
   ·rename_i o p;cases a;exact .eptr t _ _ _ b J n c (r.1 t _ _ p h) ‹_›
   ·cases a
   ·rename_i p;cases g:e && pinB t
    ·rw [g] at a;cases a
    ·rw [g] at a;cases a;simp only [Bool.and_eq_true] at g;exact .eptr _ _ _ _ b J n c (by rw [r.2.2 g.1 _ g.2 p];exact h) ‹_›
  | _=>exfalso;revert a;simp only [Ab.ren];(repeat' split)<;>first | (simp;done) | (generalize (e && pinB _)=q;cases q<;>simp)
 | view id sz i n u v h L=>
  intro m a;cases m with
  | view t s j N=>
   simp only [Ab.ren] at a;split at a
   ·rename_i o p;cases a;exact .view t _ _ _ u v (r.1 t _ _ p h) L
   ·cases a
   ·rename_i p;cases g:e && pinB t
    ·rw [g] at a;cases a
    ·rw [g] at a;cases a;simp only [Bool.and_eq_true] at g;exact .view _ _ _ _ u v (by rw [r.2.2 g.1 _ g.2 p];exact h) L
  | _=>exfalso;revert a;simp only [Ab.ren];(repeat' split)<;>first | (simp;done) | (generalize (e && pinB _)=q;cases q<;>simp)
 | full bts l O h=>intro m a;cases m<;>simp only [Ab.ren] at a<;>first | (cases a;exact .full _ _ _ (h.mono fun b g=>⟨F b g,rfl⟩)) | (exfalso;revert a;(repeat' split)<;>first | (simp;done) | (generalize (e && pinB _)=q;cases q<;>simp))
 | addr x b off f g y C=>
  intro m a;cases m<;>simp only [Ab.ren] at a<;>first | (cases a;exact .addr _ b off f (F b g) y fun k M=>(C k M).mono fun b g=>⟨F b g,rfl⟩) | (exfalso;revert a;(repeat' split)<;>first | (simp;done) | (generalize (e && pinB _)=q;cases q<;>simp))
 | agg l cs hs _ D=>
  intro m a;cases m with
  | agg E=>
   simp only [Ab.ren] at a;split at a
   ·rename_i l2 z;cases a;obtain ⟨A,B⟩:=zjy z;exact .agg E cs (by rw [hs,A]) fun i I=>D i (by omega) (B i (by omega))
   ·cases a
  | _=>exfalso;revert a;simp only [Ab.ren];(repeat' split)<;>first | (simp;done) | (generalize (e && pinB _)=q;cases q<;>simp)
 | tup l cs hs _ D=>
  intro m a;cases m with
  | tup E=>
   simp only [Ab.ren] at a;split at a
   ·rename_i l2 z;cases a;obtain ⟨A,B⟩:=zjy z;exact .tup E cs (by rw [hs,A]) fun i I=>D i (by omega) (B i (by omega))
   ·cases a
  | _=>exfalso;revert a;simp only [Ab.ren];(repeat' split)<;>first | (simp;done) | (generalize (e && pinB _)=q;cases q<;>simp)
 | fn f l cs hs _ D=>
  intro m a;cases m with
  | fn P E=>
   simp only [Ab.ren] at a;split at a
   ·rename_i l2 z;cases a;obtain ⟨A,B⟩:=zjy z;exact .fn _ E cs (by rw [hs,A]) fun i I=>D i (by omega) (B i (by omega))
   ·cases a
  | _=>exfalso;revert a;simp only [Ab.ren];(repeat' split)<;>first | (simp;done) | (generalize (e && pinB _)=q;cases q<;>simp)
theorem EntRel.arr_mono {w:World} {S S':Nat->Prop} {H H':Hd} (g:∀ b,S b->S' b) {E sz bts:Nat} {l:List D} {v:Value} (h:EntRel w S H (.arr E sz bts l) v):EntRel w S' H' (.arr E sz bts l) v:=by
 cases h with
 | arr _ _ _ _ _ xs d a e f c=>exact .arr E sz bts l v xs d a e f fun i k j m=>(c i k j m).mono fun b n=>⟨g b n,rfl⟩
theorem zC6 {a:Bool} {mp:List (Nat×Option Nat)} {x:AV} {d:D} (h:Ab.ren a mp x=some (.d d)):x = .d d:=by
 cases x<;>revert h<;>simp only [Ab.ren]<;>(repeat' split)<;>first | (simp;done) | (intro h;cases h;rfl) | (generalize (a && pinB _)=q;cases q<;>simp)
theorem EntRel.ren {o:Bool} {mp:List (Nat×Option Nat)} {H H':Hd} (A:Fits o mp H H') {w:World} {S S':Nat->Prop} (p:∀ b,S b->S' b) {e e':Ent} {v:Value} (h:EntRel w S H e v) (f:renE o mp e'=some e):EntRel w S' H' e' v:=by
 cases e' with
 | arr E sz bts l=>
  simp only [renE] at f;cases f;exact h.arr_mono p
 | box T a=>
  simp only [renE] at f;split at f
  ·rename_i c r;cases f;cases h with
   | box _ _ b t k hs d=>
    obtain ⟨n,g⟩:=zjy r;exact .box T a b t k (by rw [hs,n]) fun j B=>(d j (by omega)).ren A p (g j (by omega))
   | mp _ F I ks vs b J m k L M N O u=>
    obtain ⟨n,g⟩:=zjy r
    match a,n,g with
    | [x,y],_,g=>
     have C:=zC6 (by simpa using g 0 (by simp));have D:=zC6 (by simpa using g 1 (by simp));subst C;subst D;exact .mp T F I ks vs b J m k L M (fun i s=>(N i s).mono fun b k=>⟨p b k,rfl⟩) (fun i s=>(O i s).mono fun b k=>⟨p b k,rfl⟩) u
  ·cases f
 | out E bts a=>
  simp only [renE] at f;split at f
  ·rename_i c r;cases f;cases h with
   | out _ _ _ _ xs q z d=>
    obtain ⟨n,g⟩:=zjy r;exact .out E bts a v xs (by rw [n];exact q) (by rw [n];exact z) fun j B=>(d j (by omega)).ren A p (g j (by omega))
  ·cases f
def Cv (mp:List (Nat×Option Nat)) (x a:AV):Prop:=ren true mp a=some x\/(x = .nil/\∃ b,a = .d (.sl b []))
def zrt (mp:List (Nat×Option Nat)) (σ:St) (i:Nat) (e':Ent):Prop:=
 match lk mp i with
 | some (some o)=>∃ e,σ.ent o=some e/\renE true mp e'=some e
 | some none=>(∃ E sz bts,e' = .arr E sz bts []/\0 < sz)\/∃ E bts,e' = .out E bts []
 | none=>pinB i=true/\∃ e,σ.ent i=some e/\renE true mp e'=some e
def zcV:List Nat->Bool
 | []=>true
 | x::r => !(r.contains x) && zcV r
def mpW (mp:List (Nat×Option Nat)) (nxt:Nat):Bool:=
 (mp.all fun p=>Nat.blt p.1 nxt) && Nat.ble nxt LIM && (zcV (mp.filterMap (·.2)) && (mp.filterMap (·.2)).all fun o=>Nat.blt o RB)
theorem zaN {β:Type}:∀ {l:List (Nat×β)} {k:Nat} {v:β},look l k=some v->(k,v)∈l
 | (k',v')::r,k,v,h=>by
  rw [zan] at h;by_cases a:k'=k
  ·rw [if_pos a] at h;cases h;subst a;simp
  ·rw [if_neg a] at h;exact List.mem_cons_of_mem _ (zaN h)
theorem zni:∀ {l:List Nat},zcV l=true->l.Nodup
 | [],_=>List.nodup_nil
 | x::r,h=>by
  simp only [zcV,Bool.and_eq_true,Bool.not_eq_true'] at h;rw [List.nodup_cons];refine ⟨fun a => ?_,zni h.2⟩;have:=h.1;rw [List.contains_eq_mem] at this;simp [a] at this
theorem zC3 {mp:List (Nat×Option Nat)} (h:zcV (mp.filterMap (·.2))=true) {i j o:Nat} (a:look mp i=some (some o)) (b:look mp j=some (some o)):i=j:=by
 have g:=zni h;clear h;induction mp with
 | nil=>cases a
 | cons p r l=>
  obtain ⟨k,q⟩:=p;rw [zan] at a b;cases q with
  | none=>
   by_cases f:k=i
   ·rw [if_pos f] at a;cases a
   ·by_cases e:k=j
    ·rw [if_pos e] at b;cases b
    ·rw [if_neg f] at a;rw [if_neg e] at b;exact l a b (by simpa using g)
  | some q=>
   have c:(q::r.filterMap (·.2)).Nodup:=by simpa using g
   rw [List.nodup_cons] at c;have d:∀ i,look r i=some (some o)->o∈r.filterMap (·.2):=fun i a=>List.mem_filterMap.2 ⟨(i,some o),zaN a,rfl⟩
   by_cases f:k=i
   ·by_cases e:k=j
    ·omega
    ·rw [if_pos f] at a;rw [if_neg e] at b;cases a;exact absurd (d j b) c.1
   ·by_cases e:k=j
    ·rw [if_neg f] at a;rw [if_pos e] at b;cases b;exact absurd (d i a) c.1
    ·rw [if_neg f] at a;rw [if_neg e] at b;exact l a b c.2
theorem zt4 {mp:List (Nat×Option Nat)} (h:((mp.filterMap (·.2)).all fun o=>Nat.blt o RB)=true) {i o:Nat} (a:look mp i=some (some o)):o < RB:=by
 simpa using List.all_eq_true.1 h o (List.mem_filterMap.2 ⟨(i,some o),zaN a,rfl⟩)
theorem zBh {mp:List (Nat×Option Nat)} (h:zcV (mp.filterMap (·.2))=true) (a:((mp.filterMap (·.2)).all fun o=>Nat.blt o RB)=true) {i j o:Nat} (b:lk mp i=some (some o)) (c:lk mp j=some (some o)):i=j:=by
 rcases zkp b with h1 | ⟨h1,_,o1,h2,h3⟩<;>rcases zkp c with k1 | ⟨k1,_,o2,k2,k3⟩
 ·exact zC3 h h1 k1
 ·cases k3;have:=zt4 a h1;have:=zdX o2 (j / RB - 1);omega
 ·cases h3;have:=zt4 a k1;have:=zdX o1 (i / RB - 1);omega
 ·cases h3;injection k3 with k3
  obtain ⟨rfl,e⟩:=zD3 (zt4 a h2) (zt4 a k2) k3;have d:=zC3 h h2 k2;rw [zoH h1,zoH k1,e,d]
def renH (mp:List (Nat×Option Nat)) (H:Hd):Hd:=fun i=>
 match lk mp i with
 | some (some o)=>H o
 | some none=>some (.slice none 0 0)
 | none=>if pinB i=true then H i else none
section
variable {P:Program} {F:Fr} {σ σ':St} {H:Hd} {a:Act} {w:World} {mp:List (Nat×Option Nat)}
theorem zry {nxt:Nat} (h:mpW mp nxt=true) {i:Nat} {q:Option Nat} (b:look mp i=some q):i < nxt/\i < LIM:=by
 simp only [mpW,Bool.and_eq_true] at h;have a:=List.all_eq_true.1 h.1.1 (i,q) (zaN b);have c:nxt<=LIM:=by simpa using h.1.2
 have a:i < nxt:=by simpa using a
 exact ⟨a,by omega⟩
theorem zBi {nxt:Nat} (h:mpW mp nxt=true) {i:Nat} {q:Option Nat} (a:lk mp i=some q):bs i < nxt/\bs i < LIM:=by
 rcases zkp a with h1 | ⟨h1,_,o,h2,_⟩
 ·have:=zry h h1;rw [zwR this.2];exact this
 ·have:=zry h h2;unfold bs;rw [if_pos h1];exact this
theorem zju:Fits true mp H (renH mp H):=by
 refine ⟨fun i o v a b => ?_,fun i a => ?_,fun _ i c d => ?_⟩
 ·unfold renH;rw [a];exact b
 ·unfold renH;rw [a]
 ·unfold renH;rw [d];simp only;rw [if_pos c]
structure SubF (mp:List (Nat×Option Nat)) (σ σ':St):Prop where
 n:σ'.n=σ.n
 ok:mpW mp σ'.nxt=true
 slots:∀ k x',σ'.get k=some x'->x' = .any\/∃ x,σ.get k=some x/\Cv mp x x'
 heap:∀ i e',σ'.ent i=some e'->zrt mp σ i e'
 off:∀ i o,lk mp i=some (some o)->pinB o=true->σ'.ent o=none
theorem SubF.ent' (h:SubF mp σ σ') (r:RelH F σ H a w) {i:Nat} {e':Ent} (k:σ'.ent i=some e'):
  (∃ o e v,σ.ent o=some e/\H o=some v/\renH mp H i=some v/\renE true mp e'=some e/\(lk mp i=some (some o)\/(pinB i=true/\o=i/\lk mp i=none)))\/
  (renH mp H i=some (.slice none 0 0)/\((∃ E sz bts,e' = .arr E sz bts []/\0 < sz)\/∃ E bts,e' = .out E bts [])):=by
 have c:=h.heap i e' k;unfold zrt at c;split at c
 ·rename_i o b;obtain ⟨e,d,g⟩:=c;obtain ⟨v,f,_⟩:=r.ent o e d;exact .inl ⟨o,e,v,d,f,zju.1 i o v b f,g,.inl b⟩
 ·rename_i b;exact .inr ⟨zju.2.1 i b,c⟩
 ·rename_i b;obtain ⟨j,e,d,g⟩:=c;obtain ⟨v,f,_⟩:=r.ent i e d;exact .inl ⟨i,e,v,d,f,by rw [zju.2.2 rfl i j b];exact f,g,.inr ⟨j,rfl,b⟩⟩
theorem SubF.sh (h:SubF mp σ σ') (r:RelH F σ H a w) (b:Nat) (f:Sh F.X σ.ent H w b):Sh F.X σ'.ent (renH mp H) w b:=by
 refine ⟨f.1,f.2.1,fun i e' v j d c => ?_⟩;rcases h.ent' r j with ⟨o,e,u,k,l,g,_,_⟩ | ⟨g,_⟩
 ·rw [g] at d;cases d;exact f.2.2 o e v k l c
 ·rw [g] at d;cases d;simp [blk] at c
theorem Cv.rel {S S':Nat->Prop} {H':Hd} {x c:AV} {v:Value} (d:Fits true mp H H') (e:∀ b,S b->S' b) (a:Cv mp x c) (h:VRel w S H x v):VRel w S' H' c v:=by
 rcases a with a | ⟨rfl,b,rfl⟩
 ·exact h.ren d e a
 ·cases h;exact .d _ _ (.nil _ _ _ (by simp [maxLen]) (fun _=>rfl))
theorem SubF.relH (h:SubF mp σ σ') (r:RelH F σ H a w):RelH F σ' (renH mp H) a w where
 size:=r.size.trans h.n.symm
 defs:=r.defs
 os:=r.os
 tape:=r.tape
 output:=r.output
 grow:=r.grow
 keep:=r.keep
 xlt:=r.xlt
 fresh id h1 h2:=by
  unfold renH;cases hl:lk mp id with
  | none=>
   simp only;rw [if_neg fun hp=>by have:=zoy hp;omega]
  | some q=>have:=(zBi h.ok hl).1;omega
 pin id h1:=by
  unfold renH;cases hl:lk mp id with
  | none=>simp only;rw [if_pos h1];exact r.pin id h1
  | some q=>have:=(zBi h.ok hl).2;have:=zoy h1;omega
 ent i e' hi:=by
  have hS:=h.sh r;rcases h.ent' r hi with ⟨o,e,v,h1,h2,h3,h4,_⟩ | ⟨h3,⟨E,sz,bts,rfl,hsz⟩ | ⟨E,bts,rfl⟩⟩
  ·obtain ⟨u,hu,hr⟩:=r.ent o e h1;rw [h2] at hu;cases hu;exact ⟨v,h3,hr.ren zju hS h4⟩
  ·exact ⟨_,h3,.arr E sz bts [] _ [] hsz (zgL.of_row (World.ownsRow_nil w 0 E sz)) (by simp [most]) (by simp) (by simp)⟩
  ·exact ⟨_,h3,.out E bts [] _ [] (zgL.of_row (World.ownsRow_nil w 0 E 1)) (by simp [most]) (by simp)⟩
 own i e' v b hi hv hb:=by
  rcases h.ent' r hi with ⟨o,e,u,h1,h2,h3,_,_⟩ | ⟨h3,_⟩
  ·rw [h3] at hv;cases hv;exact r.own o e v b h1 h2 hb
  ·rw [h3] at hv;cases hv;simp [blk] at hb
 inj i j e1 e2 u v b h1 h2 h3 h4 h5 h6:=by
  rcases h.ent' r h1 with ⟨o,e,x,g1,g2,g3,_,g4⟩ | ⟨g3,_⟩
  ·rcases h.ent' r h2 with ⟨o',e',x',k1,k2,k3,_,k4⟩ | ⟨k3,_⟩
   ·rw [g3] at h3;cases h3;rw [k3] at h4;cases h4;have:=r.inj o o' e e' u v b g1 k1 g2 k2 h5 h6;subst this;have hw:=h.ok;simp only [mpW,Bool.and_eq_true] at hw;rcases g4 with g4 | ⟨g4,rfl,_⟩<;>rcases k4 with k4 | ⟨k4,k5,_⟩
    ·exact zBh hw.2.1 hw.2.2 g4 k4
    ·subst k5;have:=h.off i _ g4 k4;rw [h2] at this;cases this
    ·have:=h.off j _ k4 g4;rw [h1] at this;cases this
    ·exact k5
   ·rw [k3] at h4;cases h4;simp [blk] at h6
  ·rw [g3] at h3;cases h3;simp [blk] at h5
 slot k x' hx:=by
  rcases h.slots k x' hx with rfl | ⟨x,h1,h2⟩
  ·exact .any _
  ·exact h2.rel zju (h.sh r) (r.slot k x h1)
end
end Go.Ab
