import Derived.Test.YtmogekkikaelhaaAb24n7
set_option linter.unusedVariables false
set_option linter.unusedSimpArgs false
set_option linter.unusedSectionVars false
namespace Go.Ab
open Enc (enc)
open Go.RowKit (Below)
def lk (mp:List (Nat×Option Nat)) (k:Nat):Option (Option Nat):=match look mp k with
 | some q=>some q
 | none=>if RB<=k then (match look mp (k % RB) with
  | some (some o)=>some (some (rid o (k / RB - 1)))
  | _=>none) else none
theorem ziN {mp:List (Nat×Option Nat)} {k:Nat} {q:Option Nat} (h:look mp k=some q):lk mp k=some q:=by unfold lk;rw [h]
theorem zlg {mp:List (Nat×Option Nat)} {k:Nat} (h:k < RB):lk mp k=look mp k:=by
 unfold lk;cases look mp k with
 | some q=>rfl
 | none=>simp only;rw [if_neg (by omega)]
theorem zlh {mp:List (Nat×Option Nat)} {f o x:Nat} (hf:f < RB) (hn:look mp (rid f x)=none) (h:look mp f=some (some o)):lk mp (rid f x)=some (some (rid o x)):=by
 unfold lk;rw [hn];simp only;rw [if_pos (zaP f x),zbc hf,h,zdI hf]
theorem zdh {mp:List (Nat×Option Nat)} {k:Nat} {q:Option Nat} (h:lk mp k=some q):look mp k=some q\/(RB<=k/\look mp k=none/\∃ o,look mp (k % RB)=some (some o)/\q=some (rid o (k / RB - 1))):=by
 unfold lk at h;split at h
 ·rename_i q' h';exact .inl (by rw [h',h])
 ·rename_i h';right;split at h
  ·rename_i hk;split at h
   ·rename_i o ho;cases h;exact ⟨hk,h',o,ho,rfl⟩
   ·cases h
  ·cases h
mutual
def ren (idf:Bool) (mp:List (Nat×Option Nat)):AV->Option AV
 | .own i=>match lk mp i with
  | some (some o)=>some (.own o)
  | some none=>some .nil
  | none=>bif idf && pinB i then some (.own i) else none
 | .ptr i k=>match lk mp i with
  | some (some o)=>some (.ptr o k)
  | some none=>none
  | none=>bif idf && pinB i then some (.ptr i k) else none
 | .eptr i s j k=>match lk mp i with
  | some (some o)=>some (.eptr o s j k)
  | some none=>none
  | none=>bif idf && pinB i then some (.eptr i s j k) else none
 | .view i s j k=>match lk mp i with
  | some (some o)=>some (.view o s j k)
  | some none=>none
  | none=>bif idf && pinB i then some (.view i s j k) else none
 | .agg l=>match renL idf mp l with
  | some l'=>some (.agg l')
  | none=>none
 | .tup l=>match renL idf mp l with
  | some l'=>some (.tup l')
  | none=>none
 | .fn f l=>match renL idf mp l with
  | some l'=>some (.fn f l')
  | none=>none
 | x=>some x
def renL (idf:Bool) (mp:List (Nat×Option Nat)):List AV->Option (List AV)
 | []=>some []
 | x::r=>match ren idf mp x with
  | some y=>match renL idf mp r with
   | some ys=>some (y::ys)
   | none=>none
  | none=>none
end
def renE (idf:Bool) (mp:List (Nat×Option Nat)):Ent->Option Ent
 | .arr E sz bts l=>some (.arr E sz bts l)
 | .box T cells=>match renL idf mp cells with
  | some c=>some (.box T c)
  | none=>none
 | .out E bts cells=>match renL idf mp cells with
  | some c=>some (.out E bts c)
  | none=>none
theorem zdw {idf:Bool} {mp:List (Nat×Option Nat)}:∀ {l' l:List AV},renL idf mp l'=some l->l'.length=l.length/\∀ i,i < l.length->ren idf mp (l'.getD i default)=some (l.getD i default)
 | [],l,h=>by
  simp only [renL] at h;cases h;exact ⟨rfl,fun i hi=>by simp at hi⟩
 | x::r,l,h=>by
  simp only [renL] at h;split at h
  ·rename_i y hy;split at h
   ·rename_i ys hys;cases h;obtain ⟨h1,h2⟩:=zdw hys;refine ⟨by simp [h1],fun i hi => ?_⟩;cases i with
    | zero=>exact hy
    | succ i=>simpa using h2 i (by simpa using hi)
   ·cases h
  ·cases h
def Fits (idf:Bool) (mp:List (Nat×Option Nat)) (H H':Hd):Prop:=
 (∀ i o v,lk mp i=some (some o)->H o=some v->H' i=some v)/\(∀ i,lk mp i=some none->H' i=some (.slice none 0 0))/\
 (idf=true->∀ i,pinB i=true->lk mp i=none->H' i=H i)
theorem VRel.ren {idf:Bool} {mp:List (Nat×Option Nat)} {H H':Hd} (hf:Fits idf mp H H') {w:World} {S S':Nat->Prop} (hS:∀ b,S b->S' b) {x:AV} {v:Value} (h:VRel w S H x v):
  ∀ {x':AV},ren idf mp x'=some x->VRel w S' H' x' v:=by
 induction h with
 | any v=>intro x' hx;cases x'<;>simp only [Ab.ren] at hx<;>first | (exact .any v) | (exfalso;revert hx;(repeat' split)<;>first | (simp;done) | (generalize (idf && pinB _)=q;cases q<;>simp))
 | d x v h=>intro x' hx;cases x'<;>simp only [Ab.ren] at hx<;>first | (cases hx;exact .d _ _ (h.mono fun b hb=>⟨hS b hb,rfl⟩)) | (exfalso;revert hx;(repeat' split)<;>first | (simp;done) | (generalize (idf && pinB _)=q;cases q<;>simp))
 | nil=>
  intro x' hx;cases x' with
  | nil=>exact .nil
  | own i=>
   simp only [Ab.ren] at hx;split at hx
   ·cases hx
   ·rename_i h1;exact .own i _ (hf.2.1 i h1) (.inl ⟨_,_,_,rfl⟩)
   ·revert hx;cases idf && pinB i<;>simp
  | _=>exfalso;revert hx;simp only [Ab.ren];(repeat' split)<;>first | (simp;done) | (generalize (idf && pinB _)=q;cases q<;>simp)
 | own id v h hs=>
  intro x' hx;cases x' with
  | own i=>
   simp only [Ab.ren] at hx;split at hx
   ·rename_i o h1;cases hx;exact .own i _ (hf.1 i _ v h1 h) hs
   ·cases hx
   ·rename_i h1;cases hb:idf && pinB i
    ·rw [hb] at hx;cases hx
    ·rw [hb] at hx;cases hx;simp only [Bool.and_eq_true] at hb;exact .own _ _ (by rw [hf.2.2 hb.1 _ hb.2 h1];exact h) hs
  | _=>exfalso;revert hx;simp only [Ab.ren];(repeat' split)<;>first | (simp;done) | (generalize (idf && pinB _)=q;cases q<;>simp)
 | ptr id off b h=>
  intro x' hx;cases x' with
  | ptr i k=>
   simp only [Ab.ren] at hx;split at hx
   ·rename_i o h1;cases hx;exact .ptr i _ b (hf.1 i _ _ h1 h)
   ·cases hx
   ·rename_i h1;cases hb:idf && pinB i
    ·rw [hb] at hx;cases hx
    ·rw [hb] at hx;cases hx;simp only [Bool.and_eq_true] at hb;exact .ptr _ _ b (by rw [hf.2.2 hb.1 _ hb.2 h1];exact h)
  | _=>exfalso;revert hx;simp only [Ab.ren];(repeat' split)<;>first | (simp;done) | (generalize (idf && pinB _)=q;cases q<;>simp)
 | eptr id sz i k b o0 n c h hi=>
  intro x' hx;cases x' with
  | eptr i0 s j k0=>
   simp only [Ab.ren] at hx;split at hx
   ·rename_i o h1;cases hx;exact .eptr i0 _ _ _ b o0 n c (hf.1 i0 _ _ h1 h) ‹_›
   ·cases hx
   ·rename_i h1;cases hb:idf && pinB i0
    ·rw [hb] at hx;cases hx
    ·rw [hb] at hx;cases hx;simp only [Bool.and_eq_true] at hb;exact .eptr _ _ _ _ b o0 n c (by rw [hf.2.2 hb.1 _ hb.2 h1];exact h) ‹_›
  | _=>exfalso;revert hx;simp only [Ab.ren];(repeat' split)<;>first | (simp;done) | (generalize (idf && pinB _)=q;cases q<;>simp)
 | view id sz i n u v h hv=>
  intro x' hx;cases x' with
  | view i0 s j k0=>
   simp only [Ab.ren] at hx;split at hx
   ·rename_i o h1;cases hx;exact .view i0 _ _ _ u v (hf.1 i0 _ _ h1 h) hv
   ·cases hx
   ·rename_i h1;cases hb:idf && pinB i0
    ·rw [hb] at hx;cases hx
    ·rw [hb] at hx;cases hx;simp only [Bool.and_eq_true] at hb;exact .view _ _ _ _ u v (by rw [hf.2.2 hb.1 _ hb.2 h1];exact h) hv
  | _=>exfalso;revert hx;simp only [Ab.ren];(repeat' split)<;>first | (simp;done) | (generalize (idf && pinB _)=q;cases q<;>simp)
 | full bts l ad h=>intro x' hx;cases x'<;>simp only [Ab.ren] at hx<;>first | (cases hx;exact .full _ _ _ (h.mono fun b hb=>⟨hS b hb,rfl⟩)) | (exfalso;revert hx;(repeat' split)<;>first | (simp;done) | (generalize (idf && pinB _)=q;cases q<;>simp))
 | addr x b off f hb hcell hrel=>
  intro x' hx;cases x'<;>simp only [Ab.ren] at hx<;>first | (cases hx;exact .addr _ b off f (hS b hb) hcell fun k hk=>(hrel k hk).mono fun b hb=>⟨hS b hb,rfl⟩) | (exfalso;revert hx;(repeat' split)<;>first | (simp;done) | (generalize (idf && pinB _)=q;cases q<;>simp))
 | agg l cs hs _ ih=>
  intro x' hx;cases x' with
  | agg l'=>
   simp only [Ab.ren] at hx;split at hx
   ·rename_i l2 h2;cases hx;obtain ⟨h3,h4⟩:=zdw h2;exact .agg l' cs (by rw [hs,h3]) fun i hi=>ih i (by omega) (h4 i (by omega))
   ·cases hx
  | _=>exfalso;revert hx;simp only [Ab.ren];(repeat' split)<;>first | (simp;done) | (generalize (idf && pinB _)=q;cases q<;>simp)
 | tup l cs hs _ ih=>
  intro x' hx;cases x' with
  | tup l'=>
   simp only [Ab.ren] at hx;split at hx
   ·rename_i l2 h2;cases hx;obtain ⟨h3,h4⟩:=zdw h2;exact .tup l' cs (by rw [hs,h3]) fun i hi=>ih i (by omega) (h4 i (by omega))
   ·cases hx
  | _=>exfalso;revert hx;simp only [Ab.ren];(repeat' split)<;>first | (simp;done) | (generalize (idf && pinB _)=q;cases q<;>simp)
 | fn f l cs hs _ ih=>
  intro x' hx;cases x' with
  | fn f' l'=>
   simp only [Ab.ren] at hx;split at hx
   ·rename_i l2 h2;cases hx;obtain ⟨h3,h4⟩:=zdw h2;exact .fn _ l' cs (by rw [hs,h3]) fun i hi=>ih i (by omega) (h4 i (by omega))
   ·cases hx
  | _=>exfalso;revert hx;simp only [Ab.ren];(repeat' split)<;>first | (simp;done) | (generalize (idf && pinB _)=q;cases q<;>simp)
theorem EntRel.arr_mono {w:World} {S S':Nat->Prop} {H H':Hd} (hS:∀ b,S b->S' b) {E sz bts:Nat} {l:List D} {v:Value} (h:EntRel w S H (.arr E sz bts l) v):EntRel w S' H' (.arr E sz bts l) v:=by
 cases h with
 | arr _ _ _ _ _ xs hsz hown hbt hcs hrel=>exact .arr E sz bts l v xs hsz hown hbt hcs fun i hi j hj=>(hrel i hi j hj).mono fun b hb=>⟨hS b hb,rfl⟩
theorem ztm {idf:Bool} {mp:List (Nat×Option Nat)} {x:AV} {d:D} (h:Ab.ren idf mp x=some (.d d)):x = .d d:=by
 cases x<;>revert h<;>simp only [Ab.ren]<;>(repeat' split)<;>first | (simp;done) | (intro h;cases h;rfl) | (generalize (idf && pinB _)=q;cases q<;>simp)
theorem EntRel.ren {idf:Bool} {mp:List (Nat×Option Nat)} {H H':Hd} (hf:Fits idf mp H H') {w:World} {S S':Nat->Prop} (hS:∀ b,S b->S' b) {e e':Ent} {v:Value} (h:EntRel w S H e v) (he:renE idf mp e'=some e):EntRel w S' H' e' v:=by
 cases e' with
 | arr E sz bts l=>
  simp only [renE] at he;cases he;exact h.arr_mono hS
 | box T cells'=>
  simp only [renE] at he;split at he
  ·rename_i c hc;cases he;cases h with
   | box _ _ b cur hb hs hrel=>
    obtain ⟨h3,h4⟩:=zdw hc;exact .box T cells' b cur hb (by rw [hs,h3]) fun j hj=>(hrel j (by omega)).ren hf hS (h4 j (by omega))
   | mp _ kb vb ks vs b es clock hb h1 h2 hk hv hck=>
    obtain ⟨h3,h4⟩:=zdw hc
    match cells',h3,h4 with
    | [x,y],_,h4=>
     have e1:=ztm (by simpa using h4 0 (by simp));have e2:=ztm (by simpa using h4 1 (by simp));subst e1;subst e2;exact .mp T kb vb ks vs b es clock hb h1 h2 (fun i hi=>(hk i hi).mono fun b hb=>⟨hS b hb,rfl⟩) (fun i hi=>(hv i hi).mono fun b hb=>⟨hS b hb,rfl⟩) hck
  ·cases he
 | out E bts cells'=>
  simp only [renE] at he;split at he
  ·rename_i c hc;cases he;cases h with
   | out _ _ _ _ xs hown hbt hrel=>
    obtain ⟨h3,h4⟩:=zdw hc;exact .out E bts cells' v xs (by rw [h3];exact hown) (by rw [h3];exact hbt) fun j hj=>(hrel j (by omega)).ren hf hS (h4 j (by omega))
  ·cases he
def Cv (mp:List (Nat×Option Nat)) (x x':AV):Prop:=ren true mp x'=some x\/(x = .nil/\∃ b,x' = .d (.sl b []))
def zjk (mp:List (Nat×Option Nat)) (σ:St) (i:Nat) (e':Ent):Prop:=
 match lk mp i with
 | some (some o)=>∃ e,σ.ent o=some e/\renE true mp e'=some e
 | some none=>(∃ E sz bts,e' = .arr E sz bts []/\0 < sz)\/∃ E bts,e' = .out E bts []
 | none=>pinB i=true/\∃ e,σ.ent i=some e/\renE true mp e'=some e
def za0:List Nat->Bool
 | []=>true
 | x::r => !(r.contains x) && za0 r
def mpOK (mp:List (Nat×Option Nat)) (nxt:Nat):Bool:=
 (mp.all fun p=>Nat.blt p.1 nxt) && Nat.ble nxt LIM && za0 (mp.filterMap (·.2)) && (mp.filterMap (·.2)).all fun o=>Nat.blt o LIM
def mpW (mp:List (Nat×Option Nat)) (nxt:Nat):Bool:=
 (mp.all fun p=>Nat.blt p.1 nxt) && Nat.ble nxt LIM && (za0 (mp.filterMap (·.2)) && (mp.filterMap (·.2)).all fun o=>Nat.blt o RB)
theorem zu7 {mp:List (Nat×Option Nat)} {nxt:Nat} (h:mpOK mp nxt=true):mpW mp nxt=true:=by
 unfold mpOK at h;unfold mpW;simp only [Bool.and_eq_true] at h ⊢;refine ⟨h.1.1,h.1.2,List.all_eq_true.2 fun o ho => ?_⟩;have:o < LIM:=by simpa using List.all_eq_true.1 h.2 o ho
 have:o < RB:=by unfold LIM at this;unfold RB;omega
 simpa using this
theorem zak {β:Type}:∀ {l:List (Nat×β)} {k:Nat} {v:β},look l k=some v->(k,v)∈l
 | (k',v')::r,k,v,h=>by
  rw [zae] at h;by_cases hk:k'=k
  ·rw [if_pos hk] at h;cases h;subst hk;simp
  ·rw [if_neg hk] at h;exact List.mem_cons_of_mem _ (zak h)
theorem zee:∀ {l:List Nat},za0 l=true->l.Nodup
 | [],_=>List.nodup_nil
 | x::r,h=>by
  simp only [za0,Bool.and_eq_true,Bool.not_eq_true'] at h;rw [List.nodup_cons];refine ⟨fun hm => ?_,zee h.2⟩;have:=h.1;rw [List.contains_eq_mem] at this;simp [hm] at this
theorem ztj {mp:List (Nat×Option Nat)} (h:za0 (mp.filterMap (·.2))=true) {i j o:Nat} (hi:look mp i=some (some o)) (hj:look mp j=some (some o)):i=j:=by
 have hn:=zee h;clear h;induction mp with
 | nil=>cases hi
 | cons p r ih=>
  obtain ⟨k,q⟩:=p;rw [zae] at hi hj;cases q with
  | none=>
   by_cases h1:k=i
   ·rw [if_pos h1] at hi;cases hi
   ·by_cases h2:k=j
    ·rw [if_pos h2] at hj;cases hj
    ·rw [if_neg h1] at hi;rw [if_neg h2] at hj;exact ih hi hj (by simpa using hn)
  | some q=>
   have hn':(q::r.filterMap (·.2)).Nodup:=by simpa using hn
   rw [List.nodup_cons] at hn';have hmem:∀ i,look r i=some (some o)->o∈r.filterMap (·.2):=fun i hi=>List.mem_filterMap.2 ⟨(i,some o),zak hi,rfl⟩
   by_cases h1:k=i
   ·by_cases h2:k=j
    ·omega
    ·rw [if_pos h1] at hi;rw [if_neg h2] at hj;cases hi;exact absurd (hmem j hj) hn'.1
   ·by_cases h2:k=j
    ·rw [if_neg h1] at hi;rw [if_pos h2] at hj;cases hj;exact absurd (hmem i hi) hn'.1
    ·rw [if_neg h1] at hi;rw [if_neg h2] at hj;exact ih hi hj hn'.2
theorem zlk {mp:List (Nat×Option Nat)} (h:((mp.filterMap (·.2)).all fun o=>Nat.blt o RB)=true) {i o:Nat} (hi:look mp i=some (some o)):o < RB:=by
 simpa using List.all_eq_true.1 h o (List.mem_filterMap.2 ⟨(i,some o),zak hi,rfl⟩)
theorem zrM {mp:List (Nat×Option Nat)} (h:za0 (mp.filterMap (·.2))=true) (hv:((mp.filterMap (·.2)).all fun o=>Nat.blt o RB)=true) {i j o:Nat} (hi:lk mp i=some (some o)) (hj:lk mp j=some (some o)):i=j:=by
 rcases zdh hi with h1 | ⟨h1,_,o1,h2,h3⟩<;>rcases zdh hj with k1 | ⟨k1,_,o2,k2,k3⟩
 ·exact ztj h h1 k1
 ·cases k3;have:=zlk hv h1;have:=zaP o2 (j / RB - 1);omega
 ·cases h3;have:=zlk hv k1;have:=zaP o1 (i / RB - 1);omega
 ·cases h3;injection k3 with k3
  obtain ⟨rfl,e⟩:=zfW (zlk hv h2) (zlk hv k2) k3;have e2:=ztj h h2 k2;rw [zfw h1,zfw k1,e,e2]
def renH (mp:List (Nat×Option Nat)) (H:Hd):Hd:=fun i=>
 match lk mp i with
 | some (some o)=>H o
 | some none=>some (.slice none 0 0)
 | none=>if pinB i=true then H i else none
section
variable {P:Program} {F:Fr} {σ σ':St} {H:Hd} {a:Act} {w:World} {mp:List (Nat×Option Nat)}
theorem zib {nxt:Nat} (h:mpW mp nxt=true) {i:Nat} {q:Option Nat} (hi:look mp i=some q):i < nxt/\i < LIM:=by
 simp only [mpW,Bool.and_eq_true] at h;have h1:=List.all_eq_true.1 h.1.1 (i,q) (zak hi);have h2:nxt<=LIM:=by simpa using h.1.2
 have h1:i < nxt:=by simpa using h1
 exact ⟨h1,by omega⟩
theorem zrN {nxt:Nat} (h:mpW mp nxt=true) {i:Nat} {q:Option Nat} (hi:lk mp i=some q):bs i < nxt/\bs i < LIM:=by
 rcases zdh hi with h1 | ⟨h1,_,o,h2,_⟩
 ·have:=zib h h1;rw [znv this.2];exact this
 ·have:=zib h h2;unfold bs;rw [if_pos h1];exact this
theorem mp_key {nxt:Nat} (h:mpOK mp nxt=true) {i:Nat} {q:Option Nat} (hi:look mp i=some q):i < nxt/\i < LIM:=zib (zu7 h) hi
theorem ztk {nxt:Nat} (hok:mpOK mp nxt=true) (i o:Nat) (hi:look mp i=some (some o)):o < LIM:=by
 simp only [mpOK,Bool.and_eq_true] at hok;have:=List.all_eq_true.1 hok.2 o (List.mem_filterMap.2 ⟨(i,some o),zak hi,rfl⟩);simpa using this
theorem zdo:Fits true mp H (renH mp H):=by
 refine ⟨fun i o v hi hv => ?_,fun i hi => ?_,fun _ i hl hn => ?_⟩
 ·unfold renH;rw [hi];exact hv
 ·unfold renH;rw [hi]
 ·unfold renH;rw [hn];simp only;rw [if_pos hl]
structure SubF (mp:List (Nat×Option Nat)) (σ σ':St):Prop where
 n:σ'.n=σ.n
 ok:mpW mp σ'.nxt=true
 slots:∀ k x',σ'.get k=some x'->x' = .any\/∃ x,σ.get k=some x/\Cv mp x x'
 heap:∀ i e',σ'.ent i=some e'->zjk mp σ i e'
 off:∀ i o,lk mp i=some (some o)->pinB o=true->σ'.ent o=none
theorem SubF.ent' (h:SubF mp σ σ') (r:RelH F σ H a w) {i:Nat} {e':Ent} (hi:σ'.ent i=some e'):
  (∃ o e v,σ.ent o=some e/\H o=some v/\renH mp H i=some v/\renE true mp e'=some e/\(lk mp i=some (some o)\/(pinB i=true/\o=i/\lk mp i=none)))\/
  (renH mp H i=some (.slice none 0 0)/\((∃ E sz bts,e' = .arr E sz bts []/\0 < sz)\/∃ E bts,e' = .out E bts [])):=by
 have hh:=h.heap i e' hi;unfold zjk at hh;split at hh
 ·rename_i o ho;obtain ⟨e,h1,h2⟩:=hh;obtain ⟨v,hv,_⟩:=r.ent o e h1;exact .inl ⟨o,e,v,h1,hv,zdo.1 i o v ho hv,h2,.inl ho⟩
 ·rename_i ho;exact .inr ⟨zdo.2.1 i ho,hh⟩
 ·rename_i ho;obtain ⟨hl,e,h1,h2⟩:=hh;obtain ⟨v,hv,_⟩:=r.ent i e h1;exact .inl ⟨i,e,v,h1,hv,by rw [zdo.2.2 rfl i hl ho];exact hv,h2,.inr ⟨hl,rfl,ho⟩⟩
theorem SubF.sh (h:SubF mp σ σ') (r:RelH F σ H a w) (b:Nat) (hb:Sh F.X σ.ent H w b):Sh F.X σ'.ent (renH mp H) w b:=by
 refine ⟨hb.1,hb.2.1,fun i e' v hi hv hbv => ?_⟩;rcases h.ent' r hi with ⟨o,e,u,h1,h2,h3,_,_⟩ | ⟨h3,_⟩
 ·rw [h3] at hv;cases hv;exact hb.2.2 o e v h1 h2 hbv
 ·rw [h3] at hv;cases hv;simp [blk] at hbv
theorem Cv.rel {S S':Nat->Prop} {H':Hd} {x x':AV} {v:Value} (hf:Fits true mp H H') (hS:∀ b,S b->S' b) (hc:Cv mp x x') (h:VRel w S H x v):VRel w S' H' x' v:=by
 rcases hc with hc | ⟨rfl,b,rfl⟩
 ·exact h.ren hf hS hc
 ·cases h;exact .d _ _ (.nil _ _ _ (by simp [maxLen]) (fun _=>rfl))
theorem SubF.relH (h:SubF mp σ σ') (r:RelH F σ H a w):RelH F σ' (renH mp H) a w where
 size:=r.size.trans h.n.symm
 defs:=r.defs
 os:=r.os
 tape:=r.tape
 output:=r.output
 grow:=r.grow
 keep:=r.keep
 xlt:=r.xlt
 fresh id h1 h2:=by
  unfold renH;cases hl:lk mp id with
  | none=>
   simp only;rw [if_neg fun hp=>by have:=zfS hp;omega]
  | some q=>have:=(zrN h.ok hl).1;omega
 pin id h1:=by
  unfold renH;cases hl:lk mp id with
  | none=>simp only;rw [if_pos h1];exact r.pin id h1
  | some q=>have:=(zrN h.ok hl).2;have:=zfS h1;omega
 ent i e' hi:=by
  have hS:=h.sh r;rcases h.ent' r hi with ⟨o,e,v,h1,h2,h3,h4,_⟩ | ⟨h3,⟨E,sz,bts,rfl,hsz⟩ | ⟨E,bts,rfl⟩⟩
  ·obtain ⟨u,hu,hr⟩:=r.ent o e h1;rw [h2] at hu;cases hu;exact ⟨v,h3,hr.ren zdo hS h4⟩
  ·exact ⟨_,h3,.arr E sz bts [] _ [] hsz (zbN.of_row (World.ownsRow_nil w 0 E sz)) (by simp [most]) (by simp) (by simp)⟩
  ·exact ⟨_,h3,.out E bts [] _ [] (zbN.of_row (World.ownsRow_nil w 0 E 1)) (by simp [most]) (by simp)⟩
 own i e' v b hi hv hb:=by
  rcases h.ent' r hi with ⟨o,e,u,h1,h2,h3,_,_⟩ | ⟨h3,_⟩
  ·rw [h3] at hv;cases hv;exact r.own o e v b h1 h2 hb
  ·rw [h3] at hv;cases hv;simp [blk] at hb
 inj i j e1 e2 u v b h1 h2 h3 h4 h5 h6:=by
  rcases h.ent' r h1 with ⟨o,e,x,g1,g2,g3,_,g4⟩ | ⟨g3,_⟩
  ·rcases h.ent' r h2 with ⟨o',e',x',k1,k2,k3,_,k4⟩ | ⟨k3,_⟩
   ·rw [g3] at h3;cases h3;rw [k3] at h4;cases h4;have:=r.inj o o' e e' u v b g1 k1 g2 k2 h5 h6;subst this;have hw:=h.ok;simp only [mpW,Bool.and_eq_true] at hw;rcases g4 with g4 | ⟨g4,rfl,_⟩<;>rcases k4 with k4 | ⟨k4,k5,_⟩
    ·exact zrM hw.2.1 hw.2.2 g4 k4
    ·subst k5;have:=h.off i _ g4 k4;rw [h2] at this;cases this
    ·have:=h.off j _ k4 g4;rw [h1] at this;cases this
    ·exact k5
   ·rw [k3] at h4;cases h4;simp [blk] at h6
  ·rw [g3] at h3;cases h3;simp [blk] at h5
 slot k x' hx:=by
  rcases h.slots k x' hx with rfl | ⟨x,h1,h2⟩
  ·exact .any _
  ·exact h2.rel zdo (h.sh r) (r.slot k x h1)
theorem lk_lim {nxt:Nat} (hok:mpOK mp nxt=true) {i o:Nat} (h:lk mp i=some (some o)):pinB o=false:=by
 rcases zdh h with h1 | ⟨h1,_,o',h2,h3⟩
 ·have:=ztk hok i o h1;cases hp:pinB o with
  | false=>rfl
  | true=>have:=zeK hp;omega
 ·cases h3;have h4:=ztk hok _ o' h2;have h5:o' < RB:=by unfold LIM at h4;unfold RB;omega
  cases hp:pinB (rid o' (i / RB - 1)) with
  | false=>rfl
  | true=>have:=zfS hp;rw [zjG h5] at this;omega
theorem ent_look {σ:St} {i:Nat} {e:Ent} (h:σ.ent i=some e):look σ.heap i=some (some e)\/(look σ.heap i=none/\σ.rows i=some e):=by
 unfold St.ent at h;split at h
 ·rename_i e' he;rw [he,h];exact .inl rfl
 ·rename_i he;exact .inr ⟨he,h⟩
end
end Go.Ab
