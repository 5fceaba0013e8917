import Derived.Test.YtdkmmmmdmkoepaaEv36n21
set_option maxHeartbeats 1000000
set_option maxRecDepth 20000
set_option linter.unusedSimpArgs false
set_option linter.unusedVariables false
set_option linter.unusedSectionVars false
namespace Go.Proofs.Ytdkmmmmdmkoepaa.regularTextW
open Go Go.Ab
noncomputable section
abbrev Tp6:=(List Int)
abbrev Tp5:=(List Bool)
abbrev Tp4:=(List Tp6)
abbrev Tp3:=(Int×Int×Tp6×Unit)
abbrev Tp2:=(List Tp3)
abbrev Tp1:=(Int×Int×Tp4×Tp6×Unit)
abbrev Tf1:=Tp2->Int->Tp6->Tp5->Option Tp5
def ziV (l:Tp6):Option Tp6:=
  G (fits ((l.length:Int)+(3:Int))) (
  G (mkOK (l.length:Int) ((l.length:Int)+(3:Int)) 8) (
  some (l.take (List.replicate ((l.length:Int)).toNat (0:Int)).length++(List.replicate ((l.length:Int)).toNat (0:Int)).drop l.length)))

def zbr (l:Tp4) (r3:Int->Tp4->Option Tp4) (i:Int) (out:Tp4):Option Tp4:=
  if (decide (i < (l.length:Int)))=true then
  G (0<=i/\i < (l.length:Int)) (
  (ziV (ix l i)).bind (fun y'=>
  G (room out ([y']) 24) (
  G (fits (i+(1:Int))) (
  r3 (i+(1:Int)) (out++([y'])))))) else
  some out
def zhR (l:Tp4):(Int×Tp4->Option Tp4)->Int×Tp4->Option Tp4:=
  fun rec x=>zbr l (fun i out=>rec (i,out)) x.1 x.2
def zeM (l:Tp4) (i:Int) (out:Tp4):Option Tp4:=LFix (zhR l ) (i,out)
def ziW (l:Tp4):Option Tp4:=
  zeM l (0:Int) ([])
theorem zjI (r3:Nat->Int->Tp4->Option Tp4) (r3':Int->Tp4->Option Tp4) (h_r3:∀ a0 a1,ChO (fun κ=>r3 κ a0 a1) (r3' a0 a1)) (l i out):ChO (fun κ=>zbr l (r3 κ) i out) (zbr l r3' i out):=by
  unfold zbr
  repeat' with_reducible first | exact ChO.const _ | exact h_r3 _ _ | apply ChO.ite | apply ChO.G | (apply ChO.bind;intro _)
theorem zlu (l):Cn (zhR l):=fun g h hg x=>zjI  _ _ (fun a0 a1=>hg (a0,a1)) l x.1 x.2
theorem zgY (l i out):zeM l i out=zbr l (zeM l) i out:=zay (zlu l) (i,out)

def ziS (d:Tp1):Option Tp1:=
  (ziW d.2.2.1).bind (fun y'=>
  (ziV d.2.2.2.1).bind (fun y'_1=>
  some (d.1,(d.2.1,(y',(y'_1,()))))))

def zib (r:Tp6) (t:Tp1):Option (Bool):=
  some (decide (¬ (r.length:Int)=t.1))

def za8 (s:Tp4) (c:Tp1) (r2:Int->Option (Int)) (t:Int):Option (Int):=
  if (decide (t < (s.length:Int)))=true then
  G (0<=t/\t < (s.length:Int)) (
  (zib (ix s t) c).bind (fun y'=>
  if y'=true then
  some t else
  G (fits (t+(1:Int))) (
  r2 (t+(1:Int))))) else
  some (-1:Int)
def zdT (s:Tp4) (c:Tp1):(Int->Option (Int))->Int->Option (Int):=
  fun rec x=>za8 s c (fun t=>rec t) x
def zcJ (s:Tp4) (c:Tp1) (t:Int):Option (Int):=LFix (zdT s c ) t
def zgz (s:Tp4) (c:Tp1):Option (Int):=
  zcJ s c (0:Int)
theorem zfZ (r2:Nat->Int->Option (Int)) (r2':Int->Option (Int)) (h_r2:∀ a0,ChO (fun κ=>r2 κ a0) (r2' a0)) (s c t):ChO (fun κ=>za8 s c (r2 κ) t) (za8 s c r2' t):=by
  unfold za8
  repeat' with_reducible first | exact ChO.const _ | exact h_r2 _ | apply ChO.ite | apply ChO.G | (apply ChO.bind;intro _)
theorem zgE (s c):Cn (zdT s c):=fun g h hg x=>zfZ  _ _ (fun a=>hg a) s c x
theorem zgF (s c t):zcJ s c t=za8 s c (zcJ s c) t:=zay (zgE s c) t

def zcI (s:Tp4) (c:Tp1):Option (Bool):=
  (zgz s c).bind (fun y'=>
  some (decide ((0:Int)<=y')))

def zdr (q t:Int):Option (Bool):=
  if (decide (q < (0:Int)))=true then
  some true else
  some (decide (t<=q))

def zaV (s:Tp6) (c:Int) (r2:Int->Option (Int)) (t:Int):Option (Int):=
  if (decide (t < (s.length:Int)))=true then
  G (0<=t/\t < (s.length:Int)) (
  (zdr (ix s t) c).bind (fun y'=>
  if y'=true then
  some t else
  G (fits (t+(1:Int))) (
  r2 (t+(1:Int))))) else
  some (-1:Int)
def zdc (s:Tp6) (c:Int):(Int->Option (Int))->Int->Option (Int):=
  fun rec x=>zaV s c (fun t=>rec t) x
def zca (s:Tp6) (c t:Int):Option (Int):=LFix (zdc s c ) t
def ze8 (s:Tp6) (c:Int):Option (Int):=
  zca s c (0:Int)
theorem zeF (r2:Nat->Int->Option (Int)) (r2':Int->Option (Int)) (h_r2:∀ a0,ChO (fun κ=>r2 κ a0) (r2' a0)) (s c t):ChO (fun κ=>zaV s c (r2 κ) t) (zaV s c r2' t):=by
  unfold zaV
  repeat' with_reducible first | exact ChO.const _ | exact h_r2 _ | apply ChO.ite | apply ChO.G | (apply ChO.bind;intro _)
theorem zfV (s c):Cn (zdc s c):=fun g h hg x=>zeF  _ _ (fun a=>hg a) s c x
theorem zfW (s c t):zca s c t=zaV s c (zca s c) t:=zay (zfV s c) t

def zb7 (s:Tp6) (c:Int):Option (Bool):=
  (ze8 s c).bind (fun y'=>
  some (decide ((0:Int)<=y')))

def zf4 (r:Tp6) (c:Int):Option (Bool×Int):=
  (zb7 r c).bind (fun y'=>
  some (y',c))

def zaU (s:Tp4) (r2:Int->Int->Option (Int×Int)) (t l:Int):Option (Int×Int):=
  if (decide (t < (s.length:Int)))=true then
  G (0<=t/\t < (s.length:Int)) (
  (zf4 (ix s t) l).bind (fun y'_3=>
  if y'_3.1=true then
  some (t,y'_3.2) else
  G (fits (t+(1:Int))) (
  r2 (t+(1:Int)) y'_3.2))) else
  some ((-1:Int),l)
def zdb (s:Tp4):(Int×Int->Option (Int×Int))->Int×Int->Option (Int×Int):=
  fun rec x=>zaU s (fun t l=>rec (t,l)) x.1 x.2
def zb9 (s:Tp4) (t l:Int):Option (Int×Int):=LFix (zdb s ) (t,l)
def ze7 (s:Tp4) (c:Int):Option (Int×Int):=
  zb9 s (0:Int) c
theorem zeE (r2:Nat->Int->Int->Option (Int×Int)) (r2':Int->Int->Option (Int×Int)) (h_r2:∀ a0 a1,ChO (fun κ=>r2 κ a0 a1) (r2' a0 a1)) (s t l):ChO (fun κ=>zaU s (r2 κ) t l) (zaU s r2' t l):=by
  unfold zaU
  repeat' with_reducible first | exact ChO.const _ | exact h_r2 _ _ | apply ChO.ite | apply ChO.G | (apply ChO.bind;intro _)
theorem zfT (s):Cn (zdb s):=fun g h hg x=>zeE  _ _ (fun a0 a1=>hg (a0,a1)) s x.1 x.2
theorem zfU (s t l):zb9 s t l=zaU s (zb9 s) t l:=zay (zfT s) (t,l)

def zb6 (s:Tp4) (c:Int):Option (Bool×Int):=
  (ze7 s c).bind (fun y'_3=>
  some (decide ((0:Int)<=y'_3.1),y'_3.2))

def zef (m:Int):Option (Bool):=
  if (decide (¬ m=(0:Int)))=true then
  some (decide (¬ m=(1:Int))) else
  some false

def zaW (s:Tp6) (r2:Int->Option (Int)) (t:Int):Option (Int):=
  if (decide (t < (s.length:Int)))=true then
  G (0<=t/\t < (s.length:Int)) (
  (zef (ix s t)).bind (fun y'=>
  if y'=true then
  some t else
  G (fits (t+(1:Int))) (
  r2 (t+(1:Int))))) else
  some (-1:Int)
def zdd (s:Tp6):(Int->Option (Int))->Int->Option (Int):=
  fun rec x=>zaW s (fun t=>rec t) x
def zcb (s:Tp6) (t:Int):Option (Int):=LFix (zdd s ) t
def ze9 (s:Tp6):Option (Int):=
  zcb s (0:Int)
theorem zeG (r2:Nat->Int->Option (Int)) (r2':Int->Option (Int)) (h_r2:∀ a0,ChO (fun κ=>r2 κ a0) (r2' a0)) (s t):ChO (fun κ=>zaW s (r2 κ) t) (zaW s r2' t):=by
  unfold zaW
  repeat' with_reducible first | exact ChO.const _ | exact h_r2 _ | apply ChO.ite | apply ChO.G | (apply ChO.bind;intro _)
theorem zfX (s):Cn (zdd s):=fun g h hg x=>zeG  _ _ (fun a=>hg a) s x
theorem zfY (s t):zcb s t=zaW s (zcb s) t:=zay (zfX s) t

def zb8 (s:Tp6):Option (Bool):=
  (ze9 s).bind (fun y'=>
  some (decide ((0:Int)<=y')))

def zgH (d:Tp1):Option (Int):=
  if (decide (d.1 < (1:Int)))=true then
  some (2:Int) else
  if (decide ((4:Int) < d.1))=true then
  some (2:Int) else
  if (decide ((d.2.2.1.length:Int) < (1:Int)))=true then
  some (1:Int) else
  if (decide ((3000:Int) < (d.2.2.1.length:Int)))=true then
  some (1:Int) else
  if (decide (¬ (d.2.2.2.1.length:Int)=(d.2.2.1.length:Int)))=true then
  some (3:Int) else
  (zcI d.2.2.1 (d.1,(d.2.1,(d.2.2.1,(d.2.2.2.1,()))))).bind (fun y'=>
  if y'=true then
  some (3:Int) else
  (zdr d.2.1 (d.2.2.1.length:Int)).bind (fun y'_1=>
  if y'_1=true then
  some (2:Int) else
  (zb6 d.2.2.1 (d.2.2.1.length:Int)).bind (fun y'_6=>
  if y'_6.1=true then
  some (2:Int) else
  (zb8 d.2.2.2.1).bind (fun y'_5=>
  if y'_5=true then
  some (2:Int) else
  some (0:Int)))))

def zjx (x' y':Int):Option (Int×Int):=
  G (0<=(32:Int)) (
  G (0<=(32:Int)) (
  G (0<=(32:Int)) (
  G (0<=(32:Int)) (
  G (0<=(32:Int)) (
  some (IntKind.wrap .u64 ((IntKind.wrap .u64 ((IntKind.wrap .u64 ((ishr .u64 x' (32:Int)) * (ishr .u64 y' (32:Int))))+(ishr .u64 (IntKind.wrap .u64 ((IntKind.wrap .u64 ((ishr .u64 x' (32:Int)) * (iand .u64 y' (4294967295:Int))))+(ishr .u64 (IntKind.wrap .u64 ((iand .u64 x' (4294967295:Int)) * (iand .u64 y' (4294967295:Int)))) (32:Int)))) (32:Int))))+(ishr .u64 (IntKind.wrap .u64 ((iand .u64 (IntKind.wrap .u64 ((IntKind.wrap .u64 ((ishr .u64 x' (32:Int)) * (iand .u64 y' (4294967295:Int))))+(ishr .u64 (IntKind.wrap .u64 ((iand .u64 x' (4294967295:Int)) * (iand .u64 y' (4294967295:Int)))) (32:Int)))) (4294967295:Int))+(IntKind.wrap .u64 ((iand .u64 x' (4294967295:Int)) * (ishr .u64 y' (32:Int)))))) (32:Int))),IntKind.wrap .u64 (x' * y')))))))

def zkH (x' y':Int):Option (Int×Int):=
  (zjx x' y').bind (fun y'_4=>
  some (y'_4.1,y'_4.2))

def za9 (r8:Int->(List (List UInt8))->Option (List (List UInt8))) (n:Int) (newslice:(List (List UInt8))):Option (List (List UInt8)):=
  if (decide (n < (newslice.length:Int)))=true then
  G (0<=n/\n<=(newslice.length:Int)) (
  G (0<=n/\n<=(newslice.length:Int)) (
  G (0+((n).toNat)<=newslice.length) (
  G (((n).toNat)+(newslice.length - (n).toNat)<=newslice.length) (
  G (fits (n+((min ((newslice.drop 0).take ((n).toNat)).length (newslice.length - (n).toNat):Nat):Int))) (
  r8 (n+((min ((newslice.drop 0).take ((n).toNat)).length (newslice.length - (n).toNat):Nat):Int)) (newslice.take ((n).toNat)++((newslice.drop 0).take ((n).toNat)).take (min ((newslice.drop 0).take ((n).toNat)).length (newslice.length - (n).toNat))++newslice.drop (((n).toNat)+(min ((newslice.drop 0).take ((n).toNat)).length (newslice.length - (n).toNat))))))))) else
  some newslice
def zfa:(Int×(List (List UInt8))->Option (List (List UInt8)))->Int×(List (List UInt8))->Option (List (List UInt8)):=
  fun rec x=>za9 (fun n newslice=>rec (n,newslice)) x.1 x.2
def zcv (n:Int) (newslice:(List (List UInt8))):Option (List (List UInt8)):=LFix (zfa ) (n,newslice)
def zd5 (x':(List (List UInt8))) (count:Int):Option (List (List UInt8)):=
  if (decide (count < (0:Int)))=true then
  none else
  (zkH (IntKind.wrap .u64 (x'.length:Int)) (IntKind.wrap .u64 count)).bind (fun y'_3=>
  if (decide ((0:Int) < y'_3.1))=true then
  none else
  if (decide ((9223372036854775807:Int) < y'_3.2))=true then
  none else
  G (mkOK (IntKind.wrap .i64 y'_3.2) (IntKind.wrap .i64 y'_3.2) 16) (
  zcv ((min x'.length (List.replicate (IntKind.wrap .i64 y'_3.2).toNat ([]:List UInt8)).length:Nat):Int) (x'.take (List.replicate (IntKind.wrap .i64 y'_3.2).toNat ([]:List UInt8)).length++(List.replicate (IntKind.wrap .i64 y'_3.2).toNat ([]:List UInt8)).drop x'.length)))
theorem zhn (r8:Nat->Int->(List (List UInt8))->Option (List (List UInt8))) (r8':Int->(List (List UInt8))->Option (List (List UInt8))) (h_r8:∀ a0 a1,ChO (fun κ=>r8 κ a0 a1) (r8' a0 a1)) (n newslice):ChO (fun κ=>za9 (r8 κ) n newslice) (za9 r8' n newslice):=by
  unfold za9
  repeat' with_reducible first | exact ChO.const _ | exact h_r8 _ _ | apply ChO.ite | apply ChO.G
theorem ziu:Cn (zfa):=fun g h hg x=>zhn  _ _ (fun a0 a1=>hg (a0,a1))  x.1 x.2
theorem ziv (n newslice):zcv n newslice=za9 (zcv) n newslice:=zay (ziu ) (n,newslice)

def zdO (a b:(List UInt8)):Option (List UInt8):=
  if (decide (a=([48])))=true then
  some b else
  if (decide (a=b))=true then
  some b else
  if (decide (b=([48])))=true then
  some a else
  G ((a.length:Int)+([43]).length<=9223372036854775807) (
  G (((a++([43])).length:Int)+b.length<=9223372036854775807) (
  some ((a++([43]))++b)))

def zbB (a:(List UInt8)):Option (List UInt8):=
  if (decide ((a.length:Int)=(1:Int)))=true then
  some a else
  G ((([40]).length:Int)+a.length<=9223372036854775807) (
  G (((([40])++a).length:Int)+([41]).length<=9223372036854775807) (
  some ((([40])++a)++([41]))))

def ze3 (a:(List UInt8)):Option (List UInt8):=
  if (decide (a=([48])))=true then
  some ([49]) else
  if (decide (a=([49])))=true then
  some ([49]) else
  (zbB a).bind (fun y'=>
  G ((y'.length:Int)+([42]).length<=9223372036854775807) (
  some (y'++([42]))))

def zc6 (a b:(List UInt8)):Option (List UInt8):=
  if (decide (a=([48])))=true then
  some ([48]) else
  if (decide (b=([48])))=true then
  some ([48]) else
  if (decide (a=([49])))=true then
  some b else
  if (decide (b=([49])))=true then
  some a else
  (zbB a).bind (fun y'=>
  (zbB b).bind (fun y'_1=>
  G ((y'.length:Int)+y'_1.length<=9223372036854775807) (
  some (y'++y'_1))))

def zaP (d:Tp1) (t_2:Int) (r15:(Int->(List (List (List UInt8)))->Option ((List UInt8)×Int))) (r18:Int->(List (List (List UInt8)))->Option ((List UInt8)×Int)) (t_4:Int) (t_5:(List (List (List UInt8)))):Option ((List UInt8)×Int):=
  if (decide (t_4 < ((ix d.2.2.1 t_2).length:Int)))=true then
  G (0<=t_4/\t_4 < ((ix d.2.2.1 t_2).length:Int)) (
  G (0<=t_2/\t_2 < (t_5.length:Int)) (
  G ((t_2).toNat < t_5.length) (
  G (0<=t_2/\t_2 < (t_5.length:Int)) (
  G ((t_2).toNat < t_5.length) (
  G (0<=ix (ix d.2.2.1 t_2) t_4/\ix (ix d.2.2.1 t_2) t_4 < ((ix t_5 t_2).length:Int)) (
  G ((ix (ix d.2.2.1 t_2) t_4).toNat < (ix t_5 t_2).length) (
  G (fits ((97:Int)+t_4)) (
  G (0<=(IntKind.wrap .i32 ((97:Int)+t_4))/\(IntKind.wrap .i32 ((97:Int)+t_4)) < 128) (
  (zdO (ix (ix t_5 t_2) (ix (ix d.2.2.1 t_2) t_4)) ([UInt8.ofNat (IntKind.wrap .i32 ((97:Int)+t_4)).toNat])).bind (fun y'_2=>
  G (0<=ix (ix d.2.2.1 t_2) t_4/\ix (ix d.2.2.1 t_2) t_4 < ((ix t_5 t_2).length:Int)) (
  G ((ix (ix d.2.2.1 t_2) t_4).toNat < (ix t_5 t_2).length) (
  G (fits (t_4+(1:Int))) (
  r18 (t_4+(1:Int)) (t_5.set (t_2).toNat ((ix t_5 t_2).set (ix (ix d.2.2.1 t_2) t_4).toNat y'_2))))))))))))))) else
  G (0<=t_2/\t_2 < (d.2.2.2.1.length:Int)) (
  if (decide ((ix d.2.2.2.1 t_2)=(1:Int)))=true then
  G (0<=t_2/\t_2 < (t_5.length:Int)) (
  G ((t_2).toNat < t_5.length) (
  G (fits ((d.2.2.1.length:Int)+(1:Int))) (
  G (0<=(d.2.2.1.length:Int)+(1:Int)/\(d.2.2.1.length:Int)+(1:Int) < ((ix t_5 t_2).length:Int)) (
  G (((d.2.2.1.length:Int)+(1:Int)).toNat < (ix t_5 t_2).length) (
  G (fits (t_2+(1:Int))) (
  r15 (t_2+(1:Int)) (t_5.set (t_2).toNat ((ix t_5 t_2).set ((d.2.2.1.length:Int)+(1:Int)).toNat ([49]))))))))) else
  G (fits (t_2+(1:Int))) (
  r15 (t_2+(1:Int)) t_5))
def zeW (d:Tp1) (t_2:Int) (r15:(Int->(List (List (List UInt8)))->Option ((List UInt8)×Int))):(Int×(List (List (List UInt8)))->Option ((List UInt8)×Int))->Int×(List (List (List UInt8)))->Option ((List UInt8)×Int):=
  fun rec x=>zaP d t_2 r15 (fun t_4 t_5=>rec (t_4,t_5)) x.1 x.2
def zba (d:Tp1) (t_2:Int) (r15:(Int->(List (List (List UInt8)))->Option ((List UInt8)×Int))) (t_4:Int) (t_5:(List (List (List UInt8)))):Option ((List UInt8)×Int):=LFix (zeW d t_2 r15 ) (t_4,t_5)
def zaZ (t_6:Int) (y'_3:(List UInt8)) (t_8 t_10:Int) (t_11:(List (List (List UInt8)))) (r33:(Int->(List (List (List UInt8)))->Option ((List UInt8)×Int))) (t_12:Bool):Option ((List UInt8)×Int):=
  if t_12=true then
  G (0<=t_8/\t_8 < (t_11.length:Int)) (
  G ((t_8).toNat < t_11.length) (
  G (0<=t_8/\t_8 < (t_11.length:Int)) (
  G ((t_8).toNat < t_11.length) (
  G (0<=t_10/\t_10 < ((ix t_11 t_8).length:Int)) (
  G ((t_10).toNat < (ix t_11 t_8).length) (
  G (0<=t_8/\t_8 < (t_11.length:Int)) (
  G ((t_8).toNat < t_11.length) (
  G (0<=t_6/\t_6 < ((ix t_11 t_8).length:Int)) (
  G ((t_6).toNat < (ix t_11 t_8).length) (
  G (0<=t_6/\t_6 < (t_11.length:Int)) (
  G ((t_6).toNat < t_11.length) (
  G (0<=t_10/\t_10 < ((ix t_11 t_6).length:Int)) (
  G ((t_10).toNat < (ix t_11 t_6).length) (
  (zc6 (ix (ix t_11 t_8) t_6) y'_3).bind (fun y'_4=>
  (zc6 y'_4 (ix (ix t_11 t_6) t_10)).bind (fun y'_5=>
  (zdO (ix (ix t_11 t_8) t_10) y'_5).bind (fun y'_6=>
  G (0<=t_10/\t_10 < ((ix t_11 t_8).length:Int)) (
  G ((t_10).toNat < (ix t_11 t_8).length) (
  G (fits (t_10+(1:Int))) (
  r33 (t_10+(1:Int)) (t_11.set (t_8).toNat ((ix t_11 t_8).set (t_10).toNat y'_6)))))))))))))))))))))) else
  G (fits (t_10+(1:Int))) (
  r33 (t_10+(1:Int)) t_11)
def zaS (t_6:Int) (y'_3:(List UInt8)) (t_8:Int) (t_9:(List (List (List UInt8)))) (r30:(Int->(List (List (List UInt8)))->Option ((List UInt8)×Int))) (r33:Int->(List (List (List UInt8)))->Option ((List UInt8)×Int)) (t_10:Int) (t_11:(List (List (List UInt8)))):Option ((List UInt8)×Int):=
  if (decide (t_10 < (t_9.length:Int)))=true then
  if (decide (¬ t_8=t_6))=true then
  zaZ t_6 y'_3 t_8 t_10 t_11 r33 (decide (¬ t_10=t_6)) else
  zaZ t_6 y'_3 t_8 t_10 t_11 r33 false else
  G (fits (t_8+(1:Int))) (
  r30 (t_8+(1:Int)) t_11)
def zeZ (t_6:Int) (y'_3:(List UInt8)) (t_8:Int) (t_9:(List (List (List UInt8)))) (r30:(Int->(List (List (List UInt8)))->Option ((List UInt8)×Int))):(Int×(List (List (List UInt8)))->Option ((List UInt8)×Int))->Int×(List (List (List UInt8)))->Option ((List UInt8)×Int):=
  fun rec x=>zaS t_6 y'_3 t_8 t_9 r30 (fun t_10 t_11=>rec (t_10,t_11)) x.1 x.2
def za1 (t_6:Int) (y'_3:(List UInt8)) (t_8:Int) (t_9:(List (List (List UInt8)))) (r30:(Int->(List (List (List UInt8)))->Option ((List UInt8)×Int))) (t_10:Int) (t_11:(List (List (List UInt8)))):Option ((List UInt8)×Int):=LFix (zeZ t_6 y'_3 t_8 t_9 r30 ) (t_10,t_11)
def zaT (t_6:Int) (r26:(Int->(List (List (List UInt8)))->Option ((List UInt8)×Int))) (t_9:(List (List (List UInt8)))) (r40:Int->(List (List (List UInt8)))->Option ((List UInt8)×Int)) (t_13:Int) (t_14:(List (List (List UInt8)))):Option ((List UInt8)×Int):=
  if (decide (t_13 < (t_9.length:Int)))=true then
  G (0<=t_13/\t_13 < (t_14.length:Int)) (
  G ((t_13).toNat < t_14.length) (
  G (0<=t_6/\t_6 < (t_14.length:Int)) (
  G ((t_6).toNat < t_14.length) (
  G (0<=t_6/\t_6 < ((ix t_14 t_13).length:Int)) (
  G ((t_6).toNat < (ix t_14 t_13).length) (
  G (0<=t_13/\t_13 < ((ix (t_14.set (t_13).toNat ((ix t_14 t_13).set (t_6).toNat ([48]))) t_6).length:Int)) (
  G ((t_13).toNat < (ix (t_14.set (t_13).toNat ((ix t_14 t_13).set (t_6).toNat ([48]))) t_6).length) (
  G (fits (t_13+(1:Int))) (
  r40 (t_13+(1:Int)) ((t_14.set (t_13).toNat ((ix t_14 t_13).set (t_6).toNat ([48]))).set (t_6).toNat ((ix (t_14.set (t_13).toNat ((ix t_14 t_13).set (t_6).toNat ([48]))) t_6).set (t_13).toNat ([48])))))))))))) else
  G (fits (t_6+(1:Int))) (
  r26 (t_6+(1:Int)) t_14)
def ze0 (t_6:Int) (r26:(Int->(List (List (List UInt8)))->Option ((List UInt8)×Int))) (t_9:(List (List (List UInt8)))):(Int×(List (List (List UInt8)))->Option ((List UInt8)×Int))->Int×(List (List (List UInt8)))->Option ((List UInt8)×Int):=
  fun rec x=>zaT t_6 r26 t_9 (fun t_13 t_14=>rec (t_13,t_14)) x.1 x.2
def za2 (t_6:Int) (r26:(Int->(List (List (List UInt8)))->Option ((List UInt8)×Int))) (t_9:(List (List (List UInt8)))) (t_13:Int) (t_14:(List (List (List UInt8)))):Option ((List UInt8)×Int):=LFix (ze0 t_6 r26 t_9 ) (t_13,t_14)
def zaR (t_6:Int) (t_7:(List (List (List UInt8)))) (r26:(Int->(List (List (List UInt8)))->Option ((List UInt8)×Int))) (y'_3:(List UInt8)) (r30:Int->(List (List (List UInt8)))->Option ((List UInt8)×Int)) (t_8:Int) (t_9:(List (List (List UInt8)))):Option ((List UInt8)×Int):=
  if (decide (t_8 < (t_7.length:Int)))=true then
  za1 t_6 y'_3 t_8 t_9 r30 (0:Int) t_9 else
  za2 t_6 r26 t_9 (0:Int) t_9
def zeY (t_6:Int) (t_7:(List (List (List UInt8)))) (r26:(Int->(List (List (List UInt8)))->Option ((List UInt8)×Int))) (y'_3:(List UInt8)):(Int×(List (List (List UInt8)))->Option ((List UInt8)×Int))->Int×(List (List (List UInt8)))->Option ((List UInt8)×Int):=
  fun rec x=>zaR t_6 t_7 r26 y'_3 (fun t_8 t_9=>rec (t_8,t_9)) x.1 x.2
def za0 (t_6:Int) (t_7:(List (List (List UInt8)))) (r26:(Int->(List (List (List UInt8)))->Option ((List UInt8)×Int))) (y'_3:(List UInt8)) (t_8:Int) (t_9:(List (List (List UInt8)))):Option ((List UInt8)×Int):=LFix (zeY t_6 t_7 r26 y'_3 ) (t_8,t_9)
def zaQ (d:Tp1) (r26:Int->(List (List (List UInt8)))->Option ((List UInt8)×Int)) (t_6:Int) (t_7:(List (List (List UInt8)))):Option ((List UInt8)×Int):=
  if (decide (t_6 < (d.2.2.1.length:Int)))=true then
  G (0<=t_6/\t_6 < (t_7.length:Int)) (
  G ((t_6).toNat < t_7.length) (
  G (0<=t_6/\t_6 < ((ix t_7 t_6).length:Int)) (
  G ((t_6).toNat < (ix t_7 t_6).length) (
  (ze3 (ix (ix t_7 t_6) t_6)).bind (fun y'_3=>
  za0 t_6 t_7 r26 y'_3 (0:Int) t_7))))) else
  G (0<=(d.2.2.1.length:Int)/\(d.2.2.1.length:Int) < (t_7.length:Int)) (
  G (((d.2.2.1.length:Int)).toNat < t_7.length) (
  G (fits ((d.2.2.1.length:Int)+(1:Int))) (
  G (0<=(d.2.2.1.length:Int)+(1:Int)/\(d.2.2.1.length:Int)+(1:Int) < ((ix t_7 (d.2.2.1.length:Int)).length:Int)) (
  G (((d.2.2.1.length:Int)+(1:Int)).toNat < (ix t_7 (d.2.2.1.length:Int)).length) (
  some (ix (ix t_7 (d.2.2.1.length:Int)) ((d.2.2.1.length:Int)+(1:Int)),(0:Int)))))))
def zeX (d:Tp1):(Int×(List (List (List UInt8)))->Option ((List UInt8)×Int))->Int×(List (List (List UInt8)))->Option ((List UInt8)×Int):=
  fun rec x=>zaQ d (fun t_6 t_7=>rec (t_6,t_7)) x.1 x.2
def zaG (d:Tp1) (t_6:Int) (t_7:(List (List (List UInt8)))):Option ((List UInt8)×Int):=LFix (zeX d ) (t_6,t_7)
def zaO (d:Tp1) (r15:Int->(List (List (List UInt8)))->Option ((List UInt8)×Int)) (t_2:Int) (t_3:(List (List (List UInt8)))):Option ((List UInt8)×Int):=
  if (decide (t_2 < (d.2.2.1.length:Int)))=true then
  G (0<=t_2/\t_2 < (d.2.2.1.length:Int)) (
  zba d t_2 r15 (0:Int) t_3) else
  zaG d (0:Int) t_3
def zeV (d:Tp1):(Int×(List (List (List UInt8)))->Option ((List UInt8)×Int))->Int×(List (List (List UInt8)))->Option ((List UInt8)×Int):=
  fun rec x=>zaO d (fun t_2 t_3=>rec (t_2,t_3)) x.1 x.2
def zbk (d:Tp1) (t_2:Int) (t_3:(List (List (List UInt8)))):Option ((List UInt8)×Int):=LFix (zeV d ) (t_2,t_3)
def za5 (d:Tp1) (r9:Int->(List (List (List UInt8)))->Option ((List UInt8)×Int)) (t:Int) (t_1:(List (List (List UInt8)))):Option ((List UInt8)×Int):=
  if (decide (t < ((List.replicate ((d.2.2.1.length:Int)+(2:Int)).toNat ([]:List (List UInt8))).length:Int)))=true then
  G (fits ((d.2.2.1.length:Int)+(2:Int))) (
  (zd5 ([[48]]) ((d.2.2.1.length:Int)+(2:Int))).bind (fun y'_1=>
  G (0<=t/\t < (t_1.length:Int)) (
  G (fits (t+(1:Int))) (
  r9 (t+(1:Int)) (t_1.set (t).toNat y'_1))))) else
  G (0<=(d.2.2.1.length:Int)/\(d.2.2.1.length:Int) < (t_1.length:Int)) (
  G (((d.2.2.1.length:Int)).toNat < t_1.length) (
  G (0<=d.2.1/\d.2.1 < ((ix t_1 (d.2.2.1.length:Int)).length:Int)) (
  G ((d.2.1).toNat < (ix t_1 (d.2.2.1.length:Int)).length) (
  zbk d (0:Int) (t_1.set ((d.2.2.1.length:Int)).toNat ((ix t_1 (d.2.2.1.length:Int)).set (d.2.1).toNat ([49])))))))
def zfL (d:Tp1):(Int×(List (List (List UInt8)))->Option ((List UInt8)×Int))->Int×(List (List (List UInt8)))->Option ((List UInt8)×Int):=
  fun rec x=>za5 d (fun t t_1=>rec (t,t_1)) x.1 x.2
def zbA (d:Tp1) (t:Int) (t_1:(List (List (List UInt8)))):Option ((List UInt8)×Int):=LFix (zfL d ) (t,t_1)
def zbD (d:Tp1):Option ((List UInt8)×Int):=
  (zgH (d.1,(d.2.1,(d.2.2.1,(d.2.2.2.1,()))))).bind (fun y'=>
  if (decide (¬ y'=(0:Int)))=true then
  some ([],y') else
  if (decide ((3:Int) < (d.2.2.1.length:Int)))=true then
  some ([],(1:Int)) else
  G (fits ((d.2.2.1.length:Int)+(2:Int))) (
  G (mkOK ((d.2.2.1.length:Int)+(2:Int)) ((d.2.2.1.length:Int)+(2:Int)) 24) (
  zbA d (0:Int) (List.replicate ((d.2.2.1.length:Int)+(2:Int)).toNat ([]:List (List UInt8))))))
theorem zdK (r15:Nat->Int->(List (List (List UInt8)))->Option ((List UInt8)×Int)) (r15':Int->(List (List (List UInt8)))->Option ((List UInt8)×Int)) (h_r15:∀ a0 a1,ChO (fun κ=>r15 κ a0 a1) (r15' a0 a1)) (r18:Nat->Int->(List (List (List UInt8)))->Option ((List UInt8)×Int)) (r18':Int->(List (List (List UInt8)))->Option ((List UInt8)×Int)) (h_r18:∀ a0 a1,ChO (fun κ=>r18 κ a0 a1) (r18' a0 a1)) (d t_2 t_4 t_5):ChO (fun κ=>zaP d t_2 (r15 κ) (r18 κ) t_4 t_5) (zaP d t_2 r15' r18' t_4 t_5):=by
  unfold zaP
  repeat' with_reducible first | exact ChO.const _ | exact h_r15 _ _ | exact h_r18 _ _ | apply ChO.ite | apply ChO.G | (apply ChO.bind;intro _)
theorem zcE (r15 d t_2):Cn (zeW d t_2 r15):=fun g h hg x=>zdK (fun _=>r15) r15 (fun _ _=>ChO.const _) _ _ (fun a0 a1=>hg (a0,a1)) d t_2 x.1 x.2
theorem zer (r15 d t_2 t_4 t_5):zba d t_2 r15 t_4 t_5=zaP d t_2 r15 (zba d t_2 r15) t_4 t_5:=zay (zcE r15 d t_2) (t_4,t_5)
theorem zin (r15:Nat->Int->(List (List (List UInt8)))->Option ((List UInt8)×Int)) (r15':Int->(List (List (List UInt8)))->Option ((List UInt8)×Int)) (h_r15:∀ a0 a1,ChO (fun κ=>r15 κ a0 a1) (r15' a0 a1)) (d t_2 t_4 t_5):ChO (fun κ=>zba d t_2 (r15 κ) t_4 t_5) (zba d t_2 r15' t_4 t_5):=by
  unfold zba
  exact zdo (fun κ=>(zcE (r15 κ) d t_2).mono) (zcE r15' d t_2).mono (fun g h hg x=>zdK r15 r15' h_r15 _ _ (fun a0 a1=>hg (a0,a1)) d t_2 x.1 x.2) _
theorem zil (r33:Nat->Int->(List (List (List UInt8)))->Option ((List UInt8)×Int)) (r33':Int->(List (List (List UInt8)))->Option ((List UInt8)×Int)) (h_r33:∀ a0 a1,ChO (fun κ=>r33 κ a0 a1) (r33' a0 a1)) (t_6 y'_3 t_8 t_10 t_11 t_12):ChO (fun κ=>zaZ t_6 y'_3 t_8 t_10 t_11 (r33 κ) t_12) (zaZ t_6 y'_3 t_8 t_10 t_11 r33' t_12):=by
  unfold zaZ
  repeat' with_reducible first | exact ChO.const _ | exact h_r33 _ _ | apply ChO.ite | apply ChO.G | (apply ChO.bind;intro _)
theorem zdM (r30:Nat->Int->(List (List (List UInt8)))->Option ((List UInt8)×Int)) (r30':Int->(List (List (List UInt8)))->Option ((List UInt8)×Int)) (h_r30:∀ a0 a1,ChO (fun κ=>r30 κ a0 a1) (r30' a0 a1)) (r33:Nat->Int->(List (List (List UInt8)))->Option ((List UInt8)×Int)) (r33':Int->(List (List (List UInt8)))->Option ((List UInt8)×Int)) (h_r33:∀ a0 a1,ChO (fun κ=>r33 κ a0 a1) (r33' a0 a1)) (t_6 y'_3 t_8 t_9 t_10 t_11):ChO (fun κ=>zaS t_6 y'_3 t_8 t_9 (r30 κ) (r33 κ) t_10 t_11) (zaS t_6 y'_3 t_8 t_9 r30' r33' t_10 t_11):=by
  unfold zaS
  repeat' with_reducible first | exact ChO.const _ | exact h_r30 _ _ | exact h_r33 _ _ | (apply zil<;>assumption) | apply ChO.ite | apply ChO.G
theorem zcG (r30 t_6 y'_3 t_8 t_9):Cn (zeZ t_6 y'_3 t_8 t_9 r30):=fun g h hg x=>zdM (fun _=>r30) r30 (fun _ _=>ChO.const _) _ _ (fun a0 a1=>hg (a0,a1)) t_6 y'_3 t_8 t_9 x.1 x.2
theorem zeu (r30 t_6 y'_3 t_8 t_9 t_10 t_11):za1 t_6 y'_3 t_8 t_9 r30 t_10 t_11=zaS t_6 y'_3 t_8 t_9 r30 (za1 t_6 y'_3 t_8 t_9 r30) t_10 t_11:=zay (zcG r30 t_6 y'_3 t_8 t_9) (t_10,t_11)
theorem zir (r30:Nat->Int->(List (List (List UInt8)))->Option ((List UInt8)×Int)) (r30':Int->(List (List (List UInt8)))->Option ((List UInt8)×Int)) (h_r30:∀ a0 a1,ChO (fun κ=>r30 κ a0 a1) (r30' a0 a1)) (t_6 y'_3 t_8 t_9 t_10 t_11):ChO (fun κ=>za1 t_6 y'_3 t_8 t_9 (r30 κ) t_10 t_11) (za1 t_6 y'_3 t_8 t_9 r30' t_10 t_11):=by
  unfold za1
  exact zdo (fun κ=>(zcG (r30 κ) t_6 y'_3 t_8 t_9).mono) (zcG r30' t_6 y'_3 t_8 t_9).mono (fun g h hg x=>zdM r30 r30' h_r30 _ _ (fun a0 a1=>hg (a0,a1)) t_6 y'_3 t_8 t_9 x.1 x.2) _
theorem zdN (r26:Nat->Int->(List (List (List UInt8)))->Option ((List UInt8)×Int)) (r26':Int->(List (List (List UInt8)))->Option ((List UInt8)×Int)) (h_r26:∀ a0 a1,ChO (fun κ=>r26 κ a0 a1) (r26' a0 a1)) (r40:Nat->Int->(List (List (List UInt8)))->Option ((List UInt8)×Int)) (r40':Int->(List (List (List UInt8)))->Option ((List UInt8)×Int)) (h_r40:∀ a0 a1,ChO (fun κ=>r40 κ a0 a1) (r40' a0 a1)) (t_6 t_9 t_13 t_14):ChO (fun κ=>zaT t_6 (r26 κ) t_9 (r40 κ) t_13 t_14) (zaT t_6 r26' t_9 r40' t_13 t_14):=by
  unfold zaT
  repeat' with_reducible first | exact ChO.const _ | exact h_r26 _ _ | exact h_r40 _ _ | apply ChO.ite | apply ChO.G
theorem zcH (r26 t_6 t_9):Cn (ze0 t_6 r26 t_9):=fun g h hg x=>zdN (fun _=>r26) r26 (fun _ _=>ChO.const _) _ _ (fun a0 a1=>hg (a0,a1)) t_6 t_9 x.1 x.2
theorem zev (r26 t_6 t_9 t_13 t_14):za2 t_6 r26 t_9 t_13 t_14=zaT t_6 r26 t_9 (za2 t_6 r26 t_9) t_13 t_14:=zay (zcH r26 t_6 t_9) (t_13,t_14)
theorem zis (r26:Nat->Int->(List (List (List UInt8)))->Option ((List UInt8)×Int)) (r26':Int->(List (List (List UInt8)))->Option ((List UInt8)×Int)) (h_r26:∀ a0 a1,ChO (fun κ=>r26 κ a0 a1) (r26' a0 a1)) (t_6 t_9 t_13 t_14):ChO (fun κ=>za2 t_6 (r26 κ) t_9 t_13 t_14) (za2 t_6 r26' t_9 t_13 t_14):=by
  unfold za2
  exact zdo (fun κ=>(zcH (r26 κ) t_6 t_9).mono) (zcH r26' t_6 t_9).mono (fun g h hg x=>zdN r26 r26' h_r26 _ _ (fun a0 a1=>hg (a0,a1)) t_6 t_9 x.1 x.2) _
theorem zdL (r26:Nat->Int->(List (List (List UInt8)))->Option ((List UInt8)×Int)) (r26':Int->(List (List (List UInt8)))->Option ((List UInt8)×Int)) (h_r26:∀ a0 a1,ChO (fun κ=>r26 κ a0 a1) (r26' a0 a1)) (r30:Nat->Int->(List (List (List UInt8)))->Option ((List UInt8)×Int)) (r30':Int->(List (List (List UInt8)))->Option ((List UInt8)×Int)) (h_r30:∀ a0 a1,ChO (fun κ=>r30 κ a0 a1) (r30' a0 a1)) (t_6 t_7 y'_3 t_8 t_9):ChO (fun κ=>zaR t_6 t_7 (r26 κ) y'_3 (r30 κ) t_8 t_9) (zaR t_6 t_7 r26' y'_3 r30' t_8 t_9):=by
  unfold zaR
  repeat' with_reducible first | exact ChO.const _ | exact h_r26 _ _ | exact h_r30 _ _ | (apply zir<;>assumption) | (apply zis<;>assumption) | apply ChO.ite
theorem zcF (r26 t_6 t_7 y'_3):Cn (zeY t_6 t_7 r26 y'_3):=fun g h hg x=>zdL (fun _=>r26) r26 (fun _ _=>ChO.const _) _ _ (fun a0 a1=>hg (a0,a1)) t_6 t_7 y'_3 x.1 x.2
theorem zet (r26 t_6 t_7 y'_3 t_8 t_9):za0 t_6 t_7 r26 y'_3 t_8 t_9=zaR t_6 t_7 r26 y'_3 (za0 t_6 t_7 r26 y'_3) t_8 t_9:=zay (zcF r26 t_6 t_7 y'_3) (t_8,t_9)
theorem ziq (r26:Nat->Int->(List (List (List UInt8)))->Option ((List UInt8)×Int)) (r26':Int->(List (List (List UInt8)))->Option ((List UInt8)×Int)) (h_r26:∀ a0 a1,ChO (fun κ=>r26 κ a0 a1) (r26' a0 a1)) (t_6 t_7 y'_3 t_8 t_9):ChO (fun κ=>za0 t_6 t_7 (r26 κ) y'_3 t_8 t_9) (za0 t_6 t_7 r26' y'_3 t_8 t_9):=by
  unfold za0
  exact zdo (fun κ=>(zcF (r26 κ) t_6 t_7 y'_3).mono) (zcF r26' t_6 t_7 y'_3).mono (fun g h hg x=>zdL r26 r26' h_r26 _ _ (fun a0 a1=>hg (a0,a1)) t_6 t_7 y'_3 x.1 x.2) _
theorem zhd (r26:Nat->Int->(List (List (List UInt8)))->Option ((List UInt8)×Int)) (r26':Int->(List (List (List UInt8)))->Option ((List UInt8)×Int)) (h_r26:∀ a0 a1,ChO (fun κ=>r26 κ a0 a1) (r26' a0 a1)) (d t_6 t_7):ChO (fun κ=>zaQ d (r26 κ) t_6 t_7) (zaQ d r26' t_6 t_7):=by
  unfold zaQ
  repeat' with_reducible first | exact ChO.const _ | exact h_r26 _ _ | (apply ziq<;>assumption) | apply ChO.ite | apply ChO.G | (apply ChO.bind;intro _)
theorem zio (d):Cn (zeX d):=fun g h hg x=>zhd  _ _ (fun a0 a1=>hg (a0,a1)) d x.1 x.2
theorem zes (d t_6 t_7):zaG d t_6 t_7=zaQ d (zaG d) t_6 t_7:=zay (zio d) (t_6,t_7)
theorem zhc (r15:Nat->Int->(List (List (List UInt8)))->Option ((List UInt8)×Int)) (r15':Int->(List (List (List UInt8)))->Option ((List UInt8)×Int)) (h_r15:∀ a0 a1,ChO (fun κ=>r15 κ a0 a1) (r15' a0 a1)) (d t_2 t_3):ChO (fun κ=>zaO d (r15 κ) t_2 t_3) (zaO d r15' t_2 t_3):=by
  unfold zaO
  repeat' with_reducible first | exact ChO.const _ | exact h_r15 _ _ | (apply zin<;>assumption) | apply ChO.ite | apply ChO.G
theorem zim (d):Cn (zeV d):=fun g h hg x=>zhc  _ _ (fun a0 a1=>hg (a0,a1)) d x.1 x.2
theorem zeq (d t_2 t_3):zbk d t_2 t_3=zaO d (zbk d) t_2 t_3:=zay (zim d) (t_2,t_3)
theorem zhI (r9:Nat->Int->(List (List (List UInt8)))->Option ((List UInt8)×Int)) (r9':Int->(List (List (List UInt8)))->Option ((List UInt8)×Int)) (h_r9:∀ a0 a1,ChO (fun κ=>r9 κ a0 a1) (r9' a0 a1)) (d t t_1):ChO (fun κ=>za5 d (r9 κ) t t_1) (za5 d r9' t t_1):=by
  unfold za5
  repeat' with_reducible first | exact ChO.const _ | exact h_r9 _ _ | apply ChO.ite | apply ChO.G | (apply ChO.bind;intro _)
theorem zjs (d):Cn (zfL d):=fun g h hg x=>zhI  _ _ (fun a0 a1=>hg (a0,a1)) d x.1 x.2
theorem ze1 (d t t_1):zbA d t t_1=za5 d (zbA d) t t_1:=zay (zjs d) (t,t_1)

def zbO (a b:Tp1) (i_1:Int) (r9:(Int->Option (Bool))) (r14:Int->Option (Bool)) (k:Int):Option (Bool):=
  G (0<=i_1/\i_1 < (a.2.2.1.length:Int)) (
  if (decide (k < ((ix a.2.2.1 i_1).length:Int)))=true then
  G (0<=i_1/\i_1 < (a.2.2.1.length:Int)) (
  G (0<=k/\k < ((ix a.2.2.1 i_1).length:Int)) (
  G (0<=i_1/\i_1 < (b.2.2.1.length:Int)) (
  G (0<=k/\k < ((ix b.2.2.1 i_1).length:Int)) (
  if (decide (¬ (ix (ix a.2.2.1 i_1) k)=(ix (ix b.2.2.1 i_1) k)))=true then
  some false else
  G (fits (k+(1:Int))) (
  r14 (k+(1:Int))))))) else
  G (fits (i_1+(1:Int))) (
  r9 (i_1+(1:Int))))
def zjp (a b:Tp1) (i_1:Int) (r9:(Int->Option (Bool))):(Int->Option (Bool))->Int->Option (Bool):=
  fun rec x=>zbO a b i_1 r9 (fun k=>rec k) x
def zcD (a b:Tp1) (i_1:Int) (r9:(Int->Option (Bool))) (k:Int):Option (Bool):=LFix (zjp a b i_1 r9 ) k
def zb5 (a b:Tp1) (r9:Int->Option (Bool)) (i_1:Int):Option (Bool):=
  if (decide (i_1 < (a.2.2.1.length:Int)))=true then
  G (0<=i_1/\i_1 < (a.2.2.1.length:Int)) (
  G (0<=i_1/\i_1 < (b.2.2.1.length:Int)) (
  if (decide (¬ ((ix a.2.2.1 i_1).length:Int)=((ix b.2.2.1 i_1).length:Int)))=true then
  some false else
  zcD a b i_1 r9 (0:Int))) else
  some true
def zkq (a b:Tp1):(Int->Option (Bool))->Int->Option (Bool):=
  fun rec x=>zb5 a b (fun i_1=>rec i_1) x
def zhD (a b:Tp1) (i_1:Int):Option (Bool):=LFix (zkq a b ) i_1
def zb4 (a b:Tp1) (r4:Int->Option (Bool)) (i:Int):Option (Bool):=
  if (decide (i < (a.2.2.2.1.length:Int)))=true then
  G (0<=i/\i < (a.2.2.2.1.length:Int)) (
  G (0<=i/\i < (b.2.2.2.1.length:Int)) (
  if (decide (¬ (ix a.2.2.2.1 i)=(ix b.2.2.2.1 i)))=true then
  some false else
  G (fits (i+(1:Int))) (
  r4 (i+(1:Int))))) else
  zhD a b (0:Int)
def zkp (a b:Tp1):(Int->Option (Bool))->Int->Option (Bool):=
  fun rec x=>zb4 a b (fun i=>rec i) x
def zhC (a b:Tp1) (i:Int):Option (Bool):=LFix (zkp a b ) i
def zlS (a b:Tp1):Option (Bool):=
  if (decide (¬ a.1=b.1))=true then
  some false else
  if (decide (¬ a.2.1=b.2.1))=true then
  some false else
  if (decide (¬ (a.2.2.1.length:Int)=(b.2.2.1.length:Int)))=true then
  some false else
  if (decide (¬ (a.2.2.2.1.length:Int)=(b.2.2.2.1.length:Int)))=true then
  some false else
  zhC a b (0:Int)
theorem zgp (r9:Nat->Int->Option (Bool)) (r9':Int->Option (Bool)) (h_r9:∀ a0,ChO (fun κ=>r9 κ a0) (r9' a0)) (r14:Nat->Int->Option (Bool)) (r14':Int->Option (Bool)) (h_r14:∀ a0,ChO (fun κ=>r14 κ a0) (r14' a0)) (a b i_1 k):ChO (fun κ=>zbO a b i_1 (r9 κ) (r14 κ) k) (zbO a b i_1 r9' r14' k):=by
  unfold zbO
  repeat' with_reducible first | exact ChO.const _ | exact h_r9 _ | exact h_r14 _ | apply ChO.ite | apply ChO.G
theorem zfn (r9 a b i_1):Cn (zjp a b i_1 r9):=fun g h hg x=>zgp (fun _=>r9) r9 (fun _=>ChO.const _) _ _ (fun a=>hg a) a b i_1 x
theorem zh3 (r9 a b i_1 k):zcD a b i_1 r9 k=zbO a b i_1 r9 (zcD a b i_1 r9) k:=zay (zfn r9 a b i_1) k
theorem zmx (r9:Nat->Int->Option (Bool)) (r9':Int->Option (Bool)) (h_r9:∀ a0,ChO (fun κ=>r9 κ a0) (r9' a0)) (a b i_1 k):ChO (fun κ=>zcD a b i_1 (r9 κ) k) (zcD a b i_1 r9' k):=by
  unfold zcD
  exact zdo (fun κ=>(zfn (r9 κ) a b i_1).mono) (zfn r9' a b i_1).mono (fun g h hg x=>zgp r9 r9' h_r9 _ _ (fun a=>hg a) a b i_1 x) _
theorem zlU (r9:Nat->Int->Option (Bool)) (r9':Int->Option (Bool)) (h_r9:∀ a0,ChO (fun κ=>r9 κ a0) (r9' a0)) (a b i_1):ChO (fun κ=>zb5 a b (r9 κ) i_1) (zb5 a b r9' i_1):=by
  unfold zb5
  repeat' with_reducible first | exact ChO.const _ | exact h_r9 _ | (apply zmx<;>assumption) | apply ChO.ite | apply ChO.G
theorem znW (a b):Cn (zkq a b):=fun g h hg x=>zlU  _ _ (fun a=>hg a) a b x
theorem zjr (a b i_1):zhD a b i_1=zb5 a b (zhD a b) i_1:=zay (znW a b) i_1
theorem zlT (r4:Nat->Int->Option (Bool)) (r4':Int->Option (Bool)) (h_r4:∀ a0,ChO (fun κ=>r4 κ a0) (r4' a0)) (a b i):ChO (fun κ=>zb4 a b (r4 κ) i) (zb4 a b r4' i):=by
  unfold zb4
  repeat' with_reducible first | exact ChO.const _ | exact h_r4 _ | apply ChO.ite | apply ChO.G
theorem znV (a b):Cn (zkp a b):=fun g h hg x=>zlT  _ _ (fun a=>hg a) a b x
theorem zjq (a b i):zhC a b i=zb4 a b (zhC a b) i:=zay (znV a b) i

def za6 (d:Tp1) (i_1:Int) (r16:(Int->Option (Int))) (r19:Int->Option (Int)) (k:Int):Option (Int):=
  if (decide (k < d.1))=true then
  G (0<=i_1/\i_1 < (d.2.2.1.length:Int)) (
  G (0<=k/\k < ((ix d.2.2.1 i_1).length:Int)) (
  if (decide ((ix (ix d.2.2.1 i_1) k) < (0:Int)))=true then
  some (2:Int) else
  G (0<=i_1/\i_1 < (d.2.2.1.length:Int)) (
  G (0<=k/\k < ((ix d.2.2.1 i_1).length:Int)) (
  if (decide ((d.2.2.1.length:Int)<=(ix (ix d.2.2.1 i_1) k)))=true then
  some (2:Int) else
  G (fits (k+(1:Int))) (
  r19 (k+(1:Int))))))) else
  G (fits (i_1+(1:Int))) (
  r16 (i_1+(1:Int)))
def zh1 (d:Tp1) (i_1:Int) (r16:(Int->Option (Int))):(Int->Option (Int))->Int->Option (Int):=
  fun rec x=>za6 d i_1 r16 (fun k=>rec k) x
def zcN (d:Tp1) (i_1:Int) (r16:(Int->Option (Int))) (k:Int):Option (Int):=LFix (zh1 d i_1 r16 ) k
def zbi (d:Tp1) (r24:Int->Option (Int)) (i_2:Int):Option (Int):=
  if (decide (i_2 < (d.2.2.1.length:Int)))=true then
  G (0<=i_2/\i_2 < (d.2.2.2.1.length:Int)) (
  if (decide (¬ (ix d.2.2.2.1 i_2)=(0:Int)))=true then
  G (0<=i_2/\i_2 < (d.2.2.2.1.length:Int)) (
  if (decide (¬ (ix d.2.2.2.1 i_2)=(1:Int)))=true then
  some (2:Int) else
  G (fits (i_2+(1:Int))) (
  r24 (i_2+(1:Int)))) else
  G (fits (i_2+(1:Int))) (
  r24 (i_2+(1:Int)))) else
  some (0:Int)
def zh2 (d:Tp1):(Int->Option (Int))->Int->Option (Int):=
  fun rec x=>zbi d (fun i_2=>rec i_2) x
def zhb (d:Tp1) (i_2:Int):Option (Int):=LFix (zh2 d ) i_2
def zbh (d:Tp1) (r16:Int->Option (Int)) (i_1:Int):Option (Int):=
  if (decide (i_1 < (d.2.2.1.length:Int)))=true then
  zcN d i_1 r16 (0:Int) else
  zhb d (0:Int)
def zh0 (d:Tp1):(Int->Option (Int))->Int->Option (Int):=
  fun rec x=>zbh d (fun i_1=>rec i_1) x
def zha (d:Tp1) (i_1:Int):Option (Int):=LFix (zh0 d ) i_1
def zbp (d:Tp1) (r9:Int->Option (Int)) (i:Int):Option (Int):=
  if (decide (i < (d.2.2.1.length:Int)))=true then
  G (0<=i/\i < (d.2.2.1.length:Int)) (
  if (decide (¬ ((ix d.2.2.1 i).length:Int)=d.1))=true then
  some (3:Int) else
  G (fits (i+(1:Int))) (
  r9 (i+(1:Int)))) else
  if (decide (d.2.1 < (0:Int)))=true then
  some (2:Int) else
  if (decide ((d.2.2.1.length:Int)<=d.2.1))=true then
  some (2:Int) else
  zha d (0:Int)
def zjo (d:Tp1):(Int->Option (Int))->Int->Option (Int):=
  fun rec x=>zbp d (fun i=>rec i) x
def zik (d:Tp1) (i:Int):Option (Int):=LFix (zjo d ) i
def zjn (d:Tp1):Option (Int):=
  if (decide (d.1 < (1:Int)))=true then
  some (2:Int) else
  if (decide ((4:Int) < d.1))=true then
  some (2:Int) else
  if (decide ((d.2.2.1.length:Int) < (1:Int)))=true then
  some (1:Int) else
  if (decide ((3000:Int) < (d.2.2.1.length:Int)))=true then
  some (1:Int) else
  if (decide (¬ (d.2.2.2.1.length:Int)=(d.2.2.1.length:Int)))=true then
  some (3:Int) else
  zik d (0:Int)
theorem zfK (r16:Nat->Int->Option (Int)) (r16':Int->Option (Int)) (h_r16:∀ a0,ChO (fun κ=>r16 κ a0) (r16' a0)) (r19:Nat->Int->Option (Int)) (r19':Int->Option (Int)) (h_r19:∀ a0,ChO (fun κ=>r19 κ a0) (r19' a0)) (d i_1 k):ChO (fun κ=>za6 d i_1 (r16 κ) (r19 κ) k) (za6 d i_1 r16' r19' k):=by
  unfold za6
  repeat' with_reducible first | exact ChO.const _ | exact h_r16 _ | exact h_r19 _ | apply ChO.ite | apply ChO.G
theorem zeo (r16 d i_1):Cn (zh1 d i_1 r16):=fun g h hg x=>zfK (fun _=>r16) r16 (fun _=>ChO.const _) _ _ (fun a=>hg a) d i_1 x
theorem zc4 (r16 d i_1 k):zcN d i_1 r16 k=za6 d i_1 r16 (zcN d i_1 r16) k:=zay (zeo r16 d i_1) k
theorem zlP (r16:Nat->Int->Option (Int)) (r16':Int->Option (Int)) (h_r16:∀ a0,ChO (fun κ=>r16 κ a0) (r16' a0)) (d i_1 k):ChO (fun κ=>zcN d i_1 (r16 κ) k) (zcN d i_1 r16' k):=by
  unfold zcN
  exact zdo (fun κ=>(zeo (r16 κ) d i_1).mono) (zeo r16' d i_1).mono (fun g h hg x=>zfK r16 r16' h_r16 _ _ (fun a=>hg a) d i_1 x) _
theorem zjQ (r24:Nat->Int->Option (Int)) (r24':Int->Option (Int)) (h_r24:∀ a0,ChO (fun κ=>r24 κ a0) (r24' a0)) (d i_2):ChO (fun κ=>zbi d (r24 κ) i_2) (zbi d r24' i_2):=by
  unfold zbi
  repeat' with_reducible first | exact ChO.const _ | exact h_r24 _ | apply ChO.ite | apply ChO.G
theorem zlQ (d):Cn (zh2 d):=fun g h hg x=>zjQ  _ _ (fun a=>hg a) d x
theorem zep (d i_2):zhb d i_2=zbi d (zhb d) i_2:=zay (zlQ d) i_2
theorem zjP (r16:Nat->Int->Option (Int)) (r16':Int->Option (Int)) (h_r16:∀ a0,ChO (fun κ=>r16 κ a0) (r16' a0)) (d i_1):ChO (fun κ=>zbh d (r16 κ) i_1) (zbh d r16' i_1):=by
  unfold zbh
  repeat' with_reducible first | exact ChO.const _ | exact h_r16 _ | (apply zlP<;>assumption) | apply ChO.ite
theorem zlO (d):Cn (zh0 d):=fun g h hg x=>zjP  _ _ (fun a=>hg a) d x
theorem zen (d i_1):zha d i_1=zbh d (zha d) i_1:=zay (zlO d) i_1
theorem zkD (r9:Nat->Int->Option (Int)) (r9':Int->Option (Int)) (h_r9:∀ a0,ChO (fun κ=>r9 κ a0) (r9' a0)) (d i):ChO (fun κ=>zbp d (r9 κ) i) (zbp d r9' i):=by
  unfold zbp
  repeat' with_reducible first | exact ChO.const _ | exact h_r9 _ | apply ChO.ite | apply ChO.G
theorem zmw (d):Cn (zjo d):=fun g h hg x=>zkD  _ _ (fun a=>hg a) d x
theorem zfm (d i):zik d i=zbp d (zik d) i:=zay (zmw d) i

def zbX (r:((List UInt8)×Int×Int×Tp2×(Int×Int×Unit)×Unit)):Option (Bool):=
  some (decide (r.2.2.2.2.1.1=(0:Int)))

def zbn (r:((List UInt8)×Int×Int×Tp2×(Int×Int×Unit)×Unit)):Option (Int):=
  if (decide ((r.1.length:Int)<=r.2.1))=true then
  some (0:Int) else
  G (0<=r.2.1/\r.2.1 < (r.1.length:Int)) (
  some (bAt r.1 r.2.1))

def zbe (p:Tp3) (c:(List UInt8)) (c_1 c_2 c_3 c_4:Int) (l:Tp2):Option (Int×(List UInt8)×Int×Int×Tp2×Int×Int):=
  G (room l ([(p.1,(p.2.1,(p.2.2.1,())))]) 40) (
  G (fits (((l++([(p.1,(p.2.1,(p.2.2.1,())))])).length:Int) - (1:Int))) (
  some (((l++([(p.1,(p.2.1,(p.2.2.1,())))])).length:Int) - (1:Int),c,c_1,c_2,l++([(p.1,(p.2.1,(p.2.2.1,())))]),c_3,c_4)))

def zci (code:Int) (c:(List UInt8)) (c_1 c_2 c_3 c_4:Int) (l:Tp2):Option ((List UInt8)×Int×Int×Tp2×Int×Int):=
  if (decide (c_3=(0:Int)))=true then
  some (c,c_1,c_2,l,code,c_1) else
  some (c,c_1,c_2,l,c_3,c_4)

def zc1 (y'_45:Int) (r:(List UInt8)) (r_1 r_2 r_3 r_4:Int) (l_1:Tp2):Option (Int×(List UInt8)×Int×Int×Tp2×Int×Int):=
  (zbX (r,(r_1,(r_2,(l_1,((r_3,(r_4,())),())))))).bind (fun y'_61=>
  if y'_61=true then
  G (fits (r_1+(1:Int))) (
  G (fits (r_2 - (1:Int))) (
  some (y'_45,r,r_1+(1:Int),r_2 - (1:Int),l_1,r_3,r_4))) else
  G (fits (r_2 - (1:Int))) (
  some (y'_45,r,r_1,r_2 - (1:Int),l_1,r_3,r_4)))
def zaL (zaa:(List UInt8)->Int->Int->Int->Int->Tp2->Option (Int×(List UInt8)×Int×Int×Tp2×Int×Int)) (c:(List UInt8)) (c_1 c_2 c_3 c_4:Int) (l:Tp2) (y'_1:Int) (t:Bool):Option (Int×(List UInt8)×Int×Int×Tp2×Int×Int):=
  if t=true then
  G (fits (c_1+(1:Int))) (
  (zbe ((2:Int),(IntKind.wrap .i64 (IntKind.wrap .u8 (y'_1 - (97:Int))),([],()))) c (c_1+(1:Int)) c_2 c_3 c_4 l).bind (fun y'_28=>
  some (y'_28.1,y'_28.2.1,y'_28.2.2.1,y'_28.2.2.2.1,y'_28.2.2.2.2.1,y'_28.2.2.2.2.2.1,y'_28.2.2.2.2.2.2))) else
  if (decide (¬ y'_1=(40:Int)))=true then
  (zci (4:Int) c c_1 c_2 c_3 c_4 l).bind (fun y'_36=>
  some ((0:Int),y'_36.1,y'_36.2.1,y'_36.2.2.1,y'_36.2.2.2.1,y'_36.2.2.2.2.1,y'_36.2.2.2.2.2)) else
  if (decide (c_2=(40:Int)))=true then
  (zci (7:Int) c c_1 c_2 c_3 c_4 l).bind (fun y'_44=>
  some ((0:Int),y'_44.1,y'_44.2.1,y'_44.2.2.1,y'_44.2.2.2.1,y'_44.2.2.2.2.1,y'_44.2.2.2.2.2)) else
  G (fits (c_2+(1:Int))) (
  G (fits (c_1+(1:Int))) (
  (zaa c (c_1+(1:Int)) (c_2+(1:Int)) c_3 c_4 l).bind (fun y'_63=>
  (zbn (y'_63.2.1,(y'_63.2.2.1,(y'_63.2.2.2.1,(y'_63.2.2.2.2.1,((y'_63.2.2.2.2.2.1,(y'_63.2.2.2.2.2.2,())),())))))).bind (fun y'_53=>
  if (decide (¬ y'_53=(41:Int)))=true then
  (zci (4:Int) y'_63.2.1 y'_63.2.2.1 y'_63.2.2.2.1 y'_63.2.2.2.2.2.1 y'_63.2.2.2.2.2.2 y'_63.2.2.2.2.1).bind (fun y'_62=>
  zc1 y'_63.1 y'_62.1 y'_62.2.1 y'_62.2.2.1 y'_62.2.2.2.2.1 y'_62.2.2.2.2.2 y'_62.2.2.2.1) else
  zc1 y'_63.1 y'_63.2.1 y'_63.2.2.1 y'_63.2.2.2.1 y'_63.2.2.2.2.2.1 y'_63.2.2.2.2.2.2 y'_63.2.2.2.2.1))))
def zaK (zaa:(List UInt8)->Int->Int->Int->Int->Tp2->Option (Int×(List UInt8)×Int×Int×Tp2×Int×Int)) (c:(List UInt8)) (c_1 c_2 c_3 c_4:Int) (l:Tp2):Option (Int×(List UInt8)×Int×Int×Tp2×Int×Int):=
  (zbX (c,(c_1,(c_2,(l,((c_3,(c_4,())),())))))).bind (fun y'=>
  if (!y')=true then
  some ((0:Int),c,c_1,c_2,l,c_3,c_4) else
  (zbn (c,(c_1,(c_2,(l,((c_3,(c_4,())),())))))).bind (fun y'_1=>
  if (decide (y'_1=(48:Int)))=true then
  G (fits (c_1+(1:Int))) (
  (zbe ((0:Int),((0:Int),([],()))) c (c_1+(1:Int)) c_2 c_3 c_4 l).bind (fun y'_10=>
  some (y'_10.1,y'_10.2.1,y'_10.2.2.1,y'_10.2.2.2.1,y'_10.2.2.2.2.1,y'_10.2.2.2.2.2.1,y'_10.2.2.2.2.2.2))) else
  if (decide (y'_1=(49:Int)))=true then
  G (fits (c_1+(1:Int))) (
  (zbe ((1:Int),((0:Int),([],()))) c (c_1+(1:Int)) c_2 c_3 c_4 l).bind (fun y'_19=>
  some (y'_19.1,y'_19.2.1,y'_19.2.2.1,y'_19.2.2.2.1,y'_19.2.2.2.2.1,y'_19.2.2.2.2.2.1,y'_19.2.2.2.2.2.2))) else
  if (decide ((97:Int)<=y'_1))=true then
  zaL zaa c c_1 c_2 c_3 c_4 l y'_1 (decide (y'_1<=(100:Int))) else
  zaL zaa c c_1 c_2 c_3 c_4 l y'_1 false))
def zaD (r2:Int->(List UInt8)->Int->Int->Int->Int->Tp2->Option (Int×(List UInt8)×Int×Int×Tp2×Int×Int)) (k:Int) (r:(List UInt8)) (r_1 r_2 r_3 r_4:Int) (l_1:Tp2):Option (Int×(List UInt8)×Int×Int×Tp2×Int×Int):=
  (zbn (r,(r_1,(r_2,(l_1,((r_3,(r_4,())),())))))).bind (fun y'_8=>
  (zbX (r,(r_1,(r_2,(l_1,((r_3,(r_4,())),())))))).bind (fun y'_9=>
  if (!y'_9)=true then
  some (k,r,r_1,r_2,l_1,r_3,r_4) else
  if (decide (¬ y'_8=(42:Int)))=true then
  some (k,r,r_1,r_2,l_1,r_3,r_4) else
  G (fits (r_1+(1:Int))) (
  (zbe ((5:Int),((0:Int),([k],()))) r (r_1+(1:Int)) r_2 r_3 r_4 l_1).bind (fun y'_18=>
  r2 y'_18.1 y'_18.2.1 y'_18.2.2.1 y'_18.2.2.2.1 y'_18.2.2.2.2.2.1 y'_18.2.2.2.2.2.2 y'_18.2.2.2.2.1))))
def zeQ:(Int×(List UInt8)×Int×Int×Int×Int×Tp2->Option (Int×(List UInt8)×Int×Int×Tp2×Int×Int))->Int×(List UInt8)×Int×Int×Int×Int×Tp2->Option (Int×(List UInt8)×Int×Int×Tp2×Int×Int):=
  fun rec x=>zaD (fun k r r_1 r_2 r_3 r_4 l_1=>rec (k,r,r_1,r_2,r_3,r_4,l_1)) x.1 x.2.1 x.2.2.1 x.2.2.2.1 x.2.2.2.2.1 x.2.2.2.2.2.1 x.2.2.2.2.2.2
def zdX (k:Int) (r:(List UInt8)) (r_1 r_2 r_3 r_4:Int) (l_1:Tp2):Option (Int×(List UInt8)×Int×Int×Tp2×Int×Int):=LFix (zeQ ) (k,r,r_1,r_2,r_3,r_4,l_1)
def zbd (zaa:(List UInt8)->Int->Int->Int->Int->Tp2->Option (Int×(List UInt8)×Int×Int×Tp2×Int×Int)) (c:(List UInt8)) (c_1 c_2 c_3 c_4:Int) (l:Tp2):Option (Int×(List UInt8)×Int×Int×Tp2×Int×Int):=
  (zaK zaa c c_1 c_2 c_3 c_4 l).bind (fun y'_19=>
  zdX y'_19.1 y'_19.2.1 y'_19.2.2.1 y'_19.2.2.2.1 y'_19.2.2.2.2.2.1 y'_19.2.2.2.2.2.2 y'_19.2.2.2.2.1)
def zcu (r_5:(List UInt8)) (r_6 r_7 r_8 r_9:Int) (kids_1:Tp6) (l_2:Tp2):Option (Int×(List UInt8)×Int×Int×Tp2×Int×Int):=
  (zbe ((4:Int),((0:Int),(kids_1,()))) r_5 r_6 r_7 r_8 r_9 l_2).bind (fun y'_18=>
  some (y'_18.1,y'_18.2.1,y'_18.2.2.1,y'_18.2.2.2.1,y'_18.2.2.2.2.1,y'_18.2.2.2.2.2.1,y'_18.2.2.2.2.2.2))
def zav (zaa:(List UInt8)->Int->Int->Int->Int->Tp2->Option (Int×(List UInt8)×Int×Int×Tp2×Int×Int)) (r:(List UInt8)) (r_1 r_2 r_3 r_4:Int) (kids:Tp6) (l_1:Tp2) (r3:((List UInt8)->Int->Int->Int->Int->Tp6->Tp2->Option (Int×(List UInt8)×Int×Int×Tp2×Int×Int))) (y'_9 begins:Bool):Option (Int×(List UInt8)×Int×Int×Tp2×Int×Int):=
  if (!y'_9)=true then
  zcu r r_1 r_2 r_3 r_4 kids l_1 else
  if (!begins)=true then
  zcu r r_1 r_2 r_3 r_4 kids l_1 else
  (zbd zaa r r_1 r_2 r_3 r_4 l_1).bind (fun y'_27=>
  G (room kids ([y'_27.1]) 8) (
  r3 y'_27.2.1 y'_27.2.2.1 y'_27.2.2.2.1 y'_27.2.2.2.2.2.1 y'_27.2.2.2.2.2.2 (kids++([y'_27.1])) y'_27.2.2.2.2.1))
def zaM (zaa:(List UInt8)->Int->Int->Int->Int->Tp2->Option (Int×(List UInt8)×Int×Int×Tp2×Int×Int)) (r3:(List UInt8)->Int->Int->Int->Int->Tp6->Tp2->Option (Int×(List UInt8)×Int×Int×Tp2×Int×Int)) (r:(List UInt8)) (r_1 r_2 r_3 r_4:Int) (kids:Tp6) (l_1:Tp2):Option (Int×(List UInt8)×Int×Int×Tp2×Int×Int):=
  (zbn (r,(r_1,(r_2,(l_1,((r_3,(r_4,())),())))))).bind (fun y'_8=>
  (zbX (r,(r_1,(r_2,(l_1,((r_3,(r_4,())),())))))).bind (fun y'_9=>
  if (decide (y'_8=(48:Int)))=true then
  zav zaa r r_1 r_2 r_3 r_4 kids l_1 r3 y'_9 true else
  if (decide (y'_8=(49:Int)))=true then
  zav zaa r r_1 r_2 r_3 r_4 kids l_1 r3 y'_9 true else
  if (decide ((97:Int)<=y'_8))=true then
  if (decide (y'_8<=(100:Int)))=true then
  zav zaa r r_1 r_2 r_3 r_4 kids l_1 r3 y'_9 true else
  zav zaa r r_1 r_2 r_3 r_4 kids l_1 r3 y'_9 (decide (y'_8=(40:Int))) else
  zav zaa r r_1 r_2 r_3 r_4 kids l_1 r3 y'_9 (decide (y'_8=(40:Int)))))
def zeT (zaa:(List UInt8)->Int->Int->Int->Int->Tp2->Option (Int×(List UInt8)×Int×Int×Tp2×Int×Int)):((List UInt8)×Int×Int×Int×Int×Tp6×Tp2->Option (Int×(List UInt8)×Int×Int×Tp2×Int×Int))->(List UInt8)×Int×Int×Int×Int×Tp6×Tp2->Option (Int×(List UInt8)×Int×Int×Tp2×Int×Int):=
  fun rec x=>zaM zaa (fun r r_1 r_2 r_3 r_4 kids l_1=>rec (r,r_1,r_2,r_3,r_4,kids,l_1)) x.1 x.2.1 x.2.2.1 x.2.2.2.1 x.2.2.2.2.1 x.2.2.2.2.2.1 x.2.2.2.2.2.2
def zaF (zaa:(List UInt8)->Int->Int->Int->Int->Tp2->Option (Int×(List UInt8)×Int×Int×Tp2×Int×Int)) (r:(List UInt8)) (r_1 r_2 r_3 r_4:Int) (kids:Tp6) (l_1:Tp2):Option (Int×(List UInt8)×Int×Int×Tp2×Int×Int):=LFix (zeT zaa ) (r,r_1,r_2,r_3,r_4,kids,l_1)
def zbo (zaa:(List UInt8)->Int->Int->Int->Int->Tp2->Option (Int×(List UInt8)×Int×Int×Tp2×Int×Int)) (c:(List UInt8)) (c_1 c_2 c_3 c_4:Int) (l:Tp2):Option (Int×(List UInt8)×Int×Int×Tp2×Int×Int):=
  (zbd zaa c c_1 c_2 c_3 c_4 l).bind (fun y'_28=>
  zaF zaa y'_28.2.1 y'_28.2.2.1 y'_28.2.2.2.1 y'_28.2.2.2.2.2.1 y'_28.2.2.2.2.2.2 ([y'_28.1]) y'_28.2.2.2.2.1)
def zc2 (r_5:(List UInt8)) (r_6 r_7 r_8 r_9:Int) (kids_1:Tp6) (l_2:Tp2):Option (Int×(List UInt8)×Int×Int×Tp2×Int×Int):=
  (zbe ((3:Int),((0:Int),(kids_1,()))) r_5 r_6 r_7 r_8 r_9 l_2).bind (fun y'_18=>
  some (y'_18.1,y'_18.2.1,y'_18.2.2.1,y'_18.2.2.2.1,y'_18.2.2.2.2.1,y'_18.2.2.2.2.2.1,y'_18.2.2.2.2.2.2))
def zaB (zaa:(List UInt8)->Int->Int->Int->Int->Tp2->Option (Int×(List UInt8)×Int×Int×Tp2×Int×Int)) (r3:(List UInt8)->Int->Int->Int->Int->Tp6->Tp2->Option (Int×(List UInt8)×Int×Int×Tp2×Int×Int)) (r:(List UInt8)) (r_1 r_2 r_3 r_4:Int) (kids:Tp6) (l_1:Tp2):Option (Int×(List UInt8)×Int×Int×Tp2×Int×Int):=
  (zbn (r,(r_1,(r_2,(l_1,((r_3,(r_4,())),())))))).bind (fun y'_8=>
  (zbX (r,(r_1,(r_2,(l_1,((r_3,(r_4,())),())))))).bind (fun y'_9=>
  if (!y'_9)=true then
  zc2 r r_1 r_2 r_3 r_4 kids l_1 else
  if (decide (¬ y'_8=(43:Int)))=true then
  zc2 r r_1 r_2 r_3 r_4 kids l_1 else
  G (fits (r_1+(1:Int))) (
  (zbo zaa r (r_1+(1:Int)) r_2 r_3 r_4 l_1).bind (fun y'_27=>
  G (room kids ([y'_27.1]) 8) (
  r3 y'_27.2.1 y'_27.2.2.1 y'_27.2.2.2.1 y'_27.2.2.2.2.2.1 y'_27.2.2.2.2.2.2 (kids++([y'_27.1])) y'_27.2.2.2.2.1)))))
def zdZ (zaa:(List UInt8)->Int->Int->Int->Int->Tp2->Option (Int×(List UInt8)×Int×Int×Tp2×Int×Int)):((List UInt8)×Int×Int×Int×Int×Tp6×Tp2->Option (Int×(List UInt8)×Int×Int×Tp2×Int×Int))->(List UInt8)×Int×Int×Int×Int×Tp6×Tp2->Option (Int×(List UInt8)×Int×Int×Tp2×Int×Int):=
  fun rec x=>zaB zaa (fun r r_1 r_2 r_3 r_4 kids l_1=>rec (r,r_1,r_2,r_3,r_4,kids,l_1)) x.1 x.2.1 x.2.2.1 x.2.2.2.1 x.2.2.2.2.1 x.2.2.2.2.2.1 x.2.2.2.2.2.2
def zaN (zaa:(List UInt8)->Int->Int->Int->Int->Tp2->Option (Int×(List UInt8)×Int×Int×Tp2×Int×Int)) (r:(List UInt8)) (r_1 r_2 r_3 r_4:Int) (kids:Tp6) (l_1:Tp2):Option (Int×(List UInt8)×Int×Int×Tp2×Int×Int):=LFix (zdZ zaa ) (r,r_1,r_2,r_3,r_4,kids,l_1)
def zbj (zaa:(List UInt8)->Int->Int->Int->Int->Tp2->Option (Int×(List UInt8)×Int×Int×Tp2×Int×Int)) (c:(List UInt8)) (c_1 c_2 c_3 c_4:Int) (l:Tp2):Option (Int×(List UInt8)×Int×Int×Tp2×Int×Int):=
  (zbo zaa c c_1 c_2 c_3 c_4 l).bind (fun y'_28=>
  zaN zaa y'_28.2.1 y'_28.2.2.1 y'_28.2.2.2.1 y'_28.2.2.2.2.2.1 y'_28.2.2.2.2.2.2 ([y'_28.1]) y'_28.2.2.2.2.1)
theorem zg8 (zaa:Nat->(List UInt8)->Int->Int->Int->Int->Tp2->Option (Int×(List UInt8)×Int×Int×Tp2×Int×Int)) (zac:(List UInt8)->Int->Int->Int->Int->Tp2->Option (Int×(List UInt8)×Int×Int×Tp2×Int×Int)) (zae:∀ a0 a1 a2 a3 a4 a5,ChO (fun κ=>zaa κ a0 a1 a2 a3 a4 a5) (zac a0 a1 a2 a3 a4 a5)) (c c_1 c_2 c_3 c_4 l y'_1 t):ChO (fun κ=>zaL (zaa κ) c c_1 c_2 c_3 c_4 l y'_1 t) (zaL zac c c_1 c_2 c_3 c_4 l y'_1 t):=by
  unfold zaL
  repeat' with_reducible first | exact ChO.const _ | exact zae _ _ _ _ _ _ | apply ChO.ite | apply ChO.G | (apply ChO.bind;intro _) | (apply ChO.bind2 (zae _ _ _ _ _ _);intro _) | (refine ChO.bind2 ?_ (fun _ => ?_))
theorem zjN (zaa:Nat->(List UInt8)->Int->Int->Int->Int->Tp2->Option (Int×(List UInt8)×Int×Int×Tp2×Int×Int)) (zac:(List UInt8)->Int->Int->Int->Int->Tp2->Option (Int×(List UInt8)×Int×Int×Tp2×Int×Int)) (zae:∀ a0 a1 a2 a3 a4 a5,ChO (fun κ=>zaa κ a0 a1 a2 a3 a4 a5) (zac a0 a1 a2 a3 a4 a5)) (c c_1 c_2 c_3 c_4 l):ChO (fun κ=>zaK (zaa κ) c c_1 c_2 c_3 c_4 l) (zaK zac c c_1 c_2 c_3 c_4 l):=by
  unfold zaK
  repeat' with_reducible first | exact ChO.const _ | exact zae _ _ _ _ _ _ | (apply zg8<;>assumption) | apply ChO.ite | apply ChO.G | (apply ChO.bind;intro _) | (apply ChO.bind2 (zae _ _ _ _ _ _);intro _) | (refine ChO.bind2 ?_ (fun _ => ?_))
theorem zg7 (r2:Nat->Int->(List UInt8)->Int->Int->Int->Int->Tp2->Option (Int×(List UInt8)×Int×Int×Tp2×Int×Int)) (r2':Int->(List UInt8)->Int->Int->Int->Int->Tp2->Option (Int×(List UInt8)×Int×Int×Tp2×Int×Int)) (h_r2:∀ a0 a1 a2 a3 a4 a5 a6,ChO (fun κ=>r2 κ a0 a1 a2 a3 a4 a5 a6) (r2' a0 a1 a2 a3 a4 a5 a6)) (k r r_1 r_2 r_3 r_4 l_1):ChO (fun κ=>zaD (r2 κ) k r r_1 r_2 r_3 r_4 l_1) (zaD r2' k r r_1 r_2 r_3 r_4 l_1):=by
  unfold zaD
  repeat' with_reducible first | exact ChO.const _ | exact h_r2 _ _ _ _ _ _ _ | apply ChO.ite | apply ChO.G | (apply ChO.bind;intro _) | (refine ChO.bind2 ?_ (fun _ => ?_))
theorem zih:Cn (zeQ):=fun g h hg x=>zg7  _ _ (fun a0 a1 a2 a3 a4 a5 a6=>hg (a0,a1,a2,a3,a4,a5,a6))  x.1 x.2.1 x.2.2.1 x.2.2.2.1 x.2.2.2.2.1 x.2.2.2.2.2.1 x.2.2.2.2.2.2
theorem zcz (k r r_1 r_2 r_3 r_4 l_1):zdX k r r_1 r_2 r_3 r_4 l_1=zaD (zdX) k r r_1 r_2 r_3 r_4 l_1:=zay (zih ) (k,r,r_1,r_2,r_3,r_4,l_1)
theorem zgh (zaa:Nat->(List UInt8)->Int->Int->Int->Int->Tp2->Option (Int×(List UInt8)×Int×Int×Tp2×Int×Int)) (zac:(List UInt8)->Int->Int->Int->Int->Tp2->Option (Int×(List UInt8)×Int×Int×Tp2×Int×Int)) (zae:∀ a0 a1 a2 a3 a4 a5,ChO (fun κ=>zaa κ a0 a1 a2 a3 a4 a5) (zac a0 a1 a2 a3 a4 a5)) (c c_1 c_2 c_3 c_4 l):ChO (fun κ=>zbd (zaa κ) c c_1 c_2 c_3 c_4 l) (zbd zac c c_1 c_2 c_3 c_4 l):=by
  unfold zbd
  repeat' with_reducible first | exact ChO.const _ | exact zae _ _ _ _ _ _ | (apply zjN<;>assumption) | (apply ChO.bind;intro _) | (apply ChO.bind2 (zae _ _ _ _ _ _);intro _) | (refine ChO.bind2 ?_ (fun _ => ?_))
theorem zii (zaa:Nat->(List UInt8)->Int->Int->Int->Int->Tp2->Option (Int×(List UInt8)×Int×Int×Tp2×Int×Int)) (zac:(List UInt8)->Int->Int->Int->Int->Tp2->Option (Int×(List UInt8)×Int×Int×Tp2×Int×Int)) (zae:∀ a0 a1 a2 a3 a4 a5,ChO (fun κ=>zaa κ a0 a1 a2 a3 a4 a5) (zac a0 a1 a2 a3 a4 a5)) (r3:Nat->(List UInt8)->Int->Int->Int->Int->Tp6->Tp2->Option (Int×(List UInt8)×Int×Int×Tp2×Int×Int)) (r3':(List UInt8)->Int->Int->Int->Int->Tp6->Tp2->Option (Int×(List UInt8)×Int×Int×Tp2×Int×Int)) (h_r3:∀ a0 a1 a2 a3 a4 a5 a6,ChO (fun κ=>r3 κ a0 a1 a2 a3 a4 a5 a6) (r3' a0 a1 a2 a3 a4 a5 a6)) (r r_1 r_2 r_3 r_4 kids l_1 y'_9 begins):ChO (fun κ=>zav (zaa κ) r r_1 r_2 r_3 r_4 kids l_1 (r3 κ) y'_9 begins) (zav zac r r_1 r_2 r_3 r_4 kids l_1 r3' y'_9 begins):=by
  unfold zav
  repeat' with_reducible first | exact ChO.const _ | exact zae _ _ _ _ _ _ | exact h_r3 _ _ _ _ _ _ _ | (apply zgh<;>assumption) | apply ChO.ite | apply ChO.G | (apply ChO.bind;intro _) | (apply ChO.bind2 (zae _ _ _ _ _ _);intro _) | (refine ChO.bind2 ?_ (fun _ => ?_))
theorem zdI (zaa:Nat->(List UInt8)->Int->Int->Int->Int->Tp2->Option (Int×(List UInt8)×Int×Int×Tp2×Int×Int)) (zac:(List UInt8)->Int->Int->Int->Int->Tp2->Option (Int×(List UInt8)×Int×Int×Tp2×Int×Int)) (zae:∀ a0 a1 a2 a3 a4 a5,ChO (fun κ=>zaa κ a0 a1 a2 a3 a4 a5) (zac a0 a1 a2 a3 a4 a5)) (r3:Nat->(List UInt8)->Int->Int->Int->Int->Tp6->Tp2->Option (Int×(List UInt8)×Int×Int×Tp2×Int×Int)) (r3':(List UInt8)->Int->Int->Int->Int->Tp6->Tp2->Option (Int×(List UInt8)×Int×Int×Tp2×Int×Int)) (h_r3:∀ a0 a1 a2 a3 a4 a5 a6,ChO (fun κ=>r3 κ a0 a1 a2 a3 a4 a5 a6) (r3' a0 a1 a2 a3 a4 a5 a6)) (r r_1 r_2 r_3 r_4 kids l_1):ChO (fun κ=>zaM (zaa κ) (r3 κ) r r_1 r_2 r_3 r_4 kids l_1) (zaM zac r3' r r_1 r_2 r_3 r_4 kids l_1):=by
  unfold zaM
  repeat' with_reducible first | exact ChO.const _ | exact zae _ _ _ _ _ _ | exact h_r3 _ _ _ _ _ _ _ | (apply zii<;>assumption) | apply ChO.ite | (apply ChO.bind;intro _) | (apply ChO.bind2 (zae _ _ _ _ _ _);intro _) | (refine ChO.bind2 ?_ (fun _ => ?_))
theorem zcA (zaa):Cn (zeT zaa):=fun g h hg x=>zdI (fun _=>zaa) zaa (fun _ _ _ _ _ _=>ChO.const _) _ _ (fun a0 a1 a2 a3 a4 a5 a6=>hg (a0,a1,a2,a3,a4,a5,a6))  x.1 x.2.1 x.2.2.1 x.2.2.2.1 x.2.2.2.2.1 x.2.2.2.2.2.1 x.2.2.2.2.2.2
theorem zcB (zaa r r_1 r_2 r_3 r_4 kids l_1):zaF zaa r r_1 r_2 r_3 r_4 kids l_1=zaM zaa (zaF zaa) r r_1 r_2 r_3 r_4 kids l_1:=zay (zcA zaa) (r,r_1,r_2,r_3,r_4,kids,l_1)
theorem zij (zaa:Nat->(List UInt8)->Int->Int->Int->Int->Tp2->Option (Int×(List UInt8)×Int×Int×Tp2×Int×Int)) (zac:(List UInt8)->Int->Int->Int->Int->Tp2->Option (Int×(List UInt8)×Int×Int×Tp2×Int×Int)) (zae:∀ a0 a1 a2 a3 a4 a5,ChO (fun κ=>zaa κ a0 a1 a2 a3 a4 a5) (zac a0 a1 a2 a3 a4 a5)) (r r_1 r_2 r_3 r_4 kids l_1):ChO (fun κ=>zaF (zaa κ) r r_1 r_2 r_3 r_4 kids l_1) (zaF zac r r_1 r_2 r_3 r_4 kids l_1):=by
  unfold zaF
  exact zdo (fun κ=>(zcA (zaa κ) ).mono) (zcA zac ).mono (fun g h hg x=>zdI zaa zac zae _ _ (fun a0 a1 a2 a3 a4 a5 a6=>hg (a0,a1,a2,a3,a4,a5,a6))  x.1 x.2.1 x.2.2.1 x.2.2.2.1 x.2.2.2.2.1 x.2.2.2.2.2.1 x.2.2.2.2.2.2) _
theorem zgj (zaa:Nat->(List UInt8)->Int->Int->Int->Int->Tp2->Option (Int×(List UInt8)×Int×Int×Tp2×Int×Int)) (zac:(List UInt8)->Int->Int->Int->Int->Tp2->Option (Int×(List UInt8)×Int×Int×Tp2×Int×Int)) (zae:∀ a0 a1 a2 a3 a4 a5,ChO (fun κ=>zaa κ a0 a1 a2 a3 a4 a5) (zac a0 a1 a2 a3 a4 a5)) (c c_1 c_2 c_3 c_4 l):ChO (fun κ=>zbo (zaa κ) c c_1 c_2 c_3 c_4 l) (zbo zac c c_1 c_2 c_3 c_4 l):=by
  unfold zbo
  repeat' with_reducible first | exact ChO.const _ | exact zae _ _ _ _ _ _ | (apply zgh<;>assumption) | (apply zij<;>assumption) | (apply ChO.bind;intro _) | (apply ChO.bind2 (zae _ _ _ _ _ _);intro _) | (refine ChO.bind2 ?_ (fun _ => ?_))
theorem zc3 (zaa:Nat->(List UInt8)->Int->Int->Int->Int->Tp2->Option (Int×(List UInt8)×Int×Int×Tp2×Int×Int)) (zac:(List UInt8)->Int->Int->Int->Int->Tp2->Option (Int×(List UInt8)×Int×Int×Tp2×Int×Int)) (zae:∀ a0 a1 a2 a3 a4 a5,ChO (fun κ=>zaa κ a0 a1 a2 a3 a4 a5) (zac a0 a1 a2 a3 a4 a5)) (r3:Nat->(List UInt8)->Int->Int->Int->Int->Tp6->Tp2->Option (Int×(List UInt8)×Int×Int×Tp2×Int×Int)) (r3':(List UInt8)->Int->Int->Int->Int->Tp6->Tp2->Option (Int×(List UInt8)×Int×Int×Tp2×Int×Int)) (h_r3:∀ a0 a1 a2 a3 a4 a5 a6,ChO (fun κ=>r3 κ a0 a1 a2 a3 a4 a5 a6) (r3' a0 a1 a2 a3 a4 a5 a6)) (r r_1 r_2 r_3 r_4 kids l_1):ChO (fun κ=>zaB (zaa κ) (r3 κ) r r_1 r_2 r_3 r_4 kids l_1) (zaB zac r3' r r_1 r_2 r_3 r_4 kids l_1):=by
  unfold zaB
  repeat' with_reducible first | exact ChO.const _ | exact zae _ _ _ _ _ _ | exact h_r3 _ _ _ _ _ _ _ | (apply zgj<;>assumption) | apply ChO.ite | apply ChO.G | (apply ChO.bind;intro _) | (apply ChO.bind2 (zae _ _ _ _ _ _);intro _) | (refine ChO.bind2 ?_ (fun _ => ?_))
theorem zbZ (zaa):Cn (zdZ zaa):=fun g h hg x=>zc3 (fun _=>zaa) zaa (fun _ _ _ _ _ _=>ChO.const _) _ _ (fun a0 a1 a2 a3 a4 a5 a6=>hg (a0,a1,a2,a3,a4,a5,a6))  x.1 x.2.1 x.2.2.1 x.2.2.2.1 x.2.2.2.2.1 x.2.2.2.2.2.1 x.2.2.2.2.2.2
theorem zdJ (zaa r r_1 r_2 r_3 r_4 kids l_1):zaN zaa r r_1 r_2 r_3 r_4 kids l_1=zaB zaa (zaN zaa) r r_1 r_2 r_3 r_4 kids l_1:=zay (zbZ zaa) (r,r_1,r_2,r_3,r_4,kids,l_1)
theorem zg9 (zaa:Nat->(List UInt8)->Int->Int->Int->Int->Tp2->Option (Int×(List UInt8)×Int×Int×Tp2×Int×Int)) (zac:(List UInt8)->Int->Int->Int->Int->Tp2->Option (Int×(List UInt8)×Int×Int×Tp2×Int×Int)) (zae:∀ a0 a1 a2 a3 a4 a5,ChO (fun κ=>zaa κ a0 a1 a2 a3 a4 a5) (zac a0 a1 a2 a3 a4 a5)) (r r_1 r_2 r_3 r_4 kids l_1):ChO (fun κ=>zaN (zaa κ) r r_1 r_2 r_3 r_4 kids l_1) (zaN zac r r_1 r_2 r_3 r_4 kids l_1):=by
  unfold zaN
  exact zdo (fun κ=>(zbZ (zaa κ) ).mono) (zbZ zac ).mono (fun g h hg x=>zc3 zaa zac zae _ _ (fun a0 a1 a2 a3 a4 a5 a6=>hg (a0,a1,a2,a3,a4,a5,a6))  x.1 x.2.1 x.2.2.1 x.2.2.2.1 x.2.2.2.2.1 x.2.2.2.2.2.1 x.2.2.2.2.2.2) _
theorem zhH (zaa:Nat->(List UInt8)->Int->Int->Int->Int->Tp2->Option (Int×(List UInt8)×Int×Int×Tp2×Int×Int)) (zac:(List UInt8)->Int->Int->Int->Int->Tp2->Option (Int×(List UInt8)×Int×Int×Tp2×Int×Int)) (zae:∀ a0 a1 a2 a3 a4 a5,ChO (fun κ=>zaa κ a0 a1 a2 a3 a4 a5) (zac a0 a1 a2 a3 a4 a5)) (c c_1 c_2 c_3 c_4 l):ChO (fun κ=>zbj (zaa κ) c c_1 c_2 c_3 c_4 l) (zbj zac c c_1 c_2 c_3 c_4 l):=by
  unfold zbj
  repeat' with_reducible first | exact ChO.const _ | exact zae _ _ _ _ _ _ | (apply zgj<;>assumption) | (apply zg9<;>assumption) | (apply ChO.bind;intro _) | (apply ChO.bind2 (zae _ _ _ _ _ _);intro _) | (refine ChO.bind2 ?_ (fun _ => ?_))
def zcd:((List UInt8)×Int×Int×Int×Int×Tp2->Option (Int×(List UInt8)×Int×Int×Tp2×Int×Int))->(List UInt8)×Int×Int×Int×Int×Tp2->Option (Int×(List UInt8)×Int×Int×Tp2×Int×Int):=
  fun rec X=>zbj (fun c c_1 c_2 c_3 c_4 l=>rec (c,c_1,c_2,c_3,c_4,l)) X.1 X.2.1 X.2.2.1 X.2.2.2.1 X.2.2.2.2.1 X.2.2.2.2.2
def zaq (c:(List UInt8)) (c_1 c_2 c_3 c_4:Int) (l:Tp2):Option (Int×(List UInt8)×Int×Int×Tp2×Int×Int):=LFix zcd (c,c_1,c_2,c_3,c_4,l)
theorem zjb:Cn zcd:=fun g h hg X=>zhH _ _ (fun c c_1 c_2 c_3 c_4 l=>hg (c,c_1,c_2,c_3,c_4,l)) X.1 X.2.1 X.2.2.1 X.2.2.2.1 X.2.2.2.2.1 X.2.2.2.2.2
theorem zjc (c c_1 c_2 c_3 c_4 l):zaq c c_1 c_2 c_3 c_4 l=zbj zaq c c_1 c_2 c_3 c_4 l:=zay zjb (c,c_1,c_2,c_3,c_4,l)
def zkT (text:(List UInt8)):Option ((Int×Int×Unit)×Tp2):=
  if (decide ((4000:Int) < (text.length:Int)))=true then
  some (((1:Int),((0:Int),())),[]) else
  (zaq text (0:Int) (0:Int) (0:Int) (0:Int) ([]:List Tp3)).bind (fun y'_16=>
  if (decide (y'_16.2.2.1 < (text.length:Int)))=true then
  (zci (4:Int) y'_16.2.1 y'_16.2.2.1 y'_16.2.2.2.1 y'_16.2.2.2.2.2.1 y'_16.2.2.2.2.2.2 y'_16.2.2.2.2.1).bind (fun y'_15=>
  if (decide (¬ y'_15.2.2.2.2.1=(0:Int)))=true then
  some ((y'_15.2.2.2.2.1,(y'_15.2.2.2.2.2,())),[]) else
  some (((0:Int),((0:Int),())),y'_15.2.2.2.1)) else
  if (decide (¬ y'_16.2.2.2.2.2.1=(0:Int)))=true then
  some ((y'_16.2.2.2.2.2.1,(y'_16.2.2.2.2.2.2,())),[]) else
  some (((0:Int),((0:Int),())),y'_16.2.2.2.2.1))

def zbN (d:Tp1) (w:Tp6) (r2:Int->Int->Option (Int)) (q_1 i:Int):Option (Int):=
  if (decide (i < (w.length:Int)))=true then
  G (0<=q_1/\q_1 < (d.2.2.1.length:Int)) (
  G (0<=i/\i < (w.length:Int)) (
  G (0<=ix w i/\ix w i < ((ix d.2.2.1 q_1).length:Int)) (
  G (fits (i+(1:Int))) (
  r2 (ix (ix d.2.2.1 q_1) (ix w i)) (i+(1:Int)))))) else
  some q_1
def zjm (d:Tp1) (w:Tp6):(Int×Int->Option (Int))->Int×Int->Option (Int):=
  fun rec x=>zbN d w (fun q_1 i=>rec (q_1,i)) x.1 x.2
def zgb (d:Tp1) (w:Tp6) (q_1 i:Int):Option (Int):=LFix (zjm d w ) (q_1,i)
def znS (d:Tp1) (q:Int) (w:Tp6):Option (Int):=
  zgb d w q (0:Int)
theorem zkC (r2:Nat->Int->Int->Option (Int)) (r2':Int->Int->Option (Int)) (h_r2:∀ a0 a1,ChO (fun κ=>r2 κ a0 a1) (r2' a0 a1)) (d w q_1 i):ChO (fun κ=>zbN d w (r2 κ) q_1 i) (zbN d w r2' q_1 i):=by
  unfold zbN
  repeat' with_reducible first | exact ChO.const _ | exact h_r2 _ _ | apply ChO.ite | apply ChO.G
theorem zmv (d w):Cn (zjm d w):=fun g h hg x=>zkC  _ _ (fun a0 a1=>hg (a0,a1)) d w x.1 x.2
theorem zhZ (d w q_1 i):zgb d w q_1 i=zbN d w (zgb d w) q_1 i:=zay (zmv d w) (q_1,i)

def zeb (d:Tp1) (w:Tp6):Option (Bool):=
  (znS (d.1,(d.2.1,(d.2.2.1,(d.2.2.2.1,())))) d.2.1 w).bind (fun y'=>
  G (0<=y'/\y' < (d.2.2.2.1.length:Int)) (
  some (decide ((ix d.2.2.2.1 y')=(1:Int)))))

def zdw (out:Tp5):Option Tp5:=
  some out
def zb3 (l:Tp2) (k:Int) (w:Tp6) (from':Tp5) (r8:Int->Tp5->Option Tp5) (i:Int) (out_1:Tp5):Option Tp5:=
  if (decide (i < (w.length:Int)))=true then
  G (fits (i+(1:Int))) (
  G (0<=i/\i < (from'.length:Int)) (
  if (ix from' i)=true then
  G (0<=i/\i < (w.length:Int)) (
  G (0<=i+(1:Int)/\i+(1:Int) < (out_1.length:Int)) (
  G ((i+(1:Int)).toNat < out_1.length) (
  G (fits (i+(1:Int))) (
  r8 (i+(1:Int)) (out_1.set (i+(1:Int)).toNat (decide ((ix w i)=(((ix l k).2).1)))))))) else
  G (0<=i+(1:Int)/\i+(1:Int) < (out_1.length:Int)) (
  G ((i+(1:Int)).toNat < out_1.length) (
  G (fits (i+(1:Int))) (
  r8 (i+(1:Int)) (out_1.set (i+(1:Int)).toNat false)))))) else
  zdw out_1
def zkk (l:Tp2) (k:Int) (w:Tp6) (from':Tp5):(Int×Tp5->Option Tp5)->Int×Tp5->Option Tp5:=
  fun rec x=>zb3 l k w from' (fun i out_1=>rec (i,out_1)) x.1 x.2
def zea (l:Tp2) (k:Int) (w:Tp6) (from':Tp5) (i:Int) (out_1:Tp5):Option Tp5:=LFix (zkk l k w from' ) (i,out_1)
def zbI (j:Int) (r13:(Int->Tp5->Option Tp5)) (y':Tp5) (r17:Int->Tp5->Option Tp5) (i_1:Int) (out_3:Tp5):Option Tp5:=
  if (decide (i_1 < (y'.length:Int)))=true then
  G (0<=i_1/\i_1 < (out_3.length:Int)) (
  G ((i_1).toNat < out_3.length) (
  if (ix out_3 i_1)=true then
  G (0<=i_1/\i_1 < (out_3.length:Int)) (
  G ((i_1).toNat < out_3.length) (
  G (fits (i_1+(1:Int))) (
  r17 (i_1+(1:Int)) (out_3.set (i_1).toNat true)))) else
  G (0<=i_1/\i_1 < (y'.length:Int)) (
  G ((i_1).toNat < y'.length) (
  G (0<=i_1/\i_1 < (out_3.length:Int)) (
  G ((i_1).toNat < out_3.length) (
  G (fits (i_1+(1:Int))) (
  r17 (i_1+(1:Int)) (out_3.set (i_1).toNat (ix y' i_1))))))))) else
  G (fits (j+(1:Int))) (
  r13 (j+(1:Int)) out_3)
def zjg (j:Int) (r13:(Int->Tp5->Option Tp5)) (y':Tp5):(Int×Tp5->Option Tp5)->Int×Tp5->Option Tp5:=
  fun rec x=>zbI j r13 y' (fun i_1 out_3=>rec (i_1,out_3)) x.1 x.2
def zb2 (j:Int) (r13:(Int->Tp5->Option Tp5)) (y':Tp5) (i_1:Int) (out_3:Tp5):Option Tp5:=LFix (zjg j r13 y' ) (i_1,out_3)
def zbH (zad:Tf1) (l:Tp2) (k:Int) (w:Tp6) (from':Tp5) (r13:Int->Tp5->Option Tp5) (j:Int) (out_2:Tp5):Option Tp5:=
  if (decide (j < (((((ix l k).2).2).1).length:Int)))=true then
  G (0<=j/\j < (((((ix l k).2).2).1).length:Int)) (
  (zad l (ix ((((ix l k).2).2).1) j) w from').bind (fun y'=>
  zb2 j r13 y' (0:Int) out_2)) else
  zdw out_2
def zjf (zad:Tf1) (l:Tp2) (k:Int) (w:Tp6) (from':Tp5):(Int×Tp5->Option Tp5)->Int×Tp5->Option Tp5:=
  fun rec x=>zbH zad l k w from' (fun j out_2=>rec (j,out_2)) x.1 x.2
def zb1 (zad:Tf1) (l:Tp2) (k:Int) (w:Tp6) (from':Tp5) (j:Int) (out_2:Tp5):Option Tp5:=LFix (zjf zad l k w from' ) (j,out_2)
def zbJ (zad:Tf1) (l:Tp2) (k:Int) (w:Tp6) (r23:Int->Tp5->Option Tp5) (j_1:Int) (out_4:Tp5):Option Tp5:=
  if (decide (j_1 < (((((ix l k).2).2).1).length:Int)))=true then
  G (0<=j_1/\j_1 < (((((ix l k).2).2).1).length:Int)) (
  (zad l (ix ((((ix l k).2).2).1) j_1) w out_4).bind (fun y'_1=>
  G (fits (j_1+(1:Int))) (
  r23 (j_1+(1:Int)) y'_1))) else
  zdw out_4
def zjh (zad:Tf1) (l:Tp2) (k:Int) (w:Tp6):(Int×Tp5->Option Tp5)->Int×Tp5->Option Tp5:=
  fun rec x=>zbJ zad l k w (fun j_1 out_4=>rec (j_1,out_4)) x.1 x.2
def zcC (zad:Tf1) (l:Tp2) (k:Int) (w:Tp6) (j_1:Int) (out_4:Tp5):Option Tp5:=LFix (zjh zad l k w ) (j_1,out_4)
def zb0 (y'_2:Tp5) (i_2:Int) (out_6:Tp5) (r33:(Bool->Int->Tp5->Option Tp5)) (again_2:Bool):Option Tp5:=
  G (0<=i_2/\i_2 < (out_6.length:Int)) (
  G ((i_2).toNat < out_6.length) (
  if (ix out_6 i_2)=true then
  G (0<=i_2/\i_2 < (out_6.length:Int)) (
  G ((i_2).toNat < out_6.length) (
  G (fits (i_2+(1:Int))) (
  r33 again_2 (i_2+(1:Int)) (out_6.set (i_2).toNat true)))) else
  G (0<=i_2/\i_2 < (y'_2.length:Int)) (
  G ((i_2).toNat < y'_2.length) (
  G (0<=i_2/\i_2 < (out_6.length:Int)) (
  G ((i_2).toNat < out_6.length) (
  G (fits (i_2+(1:Int))) (
  r33 again_2 (i_2+(1:Int)) (out_6.set (i_2).toNat (ix y'_2 i_2)))))))))
def zbM (r29:(Bool->Tp5->Option Tp5)) (y'_2:Tp5) (r33:Bool->Int->Tp5->Option Tp5) (again_1:Bool) (i_2:Int) (out_6:Tp5):Option Tp5:=
  if (decide (i_2 < (y'_2.length:Int)))=true then
  if again_1=true then
  zb0 y'_2 i_2 out_6 r33 true else
  G (0<=i_2/\i_2 < (y'_2.length:Int)) (
  G ((i_2).toNat < y'_2.length) (
  if (ix y'_2 i_2)=true then
  G (0<=i_2/\i_2 < (out_6.length:Int)) (
  G ((i_2).toNat < out_6.length) (
  zb0 y'_2 i_2 out_6 r33 (!(ix out_6 i_2)))) else
  zb0 y'_2 i_2 out_6 r33 false)) else
  r29 again_1 out_6
def zjj (r29:(Bool->Tp5->Option Tp5)) (y'_2:Tp5):(Bool×Int×Tp5->Option Tp5)->Bool×Int×Tp5->Option Tp5:=
  fun rec x=>zbM r29 y'_2 (fun again_1 i_2 out_6=>rec (again_1,i_2,out_6)) x.1 x.2.1 x.2.2
def zbL (r29:(Bool->Tp5->Option Tp5)) (y'_2:Tp5) (again_1:Bool) (i_2:Int) (out_6:Tp5):Option Tp5:=LFix (zjj r29 y'_2 ) (again_1,i_2,out_6)
def zbK (zad:Tf1) (l:Tp2) (k:Int) (w:Tp6) (r29:Bool->Tp5->Option Tp5) (again:Bool) (out_5:Tp5):Option Tp5:=
  if again=true then
  G (0<=(0:Int)/\(0:Int) < (((((ix l k).2).2).1).length:Int)) (
  (zad l (ix ((((ix l k).2).2).1) (0:Int)) w out_5).bind (fun y'_2=>
  zbL r29 y'_2 false (0:Int) out_5)) else
  zdw out_5
def zji (zad:Tf1) (l:Tp2) (k:Int) (w:Tp6):(Bool×Tp5->Option Tp5)->Bool×Tp5->Option Tp5:=
  fun rec x=>zbK zad l k w (fun again out_5=>rec (again,out_5)) x.1 x.2
def zbs (zad:Tf1) (l:Tp2) (k:Int) (w:Tp6) (again:Bool) (out_5:Tp5):Option Tp5:=LFix (zji zad l k w ) (again,out_5)
def zfJ (zad:Tf1) (l:Tp2) (k:Int) (w:Tp6) (from':Tp5):Option Tp5:=
  G (0<=k/\k < (l.length:Int)) (
  G (mkOK (from'.length:Int) (from'.length:Int) 1) (
  if (decide (((ix l k).1)=(1:Int)))=true then
  zdw (from'.take (List.replicate ((from'.length:Int)).toNat (false:Bool)).length++(List.replicate ((from'.length:Int)).toNat (false:Bool)).drop from'.length) else
  if (decide (((ix l k).1)=(2:Int)))=true then
  zea l k w from' (0:Int) (List.replicate ((from'.length:Int)).toNat (false:Bool)) else
  if (decide (((ix l k).1)=(3:Int)))=true then
  zb1 zad l k w from' (0:Int) (List.replicate ((from'.length:Int)).toNat (false:Bool)) else
  if (decide (((ix l k).1)=(4:Int)))=true then
  zcC zad l k w (0:Int) (from'.take (List.replicate ((from'.length:Int)).toNat (false:Bool)).length++(List.replicate ((from'.length:Int)).toNat (false:Bool)).drop from'.length) else
  if (decide (((ix l k).1)=(5:Int)))=true then
  zbs zad l k w true (from'.take (List.replicate ((from'.length:Int)).toNat (false:Bool)).length++(List.replicate ((from'.length:Int)).toNat (false:Bool)).drop from'.length) else
  zdw (List.replicate ((from'.length:Int)).toNat (false:Bool))))
theorem zlK (r8:Nat->Int->Tp5->Option Tp5) (r8':Int->Tp5->Option Tp5) (h_r8:∀ a0 a1,ChO (fun κ=>r8 κ a0 a1) (r8' a0 a1)) (l k w from' i out_1):ChO (fun κ=>zb3 l k w from' (r8 κ) i out_1) (zb3 l k w from' r8' i out_1):=by
  unfold zb3
  repeat' with_reducible first | exact ChO.const _ | exact h_r8 _ _ | apply ChO.ite | apply ChO.G
theorem znQ (l k w from'):Cn (zkk l k w from'):=fun g h hg x=>zlK  _ _ (fun a0 a1=>hg (a0,a1)) l k w from' x.1 x.2
theorem zjk (l k w from' i out_1):zea l k w from' i out_1=zb3 l k w from' (zea l k w from') i out_1:=zay (znQ l k w from') (i,out_1)
theorem zgl (r13:Nat->Int->Tp5->Option Tp5) (r13':Int->Tp5->Option Tp5) (h_r13:∀ a0 a1,ChO (fun κ=>r13 κ a0 a1) (r13' a0 a1)) (r17:Nat->Int->Tp5->Option Tp5) (r17':Int->Tp5->Option Tp5) (h_r17:∀ a0 a1,ChO (fun κ=>r17 κ a0 a1) (r17' a0 a1)) (j y' i_1 out_3):ChO (fun κ=>zbI j (r13 κ) y' (r17 κ) i_1 out_3) (zbI j r13' y' r17' i_1 out_3):=by
  unfold zbI
  repeat' with_reducible first | exact ChO.const _ | exact h_r13 _ _ | exact h_r17 _ _ | apply ChO.ite | apply ChO.G
theorem zfi (r13 j y'):Cn (zjg j r13 y'):=fun g h hg x=>zgl (fun _=>r13) r13 (fun _ _=>ChO.const _) _ _ (fun a0 a1=>hg (a0,a1)) j y' x.1 x.2
theorem zhT (r13 j y' i_1 out_3):zb2 j r13 y' i_1 out_3=zbI j r13 y' (zb2 j r13 y') i_1 out_3:=zay (zfi r13 j y') (i_1,out_3)
theorem zmr (r13:Nat->Int->Tp5->Option Tp5) (r13':Int->Tp5->Option Tp5) (h_r13:∀ a0 a1,ChO (fun κ=>r13 κ a0 a1) (r13' a0 a1)) (j y' i_1 out_3):ChO (fun κ=>zb2 j (r13 κ) y' i_1 out_3) (zb2 j r13' y' i_1 out_3):=by
  unfold zb2
  exact zdo (fun κ=>(zfi (r13 κ) j y').mono) (zfi r13' j y').mono (fun g h hg x=>zgl r13 r13' h_r13 _ _ (fun a0 a1=>hg (a0,a1)) j y' x.1 x.2) _
theorem zgk (zad:Nat->Tf1) (zak:Tf1) (zax:∀ a0 a1 a2 a3,ChO (fun κ=>zad κ a0 a1 a2 a3) (zak a0 a1 a2 a3)) (r13:Nat->Int->Tp5->Option Tp5) (r13':Int->Tp5->Option Tp5) (h_r13:∀ a0 a1,ChO (fun κ=>r13 κ a0 a1) (r13' a0 a1)) (l k w from' j out_2):ChO (fun κ=>zbH (zad κ) l k w from' (r13 κ) j out_2) (zbH zak l k w from' r13' j out_2):=by
  unfold zbH
  repeat' with_reducible first | exact ChO.const _ | exact zax _ _ _ _ | exact h_r13 _ _ | (apply zmr<;>assumption) | apply ChO.ite | apply ChO.G | (apply ChO.bind;intro _) | (apply ChO.bind2 (zax _ _ _ _);intro _)
theorem zfh (zad l k w from'):Cn (zjf zad l k w from'):=fun g h hg x=>zgk (fun _=>zad) zad (fun _ _ _ _=>ChO.const _) _ _ (fun a0 a1=>hg (a0,a1)) l k w from' x.1 x.2
theorem zhS (zad l k w from' j out_2):zb1 zad l k w from' j out_2=zbH zad l k w from' (zb1 zad l k w from') j out_2:=zay (zfh zad l k w from') (j,out_2)
theorem zmq (zad:Nat->Tf1) (zak:Tf1) (zax:∀ a0 a1 a2 a3,ChO (fun κ=>zad κ a0 a1 a2 a3) (zak a0 a1 a2 a3)) (l k w from' j out_2):ChO (fun κ=>zb1 (zad κ) l k w from' j out_2) (zb1 zak l k w from' j out_2):=by
  unfold zb1
  exact zdo (fun κ=>(zfh (zad κ) l k w from').mono) (zfh zak l k w from').mono (fun g h hg x=>zgk zad zak zax _ _ (fun a0 a1=>hg (a0,a1)) l k w from' x.1 x.2) _
theorem zgm (zad:Nat->Tf1) (zak:Tf1) (zax:∀ a0 a1 a2 a3,ChO (fun κ=>zad κ a0 a1 a2 a3) (zak a0 a1 a2 a3)) (r23:Nat->Int->Tp5->Option Tp5) (r23':Int->Tp5->Option Tp5) (h_r23:∀ a0 a1,ChO (fun κ=>r23 κ a0 a1) (r23' a0 a1)) (l k w j_1 out_4):ChO (fun κ=>zbJ (zad κ) l k w (r23 κ) j_1 out_4) (zbJ zak l k w r23' j_1 out_4):=by
  unfold zbJ
  repeat' with_reducible first | exact ChO.const _ | exact zax _ _ _ _ | exact h_r23 _ _ | apply ChO.ite | apply ChO.G | (apply ChO.bind;intro _) | (apply ChO.bind2 (zax _ _ _ _);intro _)
theorem zfj (zad l k w):Cn (zjh zad l k w):=fun g h hg x=>zgm (fun _=>zad) zad (fun _ _ _ _=>ChO.const _) _ _ (fun a0 a1=>hg (a0,a1)) l k w x.1 x.2
theorem zhU (zad l k w j_1 out_4):zcC zad l k w j_1 out_4=zbJ zad l k w (zcC zad l k w) j_1 out_4:=zay (zfj zad l k w) (j_1,out_4)
theorem zms (zad:Nat->Tf1) (zak:Tf1) (zax:∀ a0 a1 a2 a3,ChO (fun κ=>zad κ a0 a1 a2 a3) (zak a0 a1 a2 a3)) (l k w j_1 out_4):ChO (fun κ=>zcC (zad κ) l k w j_1 out_4) (zcC zak l k w j_1 out_4):=by
  unfold zcC
  exact zdo (fun κ=>(zfj (zad κ) l k w).mono) (zfj zak l k w).mono (fun g h hg x=>zgm zad zak zax _ _ (fun a0 a1=>hg (a0,a1)) l k w x.1 x.2) _
theorem zmp (r33:Nat->Bool->Int->Tp5->Option Tp5) (r33':Bool->Int->Tp5->Option Tp5) (h_r33:∀ a0 a1 a2,ChO (fun κ=>r33 κ a0 a1 a2) (r33' a0 a1 a2)) (y'_2 i_2 out_6 again_2):ChO (fun κ=>zb0 y'_2 i_2 out_6 (r33 κ) again_2) (zb0 y'_2 i_2 out_6 r33' again_2):=by
  unfold zb0
  repeat' with_reducible first | exact ChO.const _ | exact h_r33 _ _ _ | apply ChO.ite | apply ChO.G
theorem zgo (r29:Nat->Bool->Tp5->Option Tp5) (r29':Bool->Tp5->Option Tp5) (h_r29:∀ a0 a1,ChO (fun κ=>r29 κ a0 a1) (r29' a0 a1)) (r33:Nat->Bool->Int->Tp5->Option Tp5) (r33':Bool->Int->Tp5->Option Tp5) (h_r33:∀ a0 a1 a2,ChO (fun κ=>r33 κ a0 a1 a2) (r33' a0 a1 a2)) (y'_2 again_1 i_2 out_6):ChO (fun κ=>zbM (r29 κ) y'_2 (r33 κ) again_1 i_2 out_6) (zbM r29' y'_2 r33' again_1 i_2 out_6):=by
  unfold zbM
  repeat' with_reducible first | exact ChO.const _ | exact h_r29 _ _ | exact h_r33 _ _ _ | (apply zmp<;>assumption) | apply ChO.ite | apply ChO.G
theorem zfl (r29 y'_2):Cn (zjj r29 y'_2):=fun g h hg x=>zgo (fun _=>r29) r29 (fun _ _=>ChO.const _) _ _ (fun a0 a1 a2=>hg (a0,a1,a2)) y'_2 x.1 x.2.1 x.2.2
theorem zhW (r29 y'_2 again_1 i_2 out_6):zbL r29 y'_2 again_1 i_2 out_6=zbM r29 y'_2 (zbL r29 y'_2) again_1 i_2 out_6:=zay (zfl r29 y'_2) (again_1,i_2,out_6)
theorem zmu (r29:Nat->Bool->Tp5->Option Tp5) (r29':Bool->Tp5->Option Tp5) (h_r29:∀ a0 a1,ChO (fun κ=>r29 κ a0 a1) (r29' a0 a1)) (y'_2 again_1 i_2 out_6):ChO (fun κ=>zbL (r29 κ) y'_2 again_1 i_2 out_6) (zbL r29' y'_2 again_1 i_2 out_6):=by
  unfold zbL
  exact zdo (fun κ=>(zfl (r29 κ) y'_2).mono) (zfl r29' y'_2).mono (fun g h hg x=>zgo r29 r29' h_r29 _ _ (fun a0 a1 a2=>hg (a0,a1,a2)) y'_2 x.1 x.2.1 x.2.2) _
theorem zgn (zad:Nat->Tf1) (zak:Tf1) (zax:∀ a0 a1 a2 a3,ChO (fun κ=>zad κ a0 a1 a2 a3) (zak a0 a1 a2 a3)) (r29:Nat->Bool->Tp5->Option Tp5) (r29':Bool->Tp5->Option Tp5) (h_r29:∀ a0 a1,ChO (fun κ=>r29 κ a0 a1) (r29' a0 a1)) (l k w again out_5):ChO (fun κ=>zbK (zad κ) l k w (r29 κ) again out_5) (zbK zak l k w r29' again out_5):=by
  unfold zbK
  repeat' with_reducible first | exact ChO.const _ | exact zax _ _ _ _ | exact h_r29 _ _ | (apply zmu<;>assumption) | apply ChO.ite | apply ChO.G | (apply ChO.bind;intro _) | (apply ChO.bind2 (zax _ _ _ _);intro _)
theorem zfk (zad l k w):Cn (zji zad l k w):=fun g h hg x=>zgn (fun _=>zad) zad (fun _ _ _ _=>ChO.const _) _ _ (fun a0 a1=>hg (a0,a1)) l k w x.1 x.2
theorem zhV (zad l k w again out_5):zbs zad l k w again out_5=zbK zad l k w (zbs zad l k w) again out_5:=zay (zfk zad l k w) (again,out_5)
theorem zmt (zad:Nat->Tf1) (zak:Tf1) (zax:∀ a0 a1 a2 a3,ChO (fun κ=>zad κ a0 a1 a2 a3) (zak a0 a1 a2 a3)) (l k w again out_5):ChO (fun κ=>zbs (zad κ) l k w again out_5) (zbs zak l k w again out_5):=by
  unfold zbs
  exact zdo (fun κ=>(zfk (zad κ) l k w).mono) (zfk zak l k w).mono (fun g h hg x=>zgn zad zak zax _ _ (fun a0 a1=>hg (a0,a1)) l k w x.1 x.2) _
theorem zoI (zad:Nat->Tf1) (zak:Tf1) (zax:∀ a0 a1 a2 a3,ChO (fun κ=>zad κ a0 a1 a2 a3) (zak a0 a1 a2 a3)) (l k w from'):ChO (fun κ=>zfJ (zad κ) l k w from') (zfJ zak l k w from'):=by
  unfold zfJ
  repeat' with_reducible first | exact ChO.const _ | exact zax _ _ _ _ | (apply zmq<;>assumption) | (apply zms<;>assumption) | (apply zmt<;>assumption) | apply ChO.ite | apply ChO.G
def zje:(Tp2×Int×Tp6×Tp5->Option Tp5)->Tp2×Int×Tp6×Tp5->Option Tp5:=
  fun rec X=>zfJ (fun l k w from'=>rec (l,k,w,from')) X.1 X.2.1 X.2.2.1 X.2.2.2
def zem (l:Tp2) (k:Int) (w:Tp6) (from':Tp5):Option Tp5:=LFix zje (l,k,w,from')
theorem zqT:Cn zje:=fun g h hg X=>zoI _ _ (fun l k w from'=>hg (l,k,w,from')) X.1 X.2.1 X.2.2.1 X.2.2.2
theorem zqU (l k w from'):zem l k w from'=zfJ zem l k w from':=zay zqT (l,k,w,from')

def zmS (l:Tp2) (w:Tp6):Option (Bool):=
  G (fits ((w.length:Int)+(1:Int))) (
  G (mkOK ((w.length:Int)+(1:Int)) ((w.length:Int)+(1:Int)) 1) (
  G (0<=(0:Int)/\(0:Int) < ((List.replicate ((w.length:Int)+(1:Int)).toNat (false:Bool)).length:Int)) (
  G (((0:Int)).toNat < (List.replicate ((w.length:Int)+(1:Int)).toNat (false:Bool)).length) (
  G (fits ((l.length:Int) - (1:Int))) (
  (zem l ((l.length:Int) - (1:Int)) w ((List.replicate ((w.length:Int)+(1:Int)).toNat (false:Bool)).set ((0:Int)).toNat true)).bind (fun y'=>
  G (0<=(w.length:Int)/\(w.length:Int) < (y'.length:Int)) (
  G (((w.length:Int)).toNat < y'.length) (
  some (ix y' (w.length:Int))))))))))

def zbW (letters:Int) (r3:Int->Tp6->Option Tp6) (i:Int) (out:Tp6):Option Tp6:=
  if (decide ((0:Int)<=i))=true then
  G (0<=i/\i < (out.length:Int)) (
  G ((i).toNat < out.length) (
  G (fits (letters - (1:Int))) (
  if (decide ((ix out i) < (letters - (1:Int))))=true then
  G (0<=i/\i < (out.length:Int)) (
  G ((i).toNat < out.length) (
  G (fits ((ix out i)+(1:Int))) (
  G (0<=i/\i < (out.length:Int)) (
  G ((i).toNat < out.length) (
  some (out.set (i).toNat ((ix out i)+(1:Int)))))))) else
  G (0<=i/\i < (out.length:Int)) (
  G ((i).toNat < out.length) (
  G (fits (i - (1:Int))) (
  r3 (i - (1:Int)) (out.set (i).toNat (0:Int)))))))) else
  G (room out ([(0:Int)]) 8) (
  some (out++([(0:Int)])))
def zkh (letters:Int):(Int×Tp6->Option Tp6)->Int×Tp6->Option Tp6:=
  fun rec x=>zbW letters (fun i out=>rec (i,out)) x.1 x.2
def zhB (letters i:Int) (out:Tp6):Option Tp6:=LFix (zkh letters ) (i,out)
def znO (letters:Int) (w:Tp6):Option Tp6:=
  G (room ([]:List Int) w 8) (
  G (fits (((([]:List Int)++w).length:Int) - (1:Int))) (
  zhB letters (((([]:List Int)++w).length:Int) - (1:Int)) (([]:List Int)++w)))
theorem zlG (r3:Nat->Int->Tp6->Option Tp6) (r3':Int->Tp6->Option Tp6) (h_r3:∀ a0 a1,ChO (fun κ=>r3 κ a0 a1) (r3' a0 a1)) (letters i out):ChO (fun κ=>zbW letters (r3 κ) i out) (zbW letters r3' i out):=by
  unfold zbW
  repeat' with_reducible first | exact ChO.const _ | exact h_r3 _ _ | apply ChO.ite | apply ChO.G
theorem znP (letters):Cn (zkh letters):=fun g h hg x=>zlG  _ _ (fun a0 a1=>hg (a0,a1)) letters x.1 x.2
theorem zja (letters i out):zhB letters i out=zbW letters (zhB letters) i out:=zay (znP letters) (i,out)

def zcy (letters:Int) (w:Tp6) (r6:Int->Option (Int)) (i:Int):Option (Int):=
  if (decide (i < (w.length:Int)))=true then
  G (0<=i/\i < (w.length:Int)) (
  if (decide ((ix w i) < (0:Int)))=true then
  some (2:Int) else
  G (0<=i/\i < (w.length:Int)) (
  if (decide (letters<=(ix w i)))=true then
  some (2:Int) else
  G (fits (i+(1:Int))) (
  r6 (i+(1:Int))))) else
  some (0:Int)
def zlF (letters:Int) (w:Tp6):(Int->Option (Int))->Int->Option (Int):=
  fun rec x=>zcy letters w (fun i=>rec i) x
def zi9 (letters:Int) (w:Tp6) (i:Int):Option (Int):=LFix (zlF letters w ) i
def zqh (letters:Int) (w:Tp6):Option (Int):=
  if (decide (letters < (1:Int)))=true then
  some (2:Int) else
  if (decide ((4:Int) < letters))=true then
  some (2:Int) else
  if (decide ((60:Int) < (w.length:Int)))=true then
  some (1:Int) else
  zi9 letters w (0:Int)
theorem zmn (r6:Nat->Int->Option (Int)) (r6':Int->Option (Int)) (h_r6:∀ a0,ChO (fun κ=>r6 κ a0) (r6' a0)) (letters w i):ChO (fun κ=>zcy letters w (r6 κ) i) (zcy letters w r6' i):=by
  unfold zcy
  repeat' with_reducible first | exact ChO.const _ | exact h_r6 _ | apply ChO.ite | apply ChO.G
theorem zoF (letters w):Cn (zlF letters w):=fun g h hg x=>zmn  _ _ (fun a=>hg a) letters w x
theorem zkg (letters w i):zi9 letters w i=zcy letters w (zi9 letters w) i:=zay (zoF letters w) i

def zaA (d:Tp1) (w:Tp6) (y'_7:Tp2) (r16:Int->Tp6->Option (Bool)) (i:Int) (own:Tp6):Option (Bool):=
  if (decide (i < (30:Int)))=true then
  (zeb (d.1,(d.2.1,(d.2.2.1,(d.2.2.2.1,())))) own).bind (fun y'_9=>
  (zmS y'_7 own).bind (fun y'_10=>
  if (decide (¬ y'_9=y'_10))=true then
  some false else
  (znO d.1 own).bind (fun y'_11=>
  G (fits (i+(1:Int))) (
  r16 (i+(1:Int)) y'_11)))) else
  (zqh d.1 w).bind (fun y'_12=>
  if (decide (¬ y'_12=(0:Int)))=true then
  some true else
  (zeb (d.1,(d.2.1,(d.2.2.1,(d.2.2.2.1,())))) w).bind (fun y'_13=>
  (zmS y'_7 w).bind (fun y'_14=>
  some (decide (y'_13=y'_14)))))
def zdG (d:Tp1) (w:Tp6) (y'_7:Tp2):(Int×Tp6->Option (Bool))->Int×Tp6->Option (Bool):=
  fun rec x=>zaA d w y'_7 (fun i own=>rec (i,own)) x.1 x.2
def zbF (d:Tp1) (w:Tp6) (y'_7:Tp2) (i:Int) (own:Tp6):Option (Bool):=LFix (zdG d w y'_7 ) (i,own)
def zbm (d:Tp1) (w:Tp6) (y'_1:(List UInt8)) (y'_2:Int) (y'_4:Bool) (f:Int):Option (Bool):=
  if (!y'_4)=true then
  some false else
  if (decide (¬ f=(0:Int)))=true then
  if (decide (y'_2=f))=true then
  some (decide (y'_1=([]))) else
  some false else
  (zkT y'_1).bind (fun y'_15=>
  if (decide (¬ y'_2=(0:Int)))=true then
  some false else
  if (decide (¬ y'_15.1.1=(0:Int)))=true then
  some false else
  zbF d w y'_15.2 (0:Int) ([]))
def zbl (d:Tp1) (w:Tp6) (y'_1:(List UInt8)) (y'_2:Int) (y'_4:Bool) (y'_5:Int) (t:Bool):Option (Bool):=
  if t=true then
  zbm d w y'_1 y'_2 y'_4 (1:Int) else
  zbm d w y'_1 y'_2 y'_4 y'_5
def zeh (d:Tp1) (w:Tp6):Option (Bool):=
  (ziS (d.1,(d.2.1,(d.2.2.1,(d.2.2.2.1,()))))).bind (fun y'=>
  (zbD (y'.1,(y'.2.1,(y'.2.2.1,(y'.2.2.2.1,()))))).bind (fun y'_16=>
  (zlS (y'.1,(y'.2.1,(y'.2.2.1,(y'.2.2.2.1,())))) (d.1,(d.2.1,(d.2.2.1,(d.2.2.2.1,()))))).bind (fun y'_4=>
  (zjn (d.1,(d.2.1,(d.2.2.1,(d.2.2.2.1,()))))).bind (fun y'_5=>
  if (decide (y'_5=(0:Int)))=true then
  zbl d w y'_16.1 y'_16.2 y'_4 y'_5 (decide ((3:Int) < (d.2.2.1.length:Int))) else
  zbl d w y'_16.1 y'_16.2 y'_4 y'_5 false))))
theorem zfw (r16:Nat->Int->Tp6->Option (Bool)) (r16':Int->Tp6->Option (Bool)) (h_r16:∀ a0 a1,ChO (fun κ=>r16 κ a0 a1) (r16' a0 a1)) (d w y'_7 i own):ChO (fun κ=>zaA d w y'_7 (r16 κ) i own) (zaA d w y'_7 r16' i own):=by
  unfold zaA
  repeat' with_reducible first | exact ChO.const _ | exact h_r16 _ _ | apply ChO.ite | apply ChO.G | (apply ChO.bind;intro _)
theorem zgC (d w y'_7):Cn (zdG d w y'_7):=fun g h hg x=>zfw  _ _ (fun a0 a1=>hg (a0,a1)) d w y'_7 x.1 x.2
theorem zdg (d w y'_7 i own):zbF d w y'_7 i own=zaA d w y'_7 (zbF d w y'_7) i own:=zay (zgC d w y'_7) (i,own)

end
end Go.Proofs.Ytdkmmmmdmkoepaa.regularTextW
