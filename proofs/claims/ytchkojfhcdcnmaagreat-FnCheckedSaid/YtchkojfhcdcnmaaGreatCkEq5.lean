/- A text of its own: Eq5; no condition but those that each theorem names. -/
import Derived.Test.YtchkojfhcdcnmaaGreatCkNm
import Derived.KernelRfl
namespace Go.Proofs.YtchkojfhcdcnmaaGreatCk.Ev
open Go Go.IntKind
set_option maxRecDepth 100000
set_option autoImplicit false
set_option linter.unusedVariables false
noncomputable section
variable (O : Oracle E1)
def zjA (a0:Yi) (a1 a2:Yf) (a3 a4:Int):Option (YN⊕Yp):=
  (if (decide (a4<a3))=true then ((idx a2 a4).bind fun x1=>((zA O a0 x1.2.1).bind fun r2=>((zA O a0 x1.2.2.1).bind fun r3=>(if (List.length a1+List.length ([(x1.1,r2.1.1,r3.1.1,())]:Yf))*56<=140737488355328 then (zhA O a0 (a1++([(x1.1,r2.1.1,r3.1.1,())]:Yf)) a2 a3 (i64.wrap (a4+1))) else none)))) else (some (.inl (a1,()))))
theorem zrW (a0 a1 a2 a3 a4) {r} (h:zjA M a0 a1 a2 a3 a4=some r):zhA M a0 a1 a2 a3 a4=some r:=fxL (fun O=>(by kernel_rfl:zhA (Φ E1 O) a0 a1 a2 a3 a4=zjA O a0 a1 a2 a3 a4)) h
def zqO (a0:Yi) (a1:Yf):Option Yp:=
  ((zhA O a0 [] a1 (a1.length:Int) (0:Int)).bind (Sum.elim (fun y1=>(some ((y1.1,()),()))) (fun r2=>(some r2))))
theorem zAS (a0 a1) {r} (h:zqO M a0 a1=some r):zgd M a0 a1=some r:=fxC (fun O=>(by kernel_rfl:zgd (Φ E1 O) a0 a1=zqO O a0 a1)) h
def zub (a0:Yf) (a1 a2:Int):Option Yd:=
  ((zV O a1 (0:Int) (i64.wrap ((a0.length:Int)-(1:Int)))).bind fun r1=>(if r1.1.1=true then ((zV O a2 (0:Int) (1:Int)).bind fun r2=>(some ((r2.1.1,()),()))) else (some ((false,()),()))))
theorem zCW (a0 a1 a2) {r} (h:zub M a0 a1 a2=some r):ziy M a0 a1 a2=some r:=fxC (fun O=>(by kernel_rfl:ziy (Φ E1 O) a0 a1 a2=zub O a0 a1 a2)) h
def zri (O:Oracle E1) (a0:Ya) (a1:Int):Option ((Yb×Yb×Unit)×(Unit)):=
  (if (a1==0)=true then (some ((a0.2.1,a0.2.2.1,()),())) else (some ((a0.2.2.1,a0.2.1,()),())))
theorem zAt (a0 a1) {r} (h:zri M a0 a1=some r):za0 M a0 a1=some r:=fxC (fun O=>(by kernel_rfl:za0 (Φ E1 O) a0 a1=zri O a0 a1)) h
def zsG (a0:Yg) (a1:Yf):Option YI:=
  ((zbA O (a0.1,()) a1).bind fun r1=>(if (!r1.1.1)=true then (some (([],false,()),())) else (some ((a1,true,()),()))))
theorem zBP (a0 a1) {r} (h:zsG M a0 a1=some r):zoz M a0 a1=some r:=fxC (fun O=>(by kernel_rfl:zoz (Φ E1 O) a0 a1=zsG O a0 a1)) h
def ziC (a0:Yb) (a1 a2:Int):Option (Yj⊕Ys):=
  (if (decide (a2<(a0.length:Int)))=true then (if 0<=a2∧a2<(a0.length:Int) then ((a0[a2.toNat]?).bind fun x1=>(if (decide (x1<a1))=true then (zjH O a0 a1 (i64.wrap (a2+1))) else (some (.inl (a0,a1,a2,()))))) else none) else (some (.inl (a0,a1,a2,()))))
theorem zoK (a0 a1 a2) {r} (h:ziC M a0 a1 a2=some r):zjH M a0 a1 a2=some r:=fxL (fun O=>(by kernel_rfl:zjH (Φ E1 O) a0 a1 a2=ziC O a0 a1 a2)) h
def ztE (a0:Yb) (a1:Int):Option Ys:=
  ((zjH O a0 a1 (0:Int)).bind (Sum.elim (fun y1=>(if (decide (y1.2.2.1<(y1.1.length:Int)))=true then (if 0<=y1.2.2.1∧y1.2.2.1<(y1.1.length:Int) then ((y1.1[y1.2.2.1.toNat]?).bind fun x3=>(if (x3==y1.2.1)=true then (some ((y1.1,()),())) else (if 0<=(0:Int)∧(0:Int)<=y1.2.2.1∧y1.2.2.1<=(y1.1.length:Int) then (if (List.length ([]:Yb)+List.length ((y1.1.take y1.2.2.1.toNat).drop (Int.toNat (0:Int))))*8<=140737488355328 then (if (List.length (([]:Yb)++((y1.1.take y1.2.2.1.toNat).drop (Int.toNat (0:Int))))+List.length ([y1.2.1]:Yb))*8<=140737488355328 then (if 0<=y1.2.2.1∧y1.2.2.1<=(y1.1.length:Int)∧(y1.1.length:Int)<=(y1.1.length:Int) then (if (List.length ((([]:Yb)++((y1.1.take y1.2.2.1.toNat).drop (Int.toNat (0:Int))))++([y1.2.1]:Yb))+List.length ((y1.1.take (Int.toNat (y1.1.length:Int))).drop y1.2.2.1.toNat))*8<=140737488355328 then (some (((((([]:Yb)++((y1.1.take y1.2.2.1.toNat).drop (Int.toNat (0:Int))))++([y1.2.1]:Yb))++((y1.1.take (Int.toNat (y1.1.length:Int))).drop y1.2.2.1.toNat)),()),())) else none) else none) else none) else none) else none))) else none) else (if 0<=(0:Int)∧(0:Int)<=y1.2.2.1∧y1.2.2.1<=(y1.1.length:Int) then (if (List.length ([]:Yb)+List.length ((y1.1.take y1.2.2.1.toNat).drop (Int.toNat (0:Int))))*8<=140737488355328 then (if (List.length (([]:Yb)++((y1.1.take y1.2.2.1.toNat).drop (Int.toNat (0:Int))))+List.length ([y1.2.1]:Yb))*8<=140737488355328 then (if 0<=y1.2.2.1∧y1.2.2.1<=(y1.1.length:Int)∧(y1.1.length:Int)<=(y1.1.length:Int) then (if (List.length ((([]:Yb)++((y1.1.take y1.2.2.1.toNat).drop (Int.toNat (0:Int))))++([y1.2.1]:Yb))+List.length ((y1.1.take (Int.toNat (y1.1.length:Int))).drop y1.2.2.1.toNat))*8<=140737488355328 then (some (((((([]:Yb)++((y1.1.take y1.2.2.1.toNat).drop (Int.toNat (0:Int))))++([y1.2.1]:Yb))++((y1.1.take (Int.toNat (y1.1.length:Int))).drop y1.2.2.1.toNat)),()),())) else none) else none) else none) else none) else none))) (fun r2=>(some r2))))
theorem zCE (a0 a1) {r} (h:ztE M a0 a1=some r):zmT M a0 a1=some r:=fxC (fun O=>(by kernel_rfl:zmT (Φ E1 O) a0 a1=ztE O a0 a1)) h
def zkB (a0 a1:Yb) (a2 a3:Int):Option (Yg⊕Ys):=
  (if (decide (a3<a2))=true then ((((idx a1 a3).bind fun x2=>(if (decide (x2<0))=true then ((zmT O a0 (i64.wrap ((-1:Int)-x2))).bind fun r3=>(some (.inl (r3.1.1,a1,a2,a3,())))) else (some (.inl (a0,a1,a2,a3,()))))):Option ((Yb×Yb×Int×Int×Unit)⊕(Yg⊕(Ys)))).bind (Sum.elim (fun q1=>(ziq O q1.1 q1.2.1 q1.2.2.1 (i64.wrap (q1.2.2.2.1+1)))) (fun r=>some r))) else (some (.inl (a0,()))))
theorem zsM (a0 a1 a2 a3) {r} (h:zkB M a0 a1 a2 a3=some r):ziq M a0 a1 a2 a3=some r:=fxL (fun O=>(by kernel_rfl:ziq (Φ E1 O) a0 a1 a2 a3=zkB O a0 a1 a2 a3)) h
def zsE (a0:Yb):Option Ys:=
  ((ziq O [] a0 (a0.length:Int) (0:Int)).bind (Sum.elim (fun y1=>(some ((y1.1,()),()))) (fun r2=>(some r2))))
theorem zBM (a0) {r} (h:zsE M a0=some r):zhr M a0=some r:=fxC (fun O=>(by kernel_rfl:zhr (Φ E1 O) a0=zsE O a0)) h
def zkj (a0:Yb) (a1:Yf) (a2 a3:Int):Option (Yg⊕Ys):=
  (if (decide (a3<a2))=true then ((idx a1 a3).bind fun x1=>((zhr O x1.2.1).bind fun r2=>((zhr O x1.2.2.1).bind fun r3=>(if (List.length r2.1.1+List.length r3.1.1)*8<=140737488355328 then ((zd2 O a0 a1 a2 a3 (r2.1.1++r3.1.1) (List.length (r2.1.1++r3.1.1):Int) (0:Int)).bind (Sum.elim (fun y4=>(zim O y4.1 y4.2.1 y4.2.2.1 (i64.wrap (y4.2.2.2.1+1)))) (fun r5=>(some (.inr r5))))) else none)))) else (some (.inl (a0,()))))
theorem zsN (a0 a1 a2 a3) {r} (h:zkj M a0 a1 a2 a3=some r):zim M a0 a1 a2 a3=some r:=fxL (fun O=>(by kernel_rfl:zim (Φ E1 O) a0 a1 a2 a3=zkj O a0 a1 a2 a3)) h
def zib (a0:Yb) (a1:Yf) (a2 a3:Int) (a4:Yb) (a5 a6:Int):Option ((Yb×Yf×Int×Int×Unit)⊕Ys):=
  (if (decide (a6<a5))=true then (if 0<=a6∧a6<(a4.length:Int) then ((a4[a6.toNat]?).bind fun x1=>((zmT O a0 x1).bind fun r2=>(zd2 O r2.1.1 a1 a2 a3 a4 a5 (i64.wrap (a6+1))))) else none) else (some (.inl (a0,a1,a2,a3,()))))
theorem zp0 (a0 a1 a2 a3 a4 a5 a6) {r} (h:zib M a0 a1 a2 a3 a4 a5 a6=some r):zd2 M a0 a1 a2 a3 a4 a5 a6=some r:=fxL (fun O=>(by kernel_rfl:zd2 (Φ E1 O) a0 a1 a2 a3 a4 a5 a6=zib O a0 a1 a2 a3 a4 a5 a6)) h
def zsJ (a0:Yf):Option Ys:=
  ((zim O [] a0 (a0.length:Int) (0:Int)).bind (Sum.elim (fun y1=>(some ((y1.1,()),()))) (fun r2=>(some r2))))
theorem zBH (a0) {r} (h:zsJ M a0=some r):zot M a0=some r:=fxC (fun O=>(by kernel_rfl:zot (Φ E1 O) a0=zsJ O a0)) h
def zqP (a0:Yf):Option Yh:=
  ((zot O a0).bind fun r1=>(if ((r1.1.1.length:Int)==(0:Int))=true then (some (((0:Int),()),())) else (if 0<=(i64.wrap ((r1.1.1.length:Int)-(1:Int)))∧(i64.wrap ((r1.1.1.length:Int)-(1:Int)))<(r1.1.1.length:Int) then ((r1.1.1[(Int.toNat (i64.wrap ((r1.1.1.length:Int)-(1:Int))))]?).bind fun x2=>(some (((i64.wrap (x2+1)),()),()))) else none)))
theorem zAG (a0) {r} (h:zqP M a0=some r):znq M a0=some r:=fxC (fun O=>(by kernel_rfl:znq (Φ E1 O) a0=zqP O a0)) h
def zjw (a0:Int) (a1:Yb) (a2 a3:Int):Option (Yg⊕Ys):=
  (if (decide (a3<a2))=true then (((if 0<=a3∧a3<(a1.length:Int) then ((a1[a3.toNat]?).bind fun x2=>(if (decide (x2<0))=true then (if 0<=a3∧a3<(a1.length:Int) then ((a1[a3.toNat]?).bind fun x3=>(some (.inl (a0,(a1.set a3.toNat (i64.wrap (x2-a0))),a2,a3,())))) else none) else (some (.inl (a0,a1,a2,a3,()))))) else none):Option ((Int×Yb×Int×Int×Unit)⊕(Yg⊕(Ys)))).bind (Sum.elim (fun q1=>(zhz O q1.1 q1.2.1 q1.2.2.1 (i64.wrap (q1.2.2.2.1+1)))) (fun r=>some r))) else (some (.inl (a1,()))))
theorem zrw (a0 a1 a2 a3) {r} (h:zjw M a0 a1 a2 a3=some r):zhz M a0 a1 a2 a3=some r:=fxL (fun O=>(by kernel_rfl:zhz (Φ E1 O) a0 a1 a2 a3=zjw O a0 a1 a2 a3)) h
def zrb (a0:Yb) (a1:Int):Option Ys:=
  ((zaD O a0).bind fun r1=>((zhz O a1 r1.1.1 (r1.1.1.length:Int) (0:Int)).bind (Sum.elim (fun y2=>(some ((y2.1,()),()))) (fun r3=>(some r3)))))
theorem zz5 (a0 a1) {r} (h:zrb M a0 a1=some r):zk1 M a0 a1=some r:=fxC (fun O=>(by kernel_rfl:zk1 (Φ E1 O) a0 a1=zrb O a0 a1)) h
def ziO (a0:Yg) (a1:Int) (a2 a3:Yf) (a4 a5:Int):Option ((Yg×Yf×Unit)⊕YI):=
  (if (decide (a5<a4))=true then ((idx a3 a5).bind fun x1=>((zk1 O x1.2.1 a1).bind fun r2=>((zk1 O x1.2.2.1 a1).bind fun r3=>(if (List.length a2+List.length ([(x1.1,r2.1.1,r3.1.1,())]:Yf))*56<=140737488355328 then (zgH O (a0.1,()) a1 (a2++([(x1.1,r2.1.1,r3.1.1,())]:Yf)) a3 a4 (i64.wrap (a5+1))) else none)))) else (some (.inl ((a0.1,()),a2,()))))
theorem zqG (a0 a1 a2 a3 a4 a5) {r} (h:ziO M a0 a1 a2 a3 a4 a5=some r):zgH M a0 a1 a2 a3 a4 a5=some r:=fxL (fun O=>(by kernel_rfl:zgH (Φ E1 O) a0 a1 a2 a3 a4 a5=ziO O a0 a1 a2 a3 a4 a5)) h
def zqQ (a0:Yg) (a1 a2:Yf):Option YI:=
  ((znq O a1).bind fun r1=>((zgH O (a0.1,()) r1.1.1 [] a2 (a2.length:Int) (0:Int)).bind (Sum.elim (fun y2=>((zoz O (y2.1.1,()) y2.2.1).bind fun r4=>(some ((r4.1.1,r4.1.2.1,()),())))) (fun r3=>(some r3)))))
theorem zAR (a0 a1 a2) {r} (h:zqQ M a0 a1 a2=some r):znh M a0 a1 a2=some r:=fxC (fun O=>(by kernel_rfl:znh (Φ E1 O) a0 a1 a2=zqQ O a0 a1 a2)) h
def zsB (a0:Yg) (a1:Yb) (a2:Int):Option Ys:=
  ((ziE O (a0.1,()) a1 a2).bind fun r1=>(if 0<=a2∧a2<=r1.1.1∧r1.1.1<=(a1.length:Int) then ((zaD O ((a1.take r1.1.1.toNat).drop a2.toNat)).bind fun r2=>(some ((r2.1.1,()),()))) else none))
theorem zBx (a0 a1 a2) {r} (h:zsB M a0 a1 a2=some r):zcc M a0 a1 a2=some r:=fxC (fun O=>(by kernel_rfl:zcc (Φ E1 O) a0 a1 a2=zsB O a0 a1 a2)) h
def zjp (a0 a1:Yb) (a2:Yg) (a3:Yi) (a4 a5:Int):Option ((Yb×Yb×Yg×Unit)⊕Yd):=
  (if (decide (a5<a4))=true then ((idx a3 a5).bind fun x1=>(if (decide ((x1.length:Int)>(0:Int)))=true then ((zen O (a2.1,()) x1).bind fun r2=>(if (!r2.1.1)=true then (some (.inr ((false,()),()))) else (zfO O a0 a1 (a2.1,()) a3 a4 (i64.wrap (a5+1))))) else (zfO O a0 a1 (a2.1,()) a3 a4 (i64.wrap (a5+1))))) else (some (.inl (a0,a1,(a2.1,()),()))))
theorem zrX (a0 a1 a2 a3 a4 a5) {r} (h:zjp M a0 a1 a2 a3 a4 a5=some r):zfO M a0 a1 a2 a3 a4 a5=some r:=fxL (fun O=>(by kernel_rfl:zfO (Φ E1 O) a0 a1 a2 a3 a4 a5=zjp O a0 a1 a2 a3 a4 a5)) h
def zrf (a0:Yg) (a1:Yi) (a2 a3:Yb):Option Yd:=
  ((zfO O a2 a3 (a0.1,()) a1 (a1.length:Int) (0:Int)).bind (Sum.elim (fun y1=>((zen O (y1.2.2.1.1,()) y1.1).bind fun r3=>(if r3.1.1=true then ((zen O (y1.2.2.1.1,()) y1.2.1).bind fun r4=>(some ((r4.1.1,()),()))) else (some ((false,()),()))))) (fun r2=>(some r2))))
theorem zAz (a0 a1 a2 a3) {r} (h:zrf M a0 a1 a2 a3=some r):zkK M a0 a1 a2 a3=some r:=fxC (fun O=>(by kernel_rfl:zkK (Φ E1 O) a0 a1 a2 a3=zrf O a0 a1 a2 a3)) h
def zjz (a0:Yi) (a1:Int) (a2:Yb) (a3 a4:Yi) (a5 a6:Int):Option ((Int×Yb×Yi×Unit)⊕Ym):=
  (if (decide (a6<a5))=true then ((((idx a0 a6).bind fun x2=>(if (decide ((x2.length:Int)>(0:Int)))=true then ((idx a0 a6).bind fun x3=>((zA O a3 x3).bind fun r4=>(if 0<=a6∧a6<(a4.length:Int) then ((a4[a6.toNat]?).bind fun x5=>(some (.inl (a0,a1,a2,a3,(a4.set a6.toNat r4.1.1),a5,a6,())))) else none))) else (some (.inl (a0,a1,a2,a3,a4,a5,a6,()))))):Option ((Yi×Int×Yb×Yi×Yi×Int×Int×Unit)⊕((Int×Yb×Yi×Unit)⊕(Ym)))).bind (Sum.elim (fun q1=>(zhB O q1.1 q1.2.1 q1.2.2.1 q1.2.2.2.1 q1.2.2.2.2.1 q1.2.2.2.2.2.1 (i64.wrap (q1.2.2.2.2.2.2.1+1)))) (fun r=>some r))) else (some (.inl (a1,a2,a4,()))))
theorem zr9 (a0 a1 a2 a3 a4 a5 a6) {r} (h:zjz M a0 a1 a2 a3 a4 a5 a6=some r):zhB M a0 a1 a2 a3 a4 a5 a6=some r:=fxL (fun O=>(by kernel_rfl:zhB (Φ E1 O) a0 a1 a2 a3 a4 a5 a6=zjz O a0 a1 a2 a3 a4 a5 a6)) h
def zsv (a0:Yi) (a1:Int) (a2:Yb):Option Ym:=
  (if 0<=(12:Int)∧((24:Nat):Int)*(12:Int)<=140737488355328∧(12:Int)=(12:Int) then (if 0<=a1∧a1<(List.length (List.replicate (Int.toNat (12:Int)) ([]:Yb)):Int) then (((List.replicate (Int.toNat (12:Int)) ([]:Yb))[a1.toNat]?).bind fun x1=>(if 0<=(12:Int)∧((24:Nat):Int)*(12:Int)<=140737488355328∧(12:Int)=(12:Int) then ((zhB O a0 a1 a2 ((List.replicate (Int.toNat (12:Int)) ([]:Yb)).set a1.toNat a2) (List.replicate (Int.toNat (12:Int)) ([]:Yb)) (List.length (List.replicate (Int.toNat (12:Int)) ([]:Yb)):Int) (0:Int)).bind (Sum.elim (fun y2=>((zaD O y2.2.1).bind fun r4=>(if 0<=y2.1∧y2.1<(y2.2.2.1.length:Int) then ((y2.2.2.1[y2.1.toNat]?).bind fun x5=>(some (((y2.2.2.1.set y2.1.toNat r4.1.1),()),()))) else none))) (fun r3=>(some r3)))) else none)) else none) else none)
theorem zBN (a0 a1 a2) {r} (h:zsv M a0 a1 a2=some r):zjk M a0 a1 a2=some r:=fxC (fun O=>(by kernel_rfl:zjk (Φ E1 O) a0 a1 a2=zsv O a0 a1 a2)) h
def zbU (a0 a1:Yb) (a2:Yg) (a3:Yi) (a4 a5:Yb):Option ((Unit)⊕Yl):=
  ((zkK O (a2.1,()) a3 a4 a5).bind fun r1=>(if (!r1.1.1)=true then (some (.inr (([],false,()),()))) else ((zf2 O a0 a1 (a2.1,()) a3 a4 a5 (0:Int)).bind (Sum.elim (fun y2=>(if (y2.2.2.2.2.2.2.1==(y2.2.2.2.2.1.length:Int))=true then (some (.inr ((y2.2.2.2.1,true,()),()))) else (if 0<=y2.2.2.2.2.2.2.1∧y2.2.2.2.2.2.2.1<(y2.2.2.2.2.1.length:Int) then ((y2.2.2.2.2.1[y2.2.2.2.2.2.2.1.toNat]?).bind fun x4=>(if 0<=y2.2.2.2.2.2.2.1∧y2.2.2.2.2.2.2.1<(y2.2.2.2.2.2.1.length:Int) then ((y2.2.2.2.2.2.1[y2.2.2.2.2.2.2.1.toNat]?).bind fun x5=>(if (decide (x4>=0))=true then (if (decide (x5>=0))=true then (some (.inr (([],false,()),()))) else ((zcc O (y2.2.2.1.1,()) y2.2.2.2.2.2.1 y2.2.2.2.2.2.2.1).bind fun r6=>(((if (decide (x4>=0))=true then ((zcc O (y2.2.2.1.1,()) y2.2.2.2.2.1 y2.2.2.2.2.2.2.1).bind fun r8=>(some (.inl (y2.1,y2.2.1,(y2.2.2.1.1,()),y2.2.2.2.1,(i64.wrap ((-1:Int)-x5)),r8.1.1,())))) else (if (decide (x5<0))=true then (if (decide ((i64.wrap ((-1:Int)-x5))>(i64.wrap ((-1:Int)-x4))))=true then ((zcc O (y2.2.2.1.1,()) y2.2.2.2.2.1 y2.2.2.2.2.2.2.1).bind fun r9=>(some (.inl (y2.1,y2.2.1,(y2.2.2.1.1,()),y2.2.2.2.1,(i64.wrap ((-1:Int)-x5)),r9.1.1,())))) else (some (.inl (y2.1,y2.2.1,(y2.2.2.1.1,()),y2.2.2.2.1,(i64.wrap ((-1:Int)-x4)),r6.1.1,())))) else (some (.inl (y2.1,y2.2.1,(y2.2.2.1.1,()),y2.2.2.2.1,(i64.wrap ((-1:Int)-x4)),r6.1.1,()))))):Option ((Yb×Yb×Yg×Yi×Int×Yb×Unit)⊕((Unit)⊕(Yl)))).bind (Sum.elim (fun q7=>((zfz O q7.2.2.2.2.2.1 (i64.wrap ((-1:Int)-q7.2.2.2.2.1))).bind fun r10=>(if r10.1.1=true then (some (.inr (([],false,()),()))) else ((zjk O q7.2.2.2.1 q7.2.2.2.2.1 q7.2.2.2.2.2.1).bind fun r11=>((zA O r11.1.1 q7.1).bind fun r12=>((zA O r11.1.1 q7.2.1).bind fun r13=>(za3 O q7.1 q7.2.1 (q7.2.2.1.1,()) r11.1.1 r12.1.1 r13.1.1))))))) (fun r=>some r))))) else ((zcc O (y2.2.2.1.1,()) y2.2.2.2.2.2.1 y2.2.2.2.2.2.2.1).bind fun r14=>(((if (decide (x4>=0))=true then ((zcc O (y2.2.2.1.1,()) y2.2.2.2.2.1 y2.2.2.2.2.2.2.1).bind fun r16=>(some (.inl (y2.1,y2.2.1,(y2.2.2.1.1,()),y2.2.2.2.1,(i64.wrap ((-1:Int)-x5)),r16.1.1,())))) else (if (decide (x5<0))=true then (if (decide ((i64.wrap ((-1:Int)-x5))>(i64.wrap ((-1:Int)-x4))))=true then ((zcc O (y2.2.2.1.1,()) y2.2.2.2.2.1 y2.2.2.2.2.2.2.1).bind fun r17=>(some (.inl (y2.1,y2.2.1,(y2.2.2.1.1,()),y2.2.2.2.1,(i64.wrap ((-1:Int)-x5)),r17.1.1,())))) else (some (.inl (y2.1,y2.2.1,(y2.2.2.1.1,()),y2.2.2.2.1,(i64.wrap ((-1:Int)-x4)),r14.1.1,())))) else (some (.inl (y2.1,y2.2.1,(y2.2.2.1.1,()),y2.2.2.2.1,(i64.wrap ((-1:Int)-x4)),r14.1.1,()))))):Option ((Yb×Yb×Yg×Yi×Int×Yb×Unit)⊕((Unit)⊕(Yl)))).bind (Sum.elim (fun q15=>((zfz O q15.2.2.2.2.2.1 (i64.wrap ((-1:Int)-q15.2.2.2.2.1))).bind fun r18=>(if r18.1.1=true then (some (.inr (([],false,()),()))) else ((zjk O q15.2.2.2.1 q15.2.2.2.2.1 q15.2.2.2.2.2.1).bind fun r19=>((zA O r19.1.1 q15.1).bind fun r20=>((zA O r19.1.1 q15.2.1).bind fun r21=>(za3 O q15.1 q15.2.1 (q15.2.2.1.1,()) r19.1.1 r20.1.1 r21.1.1))))))) (fun r=>some r)))))) else none)) else none))) (fun r3=>(some (.inr r3)))))))
theorem zdr (a0 a1 a2 a3 a4 a5) {r} (h:zbU M a0 a1 a2 a3 a4 a5=some r):za3 M a0 a1 a2 a3 a4 a5=some r:=fxL (fun O=>(by kernel_rfl:za3 (Φ E1 O) a0 a1 a2 a3 a4 a5=zbU O a0 a1 a2 a3 a4 a5)) h
def zhY (a0 a1:Yb) (a2:Yg) (a3:Yi) (a4 a5:Yb) (a6:Int):Option ((Yb×Yb×Yg×Yi×Yb×Yb×Int×Unit)⊕Yl):=
  (if (decide (a6<(a4.length:Int)))=true then (if (decide (a6<(a5.length:Int)))=true then (if 0<=a6∧a6<(a4.length:Int) then ((a4[a6.toNat]?).bind fun x1=>(if 0<=a6∧a6<(a5.length:Int) then ((a5[a6.toNat]?).bind fun x2=>(if (x1==x2)=true then (zf2 O a0 a1 (a2.1,()) a3 a4 a5 (i64.wrap (a6+1))) else (some (.inl (a0,a1,(a2.1,()),a3,a4,a5,a6,()))))) else none)) else none) else (some (.inl (a0,a1,(a2.1,()),a3,a4,a5,a6,())))) else (some (.inl (a0,a1,(a2.1,()),a3,a4,a5,a6,()))))
theorem zqf (a0 a1 a2 a3 a4 a5 a6) {r} (h:zhY M a0 a1 a2 a3 a4 a5 a6=some r):zf2 M a0 a1 a2 a3 a4 a5 a6=some r:=fxL (fun O=>(by kernel_rfl:zf2 (Φ E1 O) a0 a1 a2 a3 a4 a5 a6=zhY O a0 a1 a2 a3 a4 a5 a6)) h
def zq0 (a0:Yg) (a1 a2:Yb):Option Yl:=
  (if 0<=(12:Int)∧((24:Nat):Int)*(12:Int)<=140737488355328∧(12:Int)=(12:Int) then ((zaD O a1).bind fun r1=>((zaD O a2).bind fun r2=>((za3 O a1 a2 (a0.1,()) (List.replicate (Int.toNat (12:Int)) ([]:Yb)) r1.1.1 r2.1.1).bind (Sum.elim (fun y3=>none) (fun r4=>(some r4)))))) else none)
theorem zAf (a0 a1 a2) {r} (h:zq0 M a0 a1 a2=some r):zih M a0 a1 a2=some r:=fxC (fun O=>(by kernel_rfl:zih (Φ E1 O) a0 a1 a2=zq0 O a0 a1 a2)) h
def zoX (a0:Yg) (a1:Yb) (a2:Int) (a3:Yb):Option Ys:=
  (if 0<=(0:Int)∧(0:Int)<=a2∧a2<=(a1.length:Int) then ((zaD O ((a1.take a2.toNat).drop (Int.toNat (0:Int)))).bind fun r1=>(if (List.length r1.1.1+List.length a3)*8<=140737488355328 then ((ziE O (a0.1,()) a1 a2).bind fun r2=>(if 0<=r2.1.1∧r2.1.1<=(a1.length:Int)∧(a1.length:Int)<=(a1.length:Int) then (if (List.length (r1.1.1++a3)+List.length ((a1.take (Int.toNat (a1.length:Int))).drop r2.1.1.toNat))*8<=140737488355328 then (some ((((r1.1.1++a3)++((a1.take (Int.toNat (a1.length:Int))).drop r2.1.1.toNat)),()),())) else none) else none)) else none)) else none)
theorem zyZ (a0 a1 a2 a3) {r} (h:zoX M a0 a1 a2 a3=some r):zgh M a0 a1 a2 a3=some r:=fxC (fun O=>(by kernel_rfl:zgh (Φ E1 O) a0 a1 a2 a3=zoX O a0 a1 a2 a3)) h
def zjE (a0 a1:Int) (a2:Yb) (a3 a4:Int):Option (YE⊕Yh):=
  (if (decide (a4<a3))=true then ((((idx a2 a4).bind fun x2=>(if (x2==a0)=true then (some (.inl (a0,(i64.wrap (a1+1)),a2,a3,a4,()))) else (some (.inl (a0,a1,a2,a3,a4,()))))):Option ((Int×Int×Yb×Int×Int×Unit)⊕(YE⊕(Yh)))).bind (Sum.elim (fun q1=>(zhC O q1.1 q1.2.1 q1.2.2.1 q1.2.2.2.1 (i64.wrap (q1.2.2.2.2.1+1)))) (fun r=>some r))) else (some (.inl (a1,()))))
theorem zsc (a0 a1 a2 a3 a4) {r} (h:zjE M a0 a1 a2 a3 a4=some r):zhC M a0 a1 a2 a3 a4=some r:=fxL (fun O=>(by kernel_rfl:zhC (Φ E1 O) a0 a1 a2 a3 a4=zjE O a0 a1 a2 a3 a4)) h
def zqT (a0:Yb) (a1:Int):Option Yh:=
  ((zhC O a1 (0:Int) a0 (a0.length:Int) (0:Int)).bind (Sum.elim (fun y1=>(some ((y1.1,()),()))) (fun r2=>(some r2))))
theorem zAl (a0 a1) {r} (h:zqT M a0 a1=some r):zk4 M a0 a1=some r:=fxC (fun O=>(by kernel_rfl:zk4 (Φ E1 O) a0 a1=zqT O a0 a1)) h
def ziP (a0 a1 a2:Yb) (a3 a4:Int):Option Yz:=
  (if (decide (a4<a3))=true then (if 0<=a4∧a4<(a2.length:Int) then ((a2[a4.toNat]?).bind fun x1=>((zk4 O a0 (i64.wrap ((-1:Int)-x1))).bind fun r2=>((zk4 O a1 (i64.wrap ((-1:Int)-x1))).bind fun r3=>(if (decide (r2.1.1<r3.1.1))=true then (some (.inr ((false,()),()))) else (zgD O a0 a1 a2 a3 (i64.wrap (a4+1))))))) else none) else (some (.inl ())))
theorem zqw (a0 a1 a2 a3 a4) {r} (h:ziP M a0 a1 a2 a3 a4=some r):zgD M a0 a1 a2 a3 a4=some r:=fxL (fun O=>(by kernel_rfl:zgD (Φ E1 O) a0 a1 a2 a3 a4=ziP O a0 a1 a2 a3 a4)) h
def zqn (a0 a1:Yb):Option Yd:=
  ((zhr O a1).bind fun r1=>((zgD O a0 a1 r1.1.1 (r1.1.1.length:Int) (0:Int)).bind (Sum.elim (fun y2=>(some ((true,()),()))) (fun r3=>(some r3)))))
theorem zzQ (a0 a1) {r} (h:zqn M a0 a1=some r):zms M a0 a1=some r:=fxC (fun O=>(by kernel_rfl:zms (Φ E1 O) a0 a1=zqn O a0 a1)) h
def zg7 (a0 a1:Yb) (a2 a3:Int):Option Yz:=
  (if (decide (a3<a2))=true then ((idx a0 a3).bind fun x1=>((idx a1 a3).bind fun x2=>(if (x1 !=x2)=true then ((idx a0 a3).bind fun x3=>(if (decide (x3>=0))=true then ((idx a1 a3).bind fun x4=>(if (decide (x4>=0))=true then ((idx a0 a3).bind fun x5=>((idx a1 a3).bind fun x6=>(some (.inr (((decide (x5>x6)),()),()))))) else (some (.inr ((false,()),()))))) else (some (.inr ((false,()),()))))) else (zfG O a0 a1 a2 (i64.wrap (a3+1)))))) else (some (.inl ())))
theorem zpt (a0 a1 a2 a3) {r} (h:zg7 M a0 a1 a2 a3=some r):zfG M a0 a1 a2 a3=some r:=fxL (fun O=>(by kernel_rfl:zfG (Φ E1 O) a0 a1 a2 a3=zg7 O a0 a1 a2 a3)) h
def zoZ (a0 a1:Yb):Option Yd:=
  ((zms O a0 a1).bind fun r1=>(if (!r1.1.1)=true then (some ((false,()),())) else (if (decide ((a0.length:Int)<(a1.length:Int)))=true then (some ((false,()),())) else (if (decide ((a0.length:Int)>(a1.length:Int)))=true then (some ((true,()),())) else ((zfG O a0 a1 (a0.length:Int) (0:Int)).bind (Sum.elim (fun y2=>(some ((false,()),()))) (fun r3=>(some r3))))))))
theorem zyU (a0 a1) {r} (h:zoZ M a0 a1=some r):zew M a0 a1=some r:=fxC (fun O=>(by kernel_rfl:zew (Φ E1 O) a0 a1=zoZ O a0 a1)) h
def zoO (a0 a1:Yb):Option Yh:=
  ((zao O a0 a1).bind fun r1=>(if r1.1.1=true then (some (((0:Int),()),())) else ((zew O a0 a1).bind fun r2=>(if r2.1.1=true then (some (((1:Int),()),())) else ((zew O a1 a0).bind fun r3=>(if r3.1.1=true then (some (((-1:Int),()),())) else (some (((2:Int),()),()))))))))
theorem zyD (a0 a1) {r} (h:zoO M a0 a1=some r):zlC M a0 a1=some r:=fxC (fun O=>(by kernel_rfl:zlC (Φ E1 O) a0 a1=zoO O a0 a1)) h
def zsl (a0 a1:Yb):Option Yd:=
  ((zlC O a0 a1).bind fun r1=>(if (r1.1.1==1)=true then (some ((true,()),())) else (some (((r1.1.1==2),()),()))))
theorem zBC (a0 a1) {r} (h:zsl M a0 a1=some r):zjj M a0 a1=some r:=fxC (fun O=>(by kernel_rfl:zjj (Φ E1 O) a0 a1=zsl O a0 a1)) h
def zgO (a0 a1 a2:Yi) (a3 a4:Int):Option YM:=
  (if (decide (a4<a3))=true then ((((idx a2 a4).bind fun x2=>((zfD O a0 a1 x2 (-1:Int) a2 a3 a4 (a0.length:Int) (0:Int)).bind (Sum.elim (fun y3=>(if (decide (y3.2.2.2.1<0))=true then (if (List.length y3.2.1+List.length ([y3.2.2.1]:Yi))*24<=140737488355328 then (some (.inl (y3.1,(y3.2.1++([y3.2.2.1]:Yi)),y3.2.2.2.2.1,y3.2.2.2.2.2.1,y3.2.2.2.2.2.2.1,()))) else none) else (if 0<=(0:Int)∧(0:Int)<=y3.2.2.2.1∧y3.2.2.2.1<=(y3.1.length:Int) then (if (List.length ([]:Yi)+List.length ((y3.1.take y3.2.2.2.1.toNat).drop (Int.toNat (0:Int))))*24<=140737488355328 then (if 0<=(i64.wrap (y3.2.2.2.1+1))∧(i64.wrap (y3.2.2.2.1+1))<=(y3.1.length:Int)∧(y3.1.length:Int)<=(y3.1.length:Int) then (if (List.length (([]:Yi)++((y3.1.take y3.2.2.2.1.toNat).drop (Int.toNat (0:Int))))+List.length ((y3.1.take (Int.toNat (y3.1.length:Int))).drop (Int.toNat (i64.wrap (y3.2.2.2.1+1)))))*24<=140737488355328 then (some (.inl (((([]:Yi)++((y3.1.take y3.2.2.2.1.toNat).drop (Int.toNat (0:Int))))++((y3.1.take (Int.toNat (y3.1.length:Int))).drop (Int.toNat (i64.wrap (y3.2.2.2.1+1))))),y3.2.1,y3.2.2.2.2.1,y3.2.2.2.2.2.1,y3.2.2.2.2.2.2.1,()))) else none) else none) else none) else none))) (fun r4=>((some (.inr r4)).map .inr))))):Option ((Yi×Yi×Yi×Int×Int×Unit)⊕((Yi×Unit)⊕(Ym)))).bind (Sum.elim (fun q1=>(zhJ O q1.1 q1.2.1 q1.2.2.1 q1.2.2.2.1 (i64.wrap (q1.2.2.2.2.1+1)))) (fun r=>some r))) else (some (.inl (a1,()))))
theorem zm9 (a0 a1 a2 a3 a4) {r} (h:zgO M a0 a1 a2 a3 a4=some r):zhJ M a0 a1 a2 a3 a4=some r:=fxL (fun O=>(by kernel_rfl:zhJ (Φ E1 O) a0 a1 a2 a3 a4=zgO O a0 a1 a2 a3 a4)) h
def zeL (a0 a1:Yi) (a2:Yb) (a3:Int) (a4:Yi) (a5 a6 a7 a8:Int):Option ((Yi×Yi×Yb×Int×Yi×Int×Int×Unit)⊕Ym):=
  (if (decide (a8<a7))=true then (((if 0<=a8∧a8<(a0.length:Int) then ((a0[a8.toNat]?).bind fun x2=>((zao O a2 x2).bind fun r3=>(if r3.1.1=true then (some (.inl (a0,a1,a2,a8,a4,a5,a6,a7,a8,()))) else (some (.inl (a0,a1,a2,a3,a4,a5,a6,a7,a8,())))))) else none):Option ((Yi×Yi×Yb×Int×Yi×Int×Int×Int×Int×Unit)⊕((Yi×Yi×Yb×Int×Yi×Int×Int×Unit)⊕(Ym)))).bind (Sum.elim (fun q1=>(zfD O q1.1 q1.2.1 q1.2.2.1 q1.2.2.2.1 q1.2.2.2.2.1 q1.2.2.2.2.2.1 q1.2.2.2.2.2.2.1 q1.2.2.2.2.2.2.2.1 (i64.wrap (q1.2.2.2.2.2.2.2.2.1+1)))) (fun r=>some r))) else (some (.inl (a0,a1,a2,a3,a4,a5,a6,()))))
theorem zkG (a0 a1 a2 a3 a4 a5 a6 a7 a8) {r} (h:zeL M a0 a1 a2 a3 a4 a5 a6 a7 a8=some r):zfD M a0 a1 a2 a3 a4 a5 a6 a7 a8=some r:=fxL (fun O=>(by kernel_rfl:zfD (Φ E1 O) a0 a1 a2 a3 a4 a5 a6 a7 a8=zeL O a0 a1 a2 a3 a4 a5 a6 a7 a8)) h
def zsn (a0 a1:Yi):Option Ym:=
  (if (List.length ([]:Yi)+List.length a1)*24<=140737488355328 then ((zhJ O (([]:Yi)++a1) [] a0 (a0.length:Int) (0:Int)).bind (Sum.elim (fun y1=>(some ((y1.1,()),()))) (fun r2=>(some r2)))) else none)
theorem zBQ (a0 a1) {r} (h:zsn M a0 a1=some r):zlO M a0 a1=some r:=fxC (fun O=>(by kernel_rfl:zlO (Φ E1 O) a0 a1=zsn O a0 a1)) h
def zkA (a0 a1:Yi) (a2 a3:Int):Option ((Yi×Unit)⊕Yd):=
  (if (decide (a3<a2))=true then ((idx a1 a3).bind fun x1=>((zdZ O a0 x1 false a1 a2 a3 a0 (a0.length:Int) (0:Int)).bind (Sum.elim (fun y2=>(if (!y2.2.1)=true then (some (.inr ((false,()),()))) else (ziG O y2.1 y2.2.2.1 y2.2.2.2.1 (i64.wrap (y2.2.2.2.2.1+1))))) (fun r3=>(some (.inr r3)))))) else (some (.inl (a0,()))))
theorem zsU (a0 a1 a2 a3) {r} (h:zkA M a0 a1 a2 a3=some r):ziG M a0 a1 a2 a3=some r:=fxL (fun O=>(by kernel_rfl:ziG (Φ E1 O) a0 a1 a2 a3=zkA O a0 a1 a2 a3)) h
def zhV (a0:Yi) (a1:Yb) (a2:Bool) (a3:Yi) (a4 a5:Int) (a6:Yi) (a7 a8:Int):Option ((Yi×Bool×Yi×Int×Int×Unit)⊕Yd):=
  (if (decide (a8<a7))=true then ((idx a6 a8).bind fun x1=>(if a2=true then (zdZ O a0 a1 true a3 a4 a5 a6 a7 (i64.wrap (a8+1))) else ((zew O x1 a1).bind fun r2=>(zdZ O a0 a1 r2.1.1 a3 a4 a5 a6 a7 (i64.wrap (a8+1)))))) else (some (.inl (a0,a2,a3,a4,a5,()))))
theorem zpP (a0 a1 a2 a3 a4 a5 a6 a7 a8) {r} (h:zhV M a0 a1 a2 a3 a4 a5 a6 a7 a8=some r):zdZ M a0 a1 a2 a3 a4 a5 a6 a7 a8=some r:=fxL (fun O=>(by kernel_rfl:zdZ (Φ E1 O) a0 a1 a2 a3 a4 a5 a6 a7 a8=zhV O a0 a1 a2 a3 a4 a5 a6 a7 a8)) h
def zsH (a0 a1:Yi):Option Yd:=
  ((ziG O a0 a1 (a1.length:Int) (0:Int)).bind (Sum.elim (fun y1=>(some (((decide ((y1.1.length:Int)>(0:Int))),()),()))) (fun r2=>(some r2))))
theorem zBy (a0 a1) {r} (h:zsH M a0 a1=some r):zht M a0 a1=some r:=fxC (fun O=>(by kernel_rfl:zht (Φ E1 O) a0 a1=zsH O a0 a1)) h
def zrj (a0 a1:Yi):Option Yh:=
  ((zlO O a0 a1).bind fun r1=>((zlO O a1 a0).bind fun r2=>(if ((r1.1.1.length:Int)==(0:Int))=true then (if ((r2.1.1.length:Int)==(0:Int))=true then (some (((0:Int),()),())) else ((zht O r1.1.1 r2.1.1).bind fun r3=>(if r3.1.1=true then (some (((1:Int),()),())) else ((zht O r2.1.1 r1.1.1).bind fun r4=>(if r4.1.1=true then (some (((-1:Int),()),())) else (some (((2:Int),()),()))))))) else ((zht O r1.1.1 r2.1.1).bind fun r5=>(if r5.1.1=true then (some (((1:Int),()),())) else ((zht O r2.1.1 r1.1.1).bind fun r6=>(if r6.1.1=true then (some (((-1:Int),()),())) else (some (((2:Int),()),())))))))))
theorem zAn (a0 a1) {r} (h:zrj M a0 a1=some r):znl M a0 a1=some r:=fxC (fun O=>(by kernel_rfl:znl (Φ E1 O) a0 a1=zrj O a0 a1)) h
end
end Go.Proofs.YtchkojfhcdcnmaaGreatCk.Ev
