/- A text of its own: Eq2; no condition but those that each theorem names. -/
import Derived.Test.YtchkojfhcdcnmaaGreatCkNm
import Derived.KernelRfl
namespace Go.Proofs.YtchkojfhcdcnmaaGreatCk.Ev
open Go Go.IntKind
set_option maxRecDepth 100000
set_option autoImplicit false
set_option linter.unusedVariables false
noncomputable section
variable (O : Oracle E1)
def zsf (O:Oracle E1) (a0:Int):Option Yd:=
  (if (a0==0)=true then (some ((true,()),())) else (some (((a0==1),()),())))
theorem zBS (a0) {r} (h:zsf M a0=some r):zhu M a0=some r:=fxC (fun O=>(by kernel_rfl:zhu (Φ E1 O) a0=zsf O a0)) h
def zpL (a0:Yb) (a1:Int):Option Yd:=
  ((zbr O a0 (i64.wrap ((-1:Int)-a1))).bind fun r1=>(some ((r1.1.1,()),())))
theorem zzM (a0 a1) {r} (h:zpL M a0 a1=some r):zmF M a0 a1=some r:=fxC (fun O=>(by kernel_rfl:zmF (Φ E1 O) a0 a1=zpL O a0 a1)) h
def zae (a0:Yi) (a1:YE) (a2 a3:Int):Option YB:=
  (if (decide (a3<a2))=true then ((idx a0 a3).bind fun x1=>((zmF O x1 a1.1).bind fun r2=>(if r2.1.1=true then (some (.inr ((a3,()),()))) else (zal O a0 a1 a2 (i64.wrap (a3+1)))))) else (some (.inl ())))
theorem zbC (a0 a1 a2 a3) {r} (h:zae M a0 a1 a2 a3=some r):zal M a0 a1 a2 a3=some r:=fxL (fun O=>(by kernel_rfl:zal (Φ E1 O) a0 a1 a2 a3=zae O a0 a1 a2 a3)) h
def za7 (a0:Yi) (a1:YE):Option Yh:=
  ((zal O a0 a1 (a0.length:Int) (0:Int)).bind (Sum.elim (fun y1=>(some (((-1:Int),()),()))) (fun r2=>(some r2))))
theorem zec (a0 a1) {r} (h:za7 M a0 a1=some r):zb4 M a0 a1=some r:=fxC (fun O=>(by kernel_rfl:zb4 (Φ E1 O) a0 a1=za7 O a0 a1)) h
def zaT (a0:Yi) (a1:YE):Option Yd:=
  ((zb4 O a0 a1).bind fun r1=>(some (((decide (r1.1.1>=0)),()),())))
theorem zi8 (a0 a1) {r} (h:zaT M a0 a1=some r):zaS M a0 a1=some r:=fxC (fun O=>(by kernel_rfl:zaS (Φ E1 O) a0 a1=zaT O a0 a1)) h
def zkg (a0:Yi) (a1:Yb) (a2:Int):Option (Yg⊕Ys):=
  (if (decide (a2<12))=true then ((((zaS O a0 (a2,())).bind fun r2=>(if r2.1.1=true then (if (List.length a1+List.length ([a2]:Yb))*8<=140737488355328 then (some (.inl (a0,(a1++([a2]:Yb)),a2,()))) else none) else (some (.inl (a0,a1,a2,()))))):Option ((Yi×Yb×Int×Unit)⊕(Yg⊕(Ys)))).bind (Sum.elim (fun q1=>(ziJ O q1.1 q1.2.1 (i64.wrap (q1.2.2.1+1)))) (fun r=>some r))) else (some (.inl (a1,()))))
theorem zs7 (a0 a1 a2) {r} (h:zkg M a0 a1 a2=some r):ziJ M a0 a1 a2=some r:=fxL (fun O=>(by kernel_rfl:ziJ (Φ E1 O) a0 a1 a2=zkg O a0 a1 a2)) h
def zsr (a0:Yi):Option Ys:=
  ((ziJ O a0 [] (0:Int)).bind (Sum.elim (fun y1=>(some ((y1.1,()),()))) (fun r2=>(some r2))))
theorem zBv (a0) {r} (h:zsr M a0=some r):zhp M a0=some r:=fxC (fun O=>(by kernel_rfl:zhp (Φ E1 O) a0=zsr O a0)) h
def zlf (a0:Int) (a1:Yb) (a2 a3:Int):Option (Yg⊕Ys):=
  (if (decide (a3<a2))=true then (((if 0<=a3∧a3<(a1.length:Int) then ((a1[a3.toNat]?).bind fun x2=>(if (decide (x2<0))=true then (if 0<=a3∧a3<(a1.length:Int) then ((a1[a3.toNat]?).bind fun x3=>(some (.inl (a0,(a1.set a3.toNat (i64.wrap (x2-a0))),a2,a3,())))) else none) else (some (.inl (a0,a1,a2,a3,()))))) else none):Option ((Int×Yb×Int×Int×Unit)⊕(Yg⊕(Ys)))).bind (Sum.elim (fun q1=>(zjq O q1.1 q1.2.1 q1.2.2.1 (i64.wrap (q1.2.2.2.1+1)))) (fun r=>some r))) else (some (.inl (a1,()))))
theorem ztI (a0 a1 a2 a3) {r} (h:zlf M a0 a1 a2 a3=some r):zjq M a0 a1 a2 a3=some r:=fxL (fun O=>(by kernel_rfl:zjq (Φ E1 O) a0 a1 a2 a3=zlf O a0 a1 a2 a3)) h
def zue (a0:Yb) (a1:Int):Option Ys:=
  (if List.length a0*8<=140737488355328 then ((zjq O a1 a0 (a0.length:Int) (0:Int)).bind (Sum.elim (fun y1=>(some ((y1.1,()),()))) (fun r2=>(some r2)))) else none)
theorem zB1 (a0 a1) {r} (h:zue M a0 a1=some r):zqo M a0 a1=some r:=fxC (fun O=>(by kernel_rfl:zqo (Φ E1 O) a0 a1=zue O a0 a1)) h
def zj1 (a0:Yb) (a1:Yg):Option Yd:=
  ((zeR O (a1.1,()) a0).bind fun r1=>(some (((!r1.1.1),()),())))
theorem zuX (a0 a1) {r} (h:zj1 M a0 a1=some r):zgm M a0 a1=some r:=fxC (fun O=>(by kernel_rfl:zgm (Φ E1 O) a0 a1=zj1 O a0 a1)) h
def zH (a0:Yi) (a1:Yg×Unit) (a2 a3:Int):Option YB:=
  (if (decide (a3<a2))=true then ((idx a0 a3).bind fun x1=>((zgm O x1 a1.1).bind fun r2=>(if r2.1.1=true then (some (.inr ((a3,()),()))) else (zK O a0 a1 a2 (i64.wrap (a3+1)))))) else (some (.inl ())))
theorem za4 (a0 a1 a2 a3) {r} (h:zH M a0 a1 a2 a3=some r):zK M a0 a1 a2 a3=some r:=fxL (fun O=>(by kernel_rfl:zK (Φ E1 O) a0 a1 a2 a3=zH O a0 a1 a2 a3)) h
def zaA (a0:Yi) (a1:Yg×Unit):Option Yh:=
  ((zK O a0 a1 (a0.length:Int) (0:Int)).bind (Sum.elim (fun y1=>(some (((-1:Int),()),()))) (fun r2=>(some r2))))
theorem zcN (a0 a1) {r} (h:zaA M a0 a1=some r):zbl M a0 a1=some r:=fxC (fun O=>(by kernel_rfl:zbl (Φ E1 O) a0 a1=zaA O a0 a1)) h
def zbc (a0:Yi) (a1:Yg×Unit):Option Yd:=
  ((zbl O a0 a1).bind fun r1=>(some (((decide (r1.1.1>=0)),()),())))
theorem zgG (a0 a1) {r} (h:zbc M a0 a1=some r):zaq M a0 a1=some r:=fxC (fun O=>(by kernel_rfl:zaq (Φ E1 O) a0 a1=zbc O a0 a1)) h
def zln (a0:Yg) (a1:Yi):Option Yd:=
  ((zaq O a1 ((a0.1,()),())).bind fun r1=>(some (((!r1.1.1),()),())))
theorem zv8 (a0 a1) {r} (h:zln M a0 a1=some r):zfe M a0 a1=some r:=fxC (fun O=>(by kernel_rfl:zfe (Φ E1 O) a0 a1=zln O a0 a1)) h
def zgw (a0:Yf) (a1:Yg) (a2:Int) (a3:List YJ) (a4 a5:Int):Option ((Yf×Yg×(List YJ)×Unit)⊕YI):=
  (if (decide (a5<a4))=true then (if 0<=a5∧a5<(a3.length:Int) then ((seeO a3 a5.toNat).bind fun x1=>((zqo O x1 a2).bind fun r2=>(if 0<=a5∧a5<(a3.length:Int) then ((a3[a5.toNat]?).bind fun x3=>(zda O a0 (a1.1,()) a2 (a3.set a5.toNat (some (true,r2.1.1):YJ)) a4 (i64.wrap (a5+1)))) else none))) else none) else (some (.inl (a0,(a1.1,()),a3,()))))
theorem zn1 (a0 a1 a2 a3 a4 a5) {r} (h:zgw M a0 a1 a2 a3 a4 a5=some r):zda M a0 a1 a2 a3 a4 a5=some r:=fxL (fun O=>(by kernel_rfl:zda (Φ E1 O) a0 a1 a2 a3 a4 a5=zgw O a0 a1 a2 a3 a4 a5)) h
def znK (a0:Yg) (a1 a2:Yf):Option YI:=
  ((((zbS O a1).bind fun r2=>((zhp O r2.1.1).bind fun r3=>(if (decide ((r3.1.1.length:Int)>(0:Int)))=true then (if 0<=(i64.wrap ((r3.1.1.length:Int)-(1:Int)))∧(i64.wrap ((r3.1.1.length:Int)-(1:Int)))<(r3.1.1.length:Int) then ((r3.1.1[(Int.toNat (i64.wrap ((r3.1.1.length:Int)-(1:Int))))]?).bind fun x4=>(some (.inl (a2,(a0.1,()),(i64.wrap (x4+1)),())))) else none) else (some (.inl (a2,(a0.1,()),(0:Int),())))))):Option ((Yf×Yg×Int×Unit)⊕Yo×(Unit))).bind (Sum.elim (fun q1=>((zbS O q1.1).bind fun r5=>((zda O q1.1 (q1.2.1.1,()) q1.2.2.1 (List.map (fun x=>(some (false,x):YJ)) r5.1.1) (r5.1.1.length:Int) (0:Int)).bind (Sum.elim (fun y6=>(if allOw y6.2.2.1=true then ((zfe O (y6.2.1.1,()) (forceL y6.2.2.1)).bind fun r8=>(if (!r8.1.1)=true then (some (([],false,()),())) else ((zdm O y6.1 (forceL y6.2.2.1)).bind fun r9=>(some ((r9.1.1,true,()),()))))) else none)) (fun r7=>(some r7)))))) (fun r=>some r)))
theorem zyh (a0 a1 a2) {r} (h:znK M a0 a1 a2=some r):zkw M a0 a1 a2=some r:=fxC (fun O=>(by kernel_rfl:zkw (Φ E1 O) a0 a1 a2=znK O a0 a1 a2)) h
def zbF (a0 a1:Yb) (a2:Yg) (a3:Yi):Option ((Unit)⊕Yl):=
  ((zeE O a0 a1 (a2.1,()) a3 (0:Int)).bind (Sum.elim (fun y1=>(if (y1.2.2.2.2.1==(y1.1.length:Int))=true then (some (.inr ((y1.2.2.2.1,true,()),()))) else (if (y1.2.2.2.2.1==(y1.2.1.length:Int))=true then (some (.inr ((y1.2.2.2.1,true,()),()))) else ((idx y1.1 y1.2.2.2.2.1).bind fun x3=>((((idx y1.1 y1.2.2.2.2.1).bind fun x5=>(if (decide (x5>=0))=true then ((idx y1.2.1 y1.2.2.2.2.1).bind fun x6=>(if (decide (x6>=0))=true then ((some (.inr (([],false,()),()))).map .inr) else ((idx y1.1 y1.2.2.2.2.1).bind fun x7=>(if (decide (x7<0))=true then ((idx y1.2.1 y1.2.2.2.2.1).bind fun x8=>(if (decide (x8<0))=true then ((idx y1.1 y1.2.2.2.2.1).bind fun x9=>((idx y1.2.1 y1.2.2.2.2.1).bind fun x10=>((idx y1.1 y1.2.2.2.2.1).bind fun x11=>((idx y1.2.1 y1.2.2.2.2.1).bind fun x12=>(some (.inl (y1.1,y1.2.1,(y1.2.2.1.1,()),y1.2.2.2.1,(if x10<x9 then x10 else x9),([(if x12>x11 then x12 else x11)]:Yb),()))))))) else ((idx y1.1 y1.2.2.2.2.1).bind fun x13=>(if (decide (x13<0))=true then ((za1 O (y1.2.2.1.1,()) y1.2.1 y1.2.2.2.2.1).bind fun r14=>(some (.inl (y1.1,y1.2.1,(y1.2.2.1.1,()),y1.2.2.2.1,x3,r14.1.1,())))) else ((idx y1.2.1 y1.2.2.2.2.1).bind fun x15=>((za1 O (y1.2.2.1.1,()) y1.1 y1.2.2.2.2.1).bind fun r16=>(some (.inl (y1.1,y1.2.1,(y1.2.2.1.1,()),y1.2.2.2.1,x15,r16.1.1,()))))))))) else ((idx y1.1 y1.2.2.2.2.1).bind fun x17=>(if (decide (x17<0))=true then ((za1 O (y1.2.2.1.1,()) y1.2.1 y1.2.2.2.2.1).bind fun r18=>(some (.inl (y1.1,y1.2.1,(y1.2.2.1.1,()),y1.2.2.2.1,x3,r18.1.1,())))) else ((idx y1.2.1 y1.2.2.2.2.1).bind fun x19=>((za1 O (y1.2.2.1.1,()) y1.1 y1.2.2.2.2.1).bind fun r20=>(some (.inl (y1.1,y1.2.1,(y1.2.2.1.1,()),y1.2.2.2.1,x19,r20.1.1,()))))))))))) else ((idx y1.1 y1.2.2.2.2.1).bind fun x21=>(if (decide (x21<0))=true then ((idx y1.2.1 y1.2.2.2.2.1).bind fun x22=>(if (decide (x22<0))=true then ((idx y1.1 y1.2.2.2.2.1).bind fun x23=>((idx y1.2.1 y1.2.2.2.2.1).bind fun x24=>((idx y1.1 y1.2.2.2.2.1).bind fun x25=>((idx y1.2.1 y1.2.2.2.2.1).bind fun x26=>(some (.inl (y1.1,y1.2.1,(y1.2.2.1.1,()),y1.2.2.2.1,(if x24<x23 then x24 else x23),([(if x26>x25 then x26 else x25)]:Yb),()))))))) else ((idx y1.1 y1.2.2.2.2.1).bind fun x27=>(if (decide (x27<0))=true then ((za1 O (y1.2.2.1.1,()) y1.2.1 y1.2.2.2.2.1).bind fun r28=>(some (.inl (y1.1,y1.2.1,(y1.2.2.1.1,()),y1.2.2.2.1,x3,r28.1.1,())))) else ((idx y1.2.1 y1.2.2.2.2.1).bind fun x29=>((za1 O (y1.2.2.1.1,()) y1.1 y1.2.2.2.2.1).bind fun r30=>(some (.inl (y1.1,y1.2.1,(y1.2.2.1.1,()),y1.2.2.2.1,x29,r30.1.1,()))))))))) else ((idx y1.1 y1.2.2.2.2.1).bind fun x31=>(if (decide (x31<0))=true then ((za1 O (y1.2.2.1.1,()) y1.2.1 y1.2.2.2.2.1).bind fun r32=>(some (.inl (y1.1,y1.2.1,(y1.2.2.1.1,()),y1.2.2.2.1,x3,r32.1.1,())))) else ((idx y1.2.1 y1.2.2.2.2.1).bind fun x33=>((za1 O (y1.2.2.1.1,()) y1.1 y1.2.2.2.2.1).bind fun r34=>(some (.inl (y1.1,y1.2.1,(y1.2.2.1.1,()),y1.2.2.2.1,x33,r34.1.1,()))))))))))):Option ((Yb×Yb×Yg×Yi×Int×Yb×Unit)⊕((Unit)⊕(Yl)))).bind (Sum.elim (fun q4=>((zbr O q4.2.2.2.2.2.1 q4.2.2.2.2.1).bind fun r35=>(if r35.1.1=true then (some (.inr (([],false,()),()))) else (if 0<=(12:Int)∧((24:Nat):Int)*(12:Int)<=140737488355328∧(12:Int)=(12:Int) then (if 0<=(i64.wrap ((-1:Int)-q4.2.2.2.2.1))∧(i64.wrap ((-1:Int)-q4.2.2.2.2.1))<(List.length (List.replicate (Int.toNat (12:Int)) ([]:Yb)):Int) then (((List.replicate (Int.toNat (12:Int)) ([]:Yb))[(Int.toNat (i64.wrap ((-1:Int)-q4.2.2.2.2.1)))]?).bind fun x36=>((zck O ((List.replicate (Int.toNat (12:Int)) ([]:Yb)).set (Int.toNat (i64.wrap ((-1:Int)-q4.2.2.2.2.1))) q4.2.2.2.2.2.1) q4.1).bind fun r37=>((zck O ((List.replicate (Int.toNat (12:Int)) ([]:Yb)).set (Int.toNat (i64.wrap ((-1:Int)-q4.2.2.2.2.1))) q4.2.2.2.2.2.1) q4.2.1).bind fun r38=>(if (!r37.1.2.1)=true then (some (.inr (([],false,()),()))) else (if (!r38.1.2.1)=true then (some (.inr (([],false,()),()))) else ((zJ O r37.1.1 r38.1.1 (q4.2.2.1.1,()) q4.2.2.2.1 q4.2.2.2.2.1 q4.2.2.2.2.2.1 ((List.replicate (Int.toNat (12:Int)) ([]:Yb)).set (Int.toNat (i64.wrap ((-1:Int)-q4.2.2.2.2.1))) q4.2.2.2.2.2.1) (q4.2.2.2.1.length:Int) (0:Int)).bind (Sum.elim (fun y39=>(if List.length y39.2.2.2.2.2.1*8<=140737488355328 then (if 0<=(i64.wrap ((-1:Int)-y39.2.2.2.2.1))∧(i64.wrap ((-1:Int)-y39.2.2.2.2.1))<(y39.2.2.2.1.length:Int) then ((y39.2.2.2.1[(Int.toNat (i64.wrap ((-1:Int)-y39.2.2.2.2.1)))]?).bind fun x41=>(za6 O y39.1 y39.2.1 (y39.2.2.1.1,()) (y39.2.2.2.1.set (Int.toNat (i64.wrap ((-1:Int)-y39.2.2.2.2.1))) y39.2.2.2.2.2.1))) else none) else none)) (fun r40=>(some (.inr r40)))))))))) else none) else none)))) (fun r=>some r))))))) (fun r2=>(some (.inr r2)))))
theorem zdd (a0 a1 a2 a3) {r} (h:zbF M a0 a1 a2 a3=some r):za6 M a0 a1 a2 a3=some r:=fxL (fun O=>(by kernel_rfl:za6 (Φ E1 O) a0 a1 a2 a3=zbF O a0 a1 a2 a3)) h
def zgn (a0 a1:Yb) (a2:Yg) (a3:Yi) (a4:Int):Option ((Yb×Yb×Yg×Yi×Int×Unit)⊕Yl):=
  (if (decide (a4<(a0.length:Int)))=true then (if (decide (a4<(a1.length:Int)))=true then ((idx a0 a4).bind fun x1=>((idx a1 a4).bind fun x2=>(if (x1==x2)=true then (zeE O a0 a1 (a2.1,()) a3 (i64.wrap (a4+1))) else (some (.inl (a0,a1,(a2.1,()),a3,a4,())))))) else (some (.inl (a0,a1,(a2.1,()),a3,a4,())))) else (some (.inl (a0,a1,(a2.1,()),a3,a4,()))))
theorem znW (a0 a1 a2 a3 a4) {r} (h:zgn M a0 a1 a2 a3 a4=some r):zeE M a0 a1 a2 a3 a4=some r:=fxL (fun O=>(by kernel_rfl:zeE (Φ E1 O) a0 a1 a2 a3 a4=zgn O a0 a1 a2 a3 a4)) h
def zbT (a0 a1:Yb) (a2:Yg) (a3:Yi) (a4:Int) (a5:Yb) (a6:Yi) (a7 a8:Int):Option ((Yb×Yb×Yg×Yi×Int×Yb×Unit)⊕Yl):=
  (if (decide (a8<a7))=true then (((if 0<=a8∧a8<(a3.length:Int) then ((a3[a8.toNat]?).bind fun x2=>(if (decide ((x2.length:Int)>(0:Int)))=true then ((zck O a6 x2).bind fun r3=>(if 0<=a8∧a8<(a3.length:Int) then ((a3[a8.toNat]?).bind fun x4=>(if (!r3.1.2.1)=true then ((some (.inr (([],false,()),()))).map .inr) else (some (.inl (a0,a1,(a2.1,()),(a3.set a8.toNat r3.1.1),a4,a5,a6,a7,a8,()))))) else none)) else (some (.inl (a0,a1,(a2.1,()),a3,a4,a5,a6,a7,a8,()))))) else none):Option ((Yb×Yb×Yg×Yi×Int×Yb×Yi×Int×Int×Unit)⊕((Yb×Yb×Yg×Yi×Int×Yb×Unit)⊕(Yl)))).bind (Sum.elim (fun q1=>(zJ O q1.1 q1.2.1 (q1.2.2.1.1,()) q1.2.2.2.1 q1.2.2.2.2.1 q1.2.2.2.2.2.1 q1.2.2.2.2.2.2.1 q1.2.2.2.2.2.2.2.1 (i64.wrap (q1.2.2.2.2.2.2.2.2.1+1)))) (fun r=>some r))) else (some (.inl (a0,a1,(a2.1,()),a3,a4,a5,()))))
theorem zep (a0 a1 a2 a3 a4 a5 a6 a7 a8) {r} (h:zbT M a0 a1 a2 a3 a4 a5 a6 a7 a8=some r):zJ M a0 a1 a2 a3 a4 a5 a6 a7 a8=some r:=fxL (fun O=>(by kernel_rfl:zJ (Φ E1 O) a0 a1 a2 a3 a4 a5 a6 a7 a8=zbT O a0 a1 a2 a3 a4 a5 a6 a7 a8)) h
def znQ (a0:Yg) (a1 a2:Yb):Option Yl:=
  (if 0<=(12:Int)∧((24:Nat):Int)*(12:Int)<=140737488355328∧(12:Int)=(12:Int) then ((za6 O a1 a2 (a0.1,()) (List.replicate (Int.toNat (12:Int)) ([]:Yb))).bind (Sum.elim (fun y1=>none) (fun r2=>(some r2)))) else none)
theorem zym (a0 a1 a2) {r} (h:znQ M a0 a1 a2=some r):zfN M a0 a1 a2=some r:=fxC (fun O=>(by kernel_rfl:zfN (Φ E1 O) a0 a1 a2=znQ O a0 a1 a2)) h
def zgp (a0:Yi) (a1:Yf) (a2:List YJ) (a3 a4:Int):Option ((Yf×(List YJ)×Unit)⊕YI):=
  (if (decide (a4<a3))=true then (if 0<=a4∧a4<(a2.length:Int) then ((seeO a2 a4.toNat).bind fun x1=>((zck O a0 x1).bind fun r2=>(if 0<=a4∧a4<(a2.length:Int) then ((a2[a4.toNat]?).bind fun x3=>(if (!r2.1.2.1)=true then (some (.inr (([],false,()),()))) else (zeW O a0 a1 (a2.set a4.toNat (some (true,r2.1.1):YJ)) a3 (i64.wrap (a4+1))))) else none))) else none) else (some (.inl (a1,a2,()))))
theorem zn3 (a0 a1 a2 a3 a4) {r} (h:zgp M a0 a1 a2 a3 a4=some r):zeW M a0 a1 a2 a3 a4=some r:=fxL (fun O=>(by kernel_rfl:zeW (Φ E1 O) a0 a1 a2 a3 a4=zgp O a0 a1 a2 a3 a4)) h
def zna (a0:Yi) (a1:Yf):Option YI:=
  ((zbS O a1).bind fun r1=>((zeW O a0 a1 (List.map (fun x=>(some (false,x):YJ)) r1.1.1) (r1.1.1.length:Int) (0:Int)).bind (Sum.elim (fun y2=>(if allOw y2.2.1=true then ((zdm O y2.1 (forceL y2.2.1)).bind fun r4=>(some ((r4.1.1,true,()),()))) else none)) (fun r3=>(some r3)))))
theorem zxg (a0 a1) {r} (h:zna M a0 a1=some r):zdj M a0 a1=some r:=fxC (fun O=>(by kernel_rfl:zdj (Φ E1 O) a0 a1=zna O a0 a1)) h
def zbM (a0:Yu) (a1:Int) (a2:Yu) (a3 a4:Int):Option ((Yu×Int×Unit)⊕Yp):=
  (if (decide (a4<a3))=true then ((idx a2 a4).bind fun x1=>(if (decide ((i64.wrap (a1+(x1.length:Int)))<(0:Int)))=true then none else (za9 O a0 (i64.wrap (a1+(x1.length:Int))) a2 a3 (i64.wrap (a4+1))))) else (some (.inl (a0,a1,()))))
theorem zgk (a0 a1 a2 a3 a4) {r} (h:zbM M a0 a1 a2 a3 a4=some r):za9 M a0 a1 a2 a3 a4=some r:=fxL (fun O=>(by kernel_rfl:za9 (Φ E1 O) a0 a1 a2 a3 a4=zbM O a0 a1 a2 a3 a4)) h
def zbD (a0:Yf) (a1:Yu) (a2 a3:Int):Option (YN⊕Yp):=
  (if (decide (a3<a2))=true then ((idx a1 a3).bind fun x1=>(if (List.length a0+List.length x1)*56<=140737488355328 then (za2 O (a0++x1) a1 a2 (i64.wrap (a3+1))) else none)) else (some (.inl (a0,()))))
theorem zf4 (a0 a1 a2 a3) {r} (h:zbD M a0 a1 a2 a3=some r):za2 M a0 a1 a2 a3=some r:=fxL (fun O=>(by kernel_rfl:za2 (Φ E1 O) a0 a1 a2 a3=zbD O a0 a1 a2 a3)) h
def zd9 (a0:Yu):Option Yp:=
  ((za9 O a0 (0:Int) a0 (a0.length:Int) (0:Int)).bind (Sum.elim (fun y1=>(if 0<=y1.2.1∧((56:Nat):Int)*y1.2.1<=140737488355328 then ((za2 O ([]:Yf) y1.1 (y1.1.length:Int) (0:Int)).bind (Sum.elim (fun y3=>(some ((y3.1,()),()))) (fun r4=>(some r4)))) else none)) (fun r2=>(some r2))))
theorem zoc (a0) {r} (h:zd9 M a0=some r):zbv M a0=some r:=fxC (fun O=>(by kernel_rfl:zbv (Φ E1 O) a0=zd9 O a0)) h
def zre (a0:Yf) (a1:Bool):Option Yr:=
  (if (!a1)=true then ((zdv O a0).bind fun r1=>(some ((r1.1.1,(5:Int),()),()))) else ((zdv O a0).bind fun r2=>(some ((r2.1.1,(0:Int),()),()))))
theorem zAX (a0 a1) {r} (h:zre M a0 a1=some r):zbg M a0 a1=some r:=fxC (fun O=>(by kernel_rfl:zbg (Φ E1 O) a0 a1=zre O a0 a1)) h
def zmj (a0 a1:Yb):Option Yh:=
  ((zD O a0 a1).bind fun r1=>(if r1.1.1=true then (some (((0:Int),()),())) else ((zev O a0 a1).bind fun r2=>(if r2.1.1=true then (some (((1:Int),()),())) else ((zev O a1 a0).bind fun r3=>(if r3.1.1=true then (some (((-1:Int),()),())) else (some (((2:Int),()),()))))))))
theorem zwG (a0 a1) {r} (h:zmj M a0 a1=some r):zi3 M a0 a1=some r:=fxC (fun O=>(by kernel_rfl:zi3 (Φ E1 O) a0 a1=zmj O a0 a1)) h
def zrc (a0 a1:Yb):Option Yd:=
  ((zi3 O a0 a1).bind fun r1=>(some (((decide (r1.1.1<=0)),()),())))
theorem zAk (a0 a1) {r} (h:zrc M a0 a1=some r):zeK M a0 a1=some r:=fxC (fun O=>(by kernel_rfl:zeK (Φ E1 O) a0 a1=zrc O a0 a1)) h
def zhq (O:Oracle E1) (a0:Yi) (a1 a2:Int):Option Ym:=
  (if 0<=a1∧a2=a1+1∧a2<=(a0.length:Int) then some ((a0.take a1.toNat++a0.drop a2.toNat,()),()) else none)
theorem zsq (a0 a1 a2) {r} (h:zhq M a0 a1 a2=some r):zeo M a0 a1 a2=some r:=fxC (fun O=>(by kernel_rfl:zeo (Φ E1 O) a0 a1 a2=zhq O a0 a1 a2)) h
def zmI (a0 a1:Yb):Option Yd:=
  ((zev O a0 a1).bind fun r1=>(some ((r1.1.1,()),())))
theorem zxk (a0 a1) {r} (h:zmI M a0 a1=some r):zjo M a0 a1=some r:=fxC (fun O=>(by kernel_rfl:zjo (Φ E1 O) a0 a1=zmI O a0 a1)) h
def zX (a0:Yi) (a1:Yg) (a2 a3:Int):Option YB:=
  (if (decide (a3<a2))=true then ((idx a0 a3).bind fun x1=>((zjo O x1 a1.1).bind fun r2=>(if r2.1.1=true then (some (.inr ((a3,()),()))) else (z8 O a0 a1 a2 (i64.wrap (a3+1)))))) else (some (.inl ())))
theorem zbm (a0 a1 a2 a3) {r} (h:zX M a0 a1 a2 a3=some r):z8 M a0 a1 a2 a3=some r:=fxL (fun O=>(by kernel_rfl:z8 (Φ E1 O) a0 a1 a2 a3=zX O a0 a1 a2 a3)) h
def zaU (a0:Yi) (a1:Yg):Option Yh:=
  ((z8 O a0 a1 (a0.length:Int) (0:Int)).bind (Sum.elim (fun y1=>(some (((-1:Int),()),()))) (fun r2=>(some r2))))
theorem zdy (a0 a1) {r} (h:zaU M a0 a1=some r):zbH M a0 a1=some r:=fxC (fun O=>(by kernel_rfl:zbH (Φ E1 O) a0 a1=zaU O a0 a1)) h
def zbq (a0:Yi) (a1:Yg):Option Yd:=
  ((zbH O a0 a1).bind fun r1=>(some (((decide (r1.1.1>=0)),()),())))
theorem zhX (a0 a1) {r} (h:zbq M a0 a1=some r):zaF M a0 a1=some r:=fxC (fun O=>(by kernel_rfl:zaF (Φ E1 O) a0 a1=zbq O a0 a1)) h
def zh1 (a0 a1:Yi) (a2 a3:Int):Option ((Yi×Unit)⊕Yd):=
  (if (decide (a3<a2))=true then ((idx a1 a3).bind fun x1=>((zaF O a0 (x1,())).bind fun r2=>(if (!r2.1.1)=true then (some (.inr ((false,()),()))) else (zfX O a0 a1 a2 (i64.wrap (a3+1)))))) else (some (.inl (a0,()))))
theorem zp1 (a0 a1 a2 a3) {r} (h:zh1 M a0 a1 a2 a3=some r):zfX M a0 a1 a2 a3=some r:=fxL (fun O=>(by kernel_rfl:zfX (Φ E1 O) a0 a1 a2 a3=zh1 O a0 a1 a2 a3)) h
def zoR (a0 a1:Yi):Option Yd:=
  ((zfX O a0 a1 (a1.length:Int) (0:Int)).bind (Sum.elim (fun y1=>(some (((decide ((y1.1.length:Int)>(0:Int))),()),()))) (fun r2=>(some r2))))
theorem zyX (a0 a1) {r} (h:zoR M a0 a1=some r):zey M a0 a1=some r:=fxC (fun O=>(by kernel_rfl:zey (Φ E1 O) a0 a1=zoR O a0 a1)) h
def zk5 (a0 a1:Yb):Option Yd:=
  ((zD O a1 a0).bind fun r1=>(some ((r1.1.1,()),())))
theorem zve (a0 a1) {r} (h:zk5 M a0 a1=some r):zgW M a0 a1=some r:=fxC (fun O=>(by kernel_rfl:zgW (Φ E1 O) a0 a1=zk5 O a0 a1)) h
def zM (a0:Yi) (a1:Yg) (a2 a3:Int):Option YB:=
  (if (decide (a3<a2))=true then ((idx a0 a3).bind fun x1=>((zgW O x1 a1.1).bind fun r2=>(if r2.1.1=true then (some (.inr ((a3,()),()))) else (zi O a0 a1 a2 (i64.wrap (a3+1)))))) else (some (.inl ())))
theorem zbb (a0 a1 a2 a3) {r} (h:zM M a0 a1 a2 a3=some r):zi M a0 a1 a2 a3=some r:=fxL (fun O=>(by kernel_rfl:zi (Φ E1 O) a0 a1 a2 a3=zM O a0 a1 a2 a3)) h
def zaG (a0:Yi) (a1:Yg):Option Yh:=
  ((zi O a0 a1 (a0.length:Int) (0:Int)).bind (Sum.elim (fun y1=>(some (((-1:Int),()),()))) (fun r2=>(some r2))))
theorem zc0 (a0 a1) {r} (h:zaG M a0 a1=some r):z9 M a0 a1=some r:=fxC (fun O=>(by kernel_rfl:z9 (Φ E1 O) a0 a1=zaG O a0 a1)) h
def zdh (a0 a1 a2:Yi) (a3 a4:Int):Option ((Yi×Yi×Unit)⊕Yh):=
  (if (decide (a4<a3))=true then ((((idx a2 a4).bind fun x2=>((z9 O a1 (x2,())).bind fun r3=>(if (decide (r3.1.1>=0))=true then ((zeo O a1 r3.1.1 (i64.wrap (r3.1.1+1))).bind fun r4=>(some (.inl (a0,r4.1.1,a2,a3,a4,())))) else (if (List.length a0+List.length ([x2]:Yi))*24<=140737488355328 then (some (.inl ((a0++([x2]:Yi)),a1,a2,a3,a4,()))) else none)))):Option ((Yi×Yi×Yi×Int×Int×Unit)⊕((Yi×Yi×Unit)⊕(Yh)))).bind (Sum.elim (fun q1=>(zdI O q1.1 q1.2.1 q1.2.2.1 q1.2.2.2.1 (i64.wrap (q1.2.2.2.2.1+1)))) (fun r=>some r))) else (some (.inl (a0,a1,()))))
theorem ziI (a0 a1 a2 a3 a4) {r} (h:zdh M a0 a1 a2 a3 a4=some r):zdI M a0 a1 a2 a3 a4=some r:=fxL (fun O=>(by kernel_rfl:zdI (Φ E1 O) a0 a1 a2 a3 a4=zdh O a0 a1 a2 a3 a4)) h
def zmb (a0 a1:Yi):Option Yh:=
  (if List.length a1*24<=140737488355328 then ((zdI O [] a1 a0 (a0.length:Int) (0:Int)).bind (Sum.elim (fun y1=>(if ((y1.1.length:Int)==(0:Int))=true then (if ((y1.2.1.length:Int)==(0:Int))=true then (some (((0:Int),()),())) else ((zey O y1.1 y1.2.1).bind fun r3=>(if r3.1.1=true then (some (((1:Int),()),())) else ((zey O y1.2.1 y1.1).bind fun r4=>(if r4.1.1=true then (some (((-1:Int),()),())) else (some (((2:Int),()),()))))))) else ((zey O y1.1 y1.2.1).bind fun r5=>(if r5.1.1=true then (some (((1:Int),()),())) else ((zey O y1.2.1 y1.1).bind fun r6=>(if r6.1.1=true then (some (((-1:Int),()),())) else (some (((2:Int),()),())))))))) (fun r2=>(some r2)))) else none)
theorem zwN (a0 a1) {r} (h:zmb M a0 a1=some r):zi2 M a0 a1=some r:=fxC (fun O=>(by kernel_rfl:zi2 (Φ E1 O) a0 a1=zmb O a0 a1)) h
def znT (O:Oracle E1) (a0:Ya):Option Ym:=
  (if a0.1=true then (some ((([a0.2.1,a0.2.2.1]:Yi),()),())) else (some ((([a0.2.1,a0.2.2.1,a0.2.1,a0.2.2.1]:Yi),()),())))
theorem zx8 (a0) {r} (h:znT M a0=some r):zhQ M a0=some r:=fxC (fun O=>(by kernel_rfl:zhQ (Φ E1 O) a0=znT O a0)) h
end
end Go.Proofs.YtchkojfhcdcnmaaGreatCk.Ev
