/- A text of its own: Eq4; no condition but those that each theorem names. -/
import Derived.Test.YtchkojfhcdcnmaaGreatCkNm
import Derived.KernelRfl
namespace Go.Proofs.YtchkojfhcdcnmaaGreatCk.Ev
open Go Go.IntKind
set_option maxRecDepth 100000
set_option autoImplicit false
set_option linter.unusedVariables false
noncomputable section
variable (O : Oracle E1)
def zje (a0:Yf) (a1:Yg) (a2:Yw) (a3 a4:Yb):Option ((Unit)⊕Yv):=
  ((ziT O (a1.1,()) (a2.1,a2.2.1,()) a0 a4).bind fun r1=>(if (!r1.1.1)=true then (some (.inr ((a4,true,()),()))) else ((zdg O a0 (a1.1,()) (a2.1,a2.2.1,()) a3 a4 (i64.wrap ((a3.length:Int)-(1:Int)))).bind (Sum.elim (fun y2=>(if (decide (y2.2.2.2.2.2.1<0))=true then (some (.inr (([],false,()),()))) else (if 0<=y2.2.2.2.2.2.1∧y2.2.2.2.2.2.1<(y2.2.2.2.1.length:Int) then ((y2.2.2.2.1[y2.2.2.2.2.2.1.toNat]?).bind fun x4=>(if 0<=x4∧x4<(y2.2.2.2.2.1.length:Int) then ((y2.2.2.2.2.1[x4.toNat]?).bind fun x5=>(if 0<=x4∧x4<(y2.2.2.2.2.1.length:Int) then ((y2.2.2.2.2.1[x4.toNat]?).bind fun x6=>(zb5 O y2.1 (y2.2.1.1,()) (y2.2.2.1.1,y2.2.2.1.2.1,()) y2.2.2.2.1 (y2.2.2.2.2.1.set x4.toNat (i64.wrap (x5+1))))) else none)) else none)) else none))) (fun r3=>(some (.inr r3)))))))
theorem zup (a0 a1 a2 a3 a4) {r} (h:zje M a0 a1 a2 a3 a4=some r):zb5 M a0 a1 a2 a3 a4=some r:=fxL (fun O=>(by kernel_rfl:zb5 (Φ E1 O) a0 a1 a2 a3 a4=zje O a0 a1 a2 a3 a4)) h
def zc2 (a0:Yf) (a1:Yg) (a2:Yw) (a3 a4:Yb) (a5:Int):Option ((Yf×Yg×Yw×Yb×Yb×Int×Unit)⊕Yv):=
  (if (decide (a5>=0))=true then (if 0<=a5∧a5<(a3.length:Int) then ((a3[a5.toNat]?).bind fun x1=>(if 0<=x1∧x1<(a4.length:Int) then ((a4[x1.toNat]?).bind fun x2=>(if (x2==(i64.wrap (a2.1-1)))=true then (if 0<=a5∧a5<(a3.length:Int) then ((a3[a5.toNat]?).bind fun x3=>(if 0<=x3∧x3<(a4.length:Int) then ((a4[x3.toNat]?).bind fun x4=>(zdg O a0 (a1.1,()) (a2.1,a2.2.1,()) a3 (a4.set x3.toNat (0:Int)) (i64.wrap (a5-1)))) else none)) else none) else (some (.inl (a0,(a1.1,()),(a2.1,a2.2.1,()),a3,a4,a5,()))))) else none)) else none) else (some (.inl (a0,(a1.1,()),(a2.1,a2.2.1,()),a3,a4,a5,()))))
theorem zhS (a0 a1 a2 a3 a4 a5) {r} (h:zc2 M a0 a1 a2 a3 a4 a5=some r):zdg M a0 a1 a2 a3 a4 a5=some r:=fxL (fun O=>(by kernel_rfl:zdg (Φ E1 O) a0 a1 a2 a3 a4 a5=zc2 O a0 a1 a2 a3 a4 a5)) h
def zmi (a0:Yg) (a1:Yw) (a2:Yf):Option Yv:=
  ((zbS O a2).bind fun r1=>((zhp O r1.1.1).bind fun r2=>(if 0<=(12:Int)∧((8:Nat):Int)*(12:Int)<=140737488355328∧(12:Int)=(12:Int) then ((zb5 O a2 (a0.1,()) (a1.1,a1.2.1,()) r2.1.1 (List.replicate (Int.toNat (12:Int)) (0:Int))).bind (Sum.elim (fun y3=>none) (fun r4=>(some r4)))) else none)))
theorem zwQ (a0 a1 a2) {r} (h:zmi M a0 a1 a2=some r):ziY M a0 a1 a2=some r:=fxC (fun O=>(by kernel_rfl:ziY (Φ E1 O) a0 a1 a2=zmi O a0 a1 a2)) h
def zqV (a0:Yg) (a1:Yw) (a2:Yf):Option YH:=
  ((zlv O (a0.1,()) (a1.1,a1.2.1,())).bind fun r1=>(if (!r1.1.1)=true then (some ((false,false,()),())) else ((ziM O (a0.1,()) a2).bind fun r2=>(if (!r2.1.1)=true then (some ((false,false,()),())) else ((ziY O (a0.1,()) (a1.1,a1.2.1,()) a2).bind fun r3=>(some (((!r3.1.2.1),true,()),())))))))
theorem zAK (a0 a1 a2) {r} (h:zqV M a0 a1 a2=some r):zge M a0 a1 a2=some r:=fxC (fun O=>(by kernel_rfl:zge (Φ E1 O) a0 a1 a2=zqV O a0 a1 a2)) h
def zeO (a0:Yg) (a1:Yw) (a2:Bool) (a3:Yu) (a4 a5:Int):Option (YK⊕YH):=
  (if (decide (a5<a4))=true then ((idx a3 a5).bind fun x1=>((zge O (a0.1,()) (a1.1,a1.2.1,()) x1).bind fun r2=>(if (!r2.1.2.1)=true then (some (.inr ((false,false,()),()))) else (if a2=true then (zcO O (a0.1,()) (a1.1,a1.2.1,()) r2.1.1 a3 a4 (i64.wrap (a5+1))) else (zcO O (a0.1,()) (a1.1,a1.2.1,()) false a3 a4 (i64.wrap (a5+1))))))) else (some (.inl (a2,()))))
theorem zjT (a0 a1 a2 a3 a4 a5) {r} (h:zeO M a0 a1 a2 a3 a4 a5=some r):zcO M a0 a1 a2 a3 a4 a5=some r:=fxL (fun O=>(by kernel_rfl:zcO (Φ E1 O) a0 a1 a2 a3 a4 a5=zeO O a0 a1 a2 a3 a4 a5)) h
def znm (a0:Yg) (a1:Yw) (a2:Yu):Option YH:=
  ((zcO O (a0.1,()) (a1.1,a1.2.1,()) true a2 (a2.length:Int) (0:Int)).bind (Sum.elim (fun y1=>(some ((y1.1,true,()),()))) (fun r2=>(some r2))))
theorem zvJ (a0 a1 a2) {r} (h:znm M a0 a1 a2=some r):zkJ M a0 a1 a2=some r:=fxC (fun O=>(by kernel_rfl:zkJ (Φ E1 O) a0 a1 a2=znm O a0 a1 a2)) h
def zuN (O:Oracle E1) (a0 a1 a2:Int):Option Yd:=
  (if (decide (a0>=a1))=true then (some (((decide (a0<=a2)),()),())) else (some ((false,()),())))
theorem zDM (a0 a1 a2) {r} (h:zuN M a0 a1 a2=some r):zV M a0 a1 a2=some r:=fxC (fun O=>(by kernel_rfl:zV (Φ E1 O) a0 a1 a2=zuN O a0 a1 a2)) h
def zb2 (a0:Yb) (a1:Int) (a2:Yg) (a3:Int):Option (YE⊕Yh):=
  (if (decide (a3>0))=true then (if (decide (a1>=(a0.length:Int)))=true then (some (.inr (((-1:Int),()),()))) else ((idx a0 a1).bind fun x1=>((zV O x1 (-12:Int) (i64.wrap ((a2.1.length:Int)-(1:Int)))).bind fun r2=>(if (!r2.1.1)=true then (some (.inr (((-1:Int),()),()))) else ((((idx a0 a1).bind fun x4=>(if (decide (x4>=0))=true then ((idx a0 a1).bind fun x5=>((idx a2.1 x5).bind fun x6=>(some (.inl (a0,a1,(a2.1,()),(i64.wrap ((i64.wrap (a3-1))+x6)),()))))) else (some (.inl (a0,a1,(a2.1,()),(i64.wrap (a3-1)),()))))):Option ((Yb×Int×Yg×Int×Unit)⊕(YE⊕(Yh)))).bind (Sum.elim (fun q3=>(zgV O q3.1 (i64.wrap (q3.2.1+1)) (q3.2.2.1.1,()) q3.2.2.2.1)) (fun r=>some r))))))) else (some (.inl (a1,()))))
theorem zdt (a0 a1 a2 a3) {r} (h:zb2 M a0 a1 a2 a3=some r):zgV M a0 a1 a2 a3=some r:=fxL (fun O=>(by kernel_rfl:zgV (Φ E1 O) a0 a1 a2 a3=zb2 O a0 a1 a2 a3)) h
def zm3 (a0:Yg) (a1:Yb) (a2:Int):Option Yh:=
  ((zgV O a1 a2 (a0.1,()) (1:Int)).bind (Sum.elim (fun y1=>(some ((y1.1,()),()))) (fun r2=>(some r2))))
theorem zt2 (a0 a1 a2) {r} (h:zm3 M a0 a1 a2=some r):ziE M a0 a1 a2=some r:=fxC (fun O=>(by kernel_rfl:ziE (Φ E1 O) a0 a1 a2=zm3 O a0 a1 a2)) h
def zlU (a0:Yg) (a1:Yb):Option Yd:=
  ((zV O (a1.length:Int) (1:Int) (40:Int)).bind fun r1=>(if r1.1.1=true then ((ziE O (a0.1,()) a1 (0:Int)).bind fun r2=>(some (((r2.1.1==(a1.length:Int)),()),()))) else (some ((false,()),()))))
theorem zsh (a0 a1) {r} (h:zlU M a0 a1=some r):zen M a0 a1=some r:=fxC (fun O=>(by kernel_rfl:zen (Φ E1 O) a0 a1=zlU O a0 a1)) h
def zpY (a0:Yg) (a1:Ya):Option Yd:=
  ((zen O (a0.1,()) a1.2.1).bind fun r1=>(if r1.1.1=true then ((zen O (a0.1,()) a1.2.2.1).bind fun r2=>(some ((r2.1.1,()),()))) else (some ((false,()),()))))
theorem zxd (a0 a1) {r} (h:zpY M a0 a1=some r):zm0 M a0 a1=some r:=fxC (fun O=>(by kernel_rfl:zm0 (Φ E1 O) a0 a1=zpY O a0 a1)) h
def zcV (a0:Yf) (a1:Yg) (a2:Yf) (a3 a4:Int):Option (YN⊕Yd):=
  (if (decide (a4<a3))=true then ((idx a2 a4).bind fun x1=>((zm0 O (a1.1,()) (x1.1,x1.2.1,x1.2.2.1,())).bind fun r2=>(if (!r2.1.1)=true then (some (.inr ((false,()),()))) else (zco O a0 (a1.1,()) a2 a3 (i64.wrap (a4+1)))))) else (some (.inl (a0,()))))
theorem zd3 (a0 a1 a2 a3 a4) {r} (h:zcV M a0 a1 a2 a3 a4=some r):zco M a0 a1 a2 a3 a4=some r:=fxL (fun O=>(by kernel_rfl:zco (Φ E1 O) a0 a1 a2 a3 a4=zcV O a0 a1 a2 a3 a4)) h
def zjO (a0:Yg) (a1:Yf):Option Yd:=
  ((zco O a1 (a0.1,()) a1 (a1.length:Int) (0:Int)).bind (Sum.elim (fun y1=>(some (((decide ((y1.1.length:Int)<=(8:Int))),()),()))) (fun r2=>(some r2))))
theorem zql (a0 a1) {r} (h:zjO M a0 a1=some r):zbA M a0 a1=some r:=fxC (fun O=>(by kernel_rfl:zbA (Φ E1 O) a0 a1=zjO O a0 a1)) h
def zlE (a0 a1:Int) (a2:Yb) (a3 a4:Int):Option Yz:=
  (if (decide (a4<a3))=true then ((idx a2 a4).bind fun x1=>((zV O x1 a0 a1).bind fun r2=>(if (!r2.1.1)=true then (some (.inr ((false,()),()))) else (zju O a0 a1 a2 a3 (i64.wrap (a4+1)))))) else (some (.inl ())))
theorem zua (a0 a1 a2 a3 a4) {r} (h:zlE M a0 a1 a2 a3 a4=some r):zju M a0 a1 a2 a3 a4=some r:=fxL (fun O=>(by kernel_rfl:zju (Φ E1 O) a0 a1 a2 a3 a4=zlE O a0 a1 a2 a3 a4)) h
def zt3 (a0:Yb) (a1 a2:Int):Option Yd:=
  ((zju O a1 a2 a0 (a0.length:Int) (0:Int)).bind (Sum.elim (fun y1=>(some ((true,()),()))) (fun r2=>(some r2))))
theorem zDp (a0 a1 a2) {r} (h:zt3 M a0 a1 a2=some r):zik M a0 a1 a2=some r:=fxC (fun O=>(by kernel_rfl:zik (Φ E1 O) a0 a1 a2=zt3 O a0 a1 a2)) h
def zpK (a0:Yg):Option Yd:=
  ((zV O (a0.1.length:Int) (1:Int) (10:Int)).bind fun r1=>(if r1.1.1=true then ((zik O a0.1 (0:Int) (3:Int)).bind fun r2=>(if r2.1.1=true then ((idx a0.1 (0:Int)).bind fun x3=>(some (((x3==0),()),()))) else (some ((false,()),())))) else (some ((false,()),()))))
theorem zzp (a0) {r} (h:zpK M a0=some r):zjy M a0=some r:=fxC (fun O=>(by kernel_rfl:zjy (Φ E1 O) a0=zpK O a0)) h
def zcU (a0:Yu) (a1:Yg) (a2:Yu) (a3 a4:Int):Option ((Yu×Yg×Unit)⊕Yd):=
  (if (decide (a4<a3))=true then ((idx a2 a4).bind fun x1=>((zbA O (a1.1,()) x1).bind fun r2=>(if (!r2.1.1)=true then (some (.inr ((false,()),()))) else (zcs O a0 (a1.1,()) a2 a3 (i64.wrap (a4+1)))))) else (some (.inl (a0,(a1.1,()),()))))
theorem zd1 (a0 a1 a2 a3 a4) {r} (h:zcU M a0 a1 a2 a3 a4=some r):zcs M a0 a1 a2 a3 a4=some r:=fxL (fun O=>(by kernel_rfl:zcs (Φ E1 O) a0 a1 a2 a3 a4=zcU O a0 a1 a2 a3 a4)) h
def zjJ (a0:Yg) (a1:Yu):Option Yd:=
  ((zcs O a1 (a0.1,()) a1 (a1.length:Int) (0:Int)).bind (Sum.elim (fun y1=>((zjy O (y1.2.1.1,())).bind fun r3=>(if r3.1.1=true then (some (((decide ((y1.1.length:Int)<=(12:Int))),()),())) else (some ((false,()),()))))) (fun r2=>(some r2))))
theorem zuK (a0 a1) {r} (h:zjJ M a0 a1=some r):zfn M a0 a1=some r:=fxC (fun O=>(by kernel_rfl:zfn (Φ E1 O) a0 a1=zjJ O a0 a1)) h
def zpW (O:Oracle E1) (a0:Yb):Option Ys:=
  (if (List.length ([]:Yb)+List.length a0)*8<=140737488355328 then (some (((([]:Yb)++a0),()),())) else none)
theorem zxJ (a0) {r} (h:zpW M a0=some r):zaD M a0=some r:=fxC (fun O=>(by kernel_rfl:zaD (Φ E1 O) a0=zpW O a0)) h
def zsK (O:Oracle E1) (a0:Yf):Option Yd:=
  (if ((a0.length:Int)==(1:Int))=true then ((idx a0 (0:Int)).bind fun x1=>(some ((x1.1,()),()))) else (some ((false,()),())))
theorem zsA (a0) {r} (h:zsK M a0=some r):zjh M a0=some r:=fxC (fun O=>(by kernel_rfl:zjh (Φ E1 O) a0=zsK O a0)) h
def zgj (a0:Int) (a1:Yb) (a2 a3:Int):Option Yz:=
  (if (decide (a3<a2))=true then ((idx a1 a3).bind fun x1=>(if (x1==a0)=true then (some (.inr ((true,()),()))) else (zhg O a0 a1 a2 (i64.wrap (a3+1))))) else (some (.inl ())))
theorem zlA (a0 a1 a2 a3) {r} (h:zgj M a0 a1 a2 a3=some r):zhg M a0 a1 a2 a3=some r:=fxL (fun O=>(by kernel_rfl:zhg (Φ E1 O) a0 a1 a2 a3=zgj O a0 a1 a2 a3)) h
def zpU (a0:Yb) (a1:Int):Option Yd:=
  ((zhg O a1 a0 (a0.length:Int) (0:Int)).bind (Sum.elim (fun y1=>(some ((false,()),()))) (fun r2=>(some r2))))
theorem zxs (a0 a1) {r} (h:zpU M a0 a1=some r):zfz M a0 a1=some r:=fxC (fun O=>(by kernel_rfl:zfz (Φ E1 O) a0 a1=zpU O a0 a1)) h
def zh3 (a0:Yb) (a1 a2:Yi) (a3 a4:Int):Option YM:=
  (if (decide (a4<a3))=true then ((idx a2 a4).bind fun x1=>((zcJ O a0 a1 [] a2 a3 a4 x1 (x1.length:Int) (0:Int)).bind (Sum.elim (fun y2=>(if (List.length y2.2.1+List.length ([y2.2.2.1]:Yi))*24<=140737488355328 then (zfW O y2.1 (y2.2.1++([y2.2.2.1]:Yi)) y2.2.2.2.1 y2.2.2.2.2.1 (i64.wrap (y2.2.2.2.2.2.1+1))) else none)) (fun r3=>(some (.inr r3)))))) else (some (.inl (a1,()))))
theorem zpA (a0 a1 a2 a3 a4) {r} (h:zh3 M a0 a1 a2 a3 a4=some r):zfW M a0 a1 a2 a3 a4=some r:=fxL (fun O=>(by kernel_rfl:zfW (Φ E1 O) a0 a1 a2 a3 a4=zh3 O a0 a1 a2 a3 a4)) h
def zdE (a0:Yb) (a1:Yi) (a2:Yb) (a3:Yi) (a4 a5:Int) (a6:Yb) (a7 a8:Int):Option ((Yb×Yi×Yb×Yi×Int×Int×Unit)⊕Ym):=
  (if (decide (a8<a7))=true then ((idx a6 a8).bind fun x1=>(((if (decide (x1<0))=true then ((zfz O a0 x1).bind fun r3=>(if (!r3.1.1)=true then (if (List.length a0+List.length ([x1]:Yb))*8<=140737488355328 then (some (.inl ((a0++([x1]:Yb)),a1,a2,x1,a3,a4,a5,a6,a7,a8,()))) else none) else (some (.inl (a0,a1,a2,x1,a3,a4,a5,a6,a7,a8,()))))) else (some (.inl (a0,a1,a2,x1,a3,a4,a5,a6,a7,a8,())))):Option ((Yb×Yi×Yb×Int×Yi×Int×Int×Yb×Int×Int×Unit)⊕((Yb×Yi×Yb×Yi×Int×Int×Unit)⊕(Ym)))).bind (Sum.elim (fun q2=>((zbs O q2.1 q2.2.1 q2.2.2.1 q2.2.2.2.1 q2.2.2.2.2.1 q2.2.2.2.2.2.1 q2.2.2.2.2.2.2.1 q2.2.2.2.2.2.2.2.1 q2.2.2.2.2.2.2.2.2.1 q2.2.2.2.2.2.2.2.2.2.1 (q2.1.length:Int) (0:Int)).bind (Sum.elim (fun y4=>(if (List.length y4.2.2.1+List.length ([y4.2.2.2.1]:Yb))*8<=140737488355328 then (zcJ O y4.1 y4.2.1 (y4.2.2.1++([y4.2.2.2.1]:Yb)) y4.2.2.2.2.1 y4.2.2.2.2.2.1 y4.2.2.2.2.2.2.1 y4.2.2.2.2.2.2.2.1 y4.2.2.2.2.2.2.2.2.1 (i64.wrap (y4.2.2.2.2.2.2.2.2.2.1+1))) else none)) (fun r5=>(some (.inr r5)))))) (fun r=>some r)))) else (some (.inl (a0,a1,a2,a3,a4,a5,()))))
theorem zjc (a0 a1 a2 a3 a4 a5 a6 a7 a8) {r} (h:zdE M a0 a1 a2 a3 a4 a5 a6 a7 a8=some r):zcJ M a0 a1 a2 a3 a4 a5 a6 a7 a8=some r:=fxL (fun O=>(by kernel_rfl:zcJ (Φ E1 O) a0 a1 a2 a3 a4 a5 a6 a7 a8=zdE O a0 a1 a2 a3 a4 a5 a6 a7 a8)) h
def zem (a0:Yb) (a1:Yi) (a2:Yb) (a3:Int) (a4:Yi) (a5 a6:Int) (a7:Yb) (a8 a9 a10 a11:Int):Option ((Yb×Yi×Yb×Int×Yi×Int×Int×Yb×Int×Int×Unit)⊕Ym):=
  (if (decide (a11<a10))=true then (if 0<=a11∧a11<(a0.length:Int) then ((a0[a11.toNat]?).bind fun x1=>(if (x1==a3)=true then (some (.inl (a0,a1,a2,(i64.wrap ((-1:Int)-a11)),a4,a5,a6,a7,a8,a9,()))) else (zbs O a0 a1 a2 a3 a4 a5 a6 a7 a8 a9 a10 (i64.wrap (a11+1))))) else none) else (some (.inl (a0,a1,a2,a3,a4,a5,a6,a7,a8,a9,()))))
theorem zlY (a0 a1 a2 a3 a4 a5 a6 a7 a8 a9 a10 a11) {r} (h:zem M a0 a1 a2 a3 a4 a5 a6 a7 a8 a9 a10 a11=some r):zbs M a0 a1 a2 a3 a4 a5 a6 a7 a8 a9 a10 a11=some r:=fxL (fun O=>(by kernel_rfl:zbs (Φ E1 O) a0 a1 a2 a3 a4 a5 a6 a7 a8 a9 a10 a11=zem O a0 a1 a2 a3 a4 a5 a6 a7 a8 a9 a10 a11)) h
def zp4 (a0:Yi):Option Ym:=
  ((zfW O [] [] a0 (a0.length:Int) (0:Int)).bind (Sum.elim (fun y1=>(some ((y1.1,()),()))) (fun r2=>(some r2))))
theorem zzs (a0) {r} (h:zp4 M a0=some r):zmu M a0=some r:=fxC (fun O=>(by kernel_rfl:zmu (Φ E1 O) a0=zp4 O a0)) h
def zjC (a0:Yi) (a1:Yf) (a2 a3:Int):Option YM:=
  (if (decide (a3<a2))=true then ((idx a1 a3).bind fun x1=>(if (List.length a0+List.length ([x1.2.1,x1.2.2.1]:Yi))*24<=140737488355328 then (zhD O (a0++([x1.2.1,x1.2.2.1]:Yi)) a1 a2 (i64.wrap (a3+1))) else none)) else (some (.inl (a0,()))))
theorem zr2 (a0 a1 a2 a3) {r} (h:zjC M a0 a1 a2 a3=some r):zhD M a0 a1 a2 a3=some r:=fxL (fun O=>(by kernel_rfl:zhD (Φ E1 O) a0 a1 a2 a3=zjC O a0 a1 a2 a3)) h
def zrh (a0:Yf):Option Ym:=
  ((zhD O [] a0 (a0.length:Int) (0:Int)).bind (Sum.elim (fun y1=>(some ((y1.1,()),()))) (fun r2=>(some r2))))
theorem zAi (a0) {r} (h:zrh M a0=some r):zns M a0=some r:=fxC (fun O=>(by kernel_rfl:zns (Φ E1 O) a0=zrh O a0)) h
def zid (a0:Yi) (a1 a2:Yf) (a3 a4:Int):Option (YN⊕Yp):=
  (if (decide (a4<a3))=true then ((idx a2 a4).bind fun x1=>(if 0<=(i64.wrap ((2:Int)*a4))∧(i64.wrap ((2:Int)*a4))<(a0.length:Int) then ((a0[(Int.toNat (i64.wrap ((2:Int)*a4)))]?).bind fun x2=>(if 0<=(i64.wrap ((i64.wrap ((2:Int)*a4))+(1:Int)))∧(i64.wrap ((i64.wrap ((2:Int)*a4))+(1:Int)))<(a0.length:Int) then ((a0[(Int.toNat (i64.wrap ((i64.wrap ((2:Int)*a4))+(1:Int))))]?).bind fun x3=>(if (List.length a1+List.length ([(x1.1,x2,x3,())]:Yf))*56<=140737488355328 then (zfV O a0 (a1++([(x1.1,x2,x3,())]:Yf)) a2 a3 (i64.wrap (a4+1))) else none)) else none)) else none)) else (some (.inl (a1,()))))
theorem zp6 (a0 a1 a2 a3 a4) {r} (h:zid M a0 a1 a2 a3 a4=some r):zfV M a0 a1 a2 a3 a4=some r:=fxL (fun O=>(by kernel_rfl:zfV (Φ E1 O) a0 a1 a2 a3 a4=zid O a0 a1 a2 a3 a4)) h
def zpQ (a0:Yf):Option Yp:=
  ((zns O a0).bind fun r1=>((zmu O r1.1.1).bind fun r2=>((zfV O r2.1.1 [] a0 (a0.length:Int) (0:Int)).bind (Sum.elim (fun y3=>(some ((y3.1,()),()))) (fun r4=>(some r4))))))
theorem zzI (a0) {r} (h:zpQ M a0=some r):zg3 M a0=some r:=fxC (fun O=>(by kernel_rfl:zg3 (Φ E1 O) a0=zpQ O a0)) h
def zlD (a0 a1:Yf) (a2 a3:Int):Option (YN⊕Yp):=
  (if (decide (a3<a2))=true then ((idx a1 a3).bind fun x1=>((zaD O x1.2.1).bind fun r2=>((zaD O x1.2.2.1).bind fun r3=>(if (List.length a0+List.length ([(x1.1,r2.1.1,r3.1.1,())]:Yf))*56<=140737488355328 then (zjD O (a0++([(x1.1,r2.1.1,r3.1.1,())]:Yf)) a1 a2 (i64.wrap (a3+1))) else none)))) else (some (.inl (a0,()))))
theorem zuf (a0 a1 a2 a3) {r} (h:zlD M a0 a1 a2 a3=some r):zjD M a0 a1 a2 a3=some r:=fxL (fun O=>(by kernel_rfl:zjD (Φ E1 O) a0 a1 a2 a3=zlD O a0 a1 a2 a3)) h
def zqa (a0:Yf):Option Yp:=
  ((zjD O [] a0 (a0.length:Int) (0:Int)).bind (Sum.elim (fun y1=>(some ((y1.1,()),()))) (fun r2=>(some r2))))
theorem zxa (a0) {r} (h:zqa M a0=some r):zio M a0=some r:=fxC (fun O=>(by kernel_rfl:zio (Φ E1 O) a0=zqa O a0)) h
def zkz (a0 a1:Yb) (a2 a3:Int):Option Yz:=
  (if (decide (a3<a2))=true then ((idx a0 a3).bind fun x1=>((idx a1 a3).bind fun x2=>(if (x1 !=x2)=true then (some (.inr ((false,()),()))) else (ziv O a0 a1 a2 (i64.wrap (a3+1)))))) else (some (.inl ())))
theorem zsV (a0 a1 a2 a3) {r} (h:zkz M a0 a1 a2 a3=some r):ziv M a0 a1 a2 a3=some r:=fxL (fun O=>(by kernel_rfl:ziv (Φ E1 O) a0 a1 a2 a3=zkz O a0 a1 a2 a3)) h
def zsI (a0 a1:Yb):Option Yd:=
  (if ((a0.length:Int) !=(a1.length:Int))=true then (some ((false,()),())) else ((ziv O a0 a1 (a0.length:Int) (0:Int)).bind (Sum.elim (fun y1=>(some ((true,()),()))) (fun r2=>(some r2)))))
theorem zBr (a0 a1) {r} (h:zsI M a0 a1=some r):zao M a0 a1=some r:=fxC (fun O=>(by kernel_rfl:zao (Φ E1 O) a0 a1=zsI O a0 a1)) h
def zmZ (a0 a1:Ya):Option Yd:=
  ((zao O a0.2.1 a1.2.1).bind fun r1=>(if r1.1.1=true then ((zao O a0.2.2.1 a1.2.2.1).bind fun r2=>(if r2.1.1=true then (some ((true,()),())) else ((zao O a0.2.1 a1.2.2.1).bind fun r3=>(if r3.1.1=true then ((zao O a0.2.2.1 a1.2.1).bind fun r4=>(some ((r4.1.1,()),()))) else (some ((false,()),())))))) else ((zao O a0.2.1 a1.2.2.1).bind fun r5=>(if r5.1.1=true then ((zao O a0.2.2.1 a1.2.1).bind fun r6=>(some ((r6.1.1,()),()))) else (some ((false,()),()))))))
theorem zxi (a0 a1) {r} (h:zmZ M a0 a1=some r):zgN M a0 a1=some r:=fxC (fun O=>(by kernel_rfl:zgN (Φ E1 O) a0 a1=zmZ O a0 a1)) h
def zkh (a0 a1:Yf) (a2 a3:Int):Option (YN⊕Yp):=
  (if (decide (a3<a2))=true then ((((idx a1 a3).bind fun x2=>(if (!x2.1)=true then ((zao O x2.2.1 x2.2.2.1).bind fun r3=>(if r3.1.1=true then (some (.inl (a0,a1,a2,a3,()))) else ((zbV O a0 (x2.1,x2.2.1,x2.2.2.1,()) false a1 a2 a3 (a0.length:Int) (0:Int)).bind (Sum.elim (fun y4=>(if (!y4.2.2.1)=true then (if (List.length y4.1+List.length ([(y4.2.1.1,y4.2.1.2.1,y4.2.1.2.2.1,())]:Yf))*56<=140737488355328 then (some (.inl ((y4.1++([(y4.2.1.1,y4.2.1.2.1,y4.2.1.2.2.1,())]:Yf)),y4.2.2.2.1,y4.2.2.2.2.1,y4.2.2.2.2.2.1,()))) else none) else (some (.inl (y4.1,y4.2.2.2.1,y4.2.2.2.2.1,y4.2.2.2.2.2.1,()))))) (fun r5=>((some (.inr r5)).map .inr)))))) else ((zbV O a0 (x2.1,x2.2.1,x2.2.2.1,()) false a1 a2 a3 (a0.length:Int) (0:Int)).bind (Sum.elim (fun y6=>(if (!y6.2.2.1)=true then (if (List.length y6.1+List.length ([(y6.2.1.1,y6.2.1.2.1,y6.2.1.2.2.1,())]:Yf))*56<=140737488355328 then (some (.inl ((y6.1++([(y6.2.1.1,y6.2.1.2.1,y6.2.1.2.2.1,())]:Yf)),y6.2.2.2.1,y6.2.2.2.2.1,y6.2.2.2.2.2.1,()))) else none) else (some (.inl (y6.1,y6.2.2.2.1,y6.2.2.2.2.1,y6.2.2.2.2.2.1,()))))) (fun r7=>((some (.inr r7)).map .inr)))))):Option ((Yf×Yf×Int×Int×Unit)⊕(YN⊕(Yp)))).bind (Sum.elim (fun q1=>(zez O q1.1 q1.2.1 q1.2.2.1 (i64.wrap (q1.2.2.2.1+1)))) (fun r=>some r))) else (some (.inl (a0,()))))
theorem zs4 (a0 a1 a2 a3) {r} (h:zkh M a0 a1 a2 a3=some r):zez M a0 a1 a2 a3=some r:=fxL (fun O=>(by kernel_rfl:zez (Φ E1 O) a0 a1 a2 a3=zkh O a0 a1 a2 a3)) h
def zhe (a0:Yf) (a1:Ya) (a2:Bool) (a3:Yf) (a4 a5 a6 a7:Int):Option ((Yf×Ya×Bool×Yf×Int×Int×Unit)⊕Yp):=
  (if (decide (a7<a6))=true then (if 0<=a7∧a7<(a0.length:Int) then ((a0[a7.toNat]?).bind fun x1=>(if a2=true then (zbV O a0 (a1.1,a1.2.1,a1.2.2.1,()) true a3 a4 a5 a6 (i64.wrap (a7+1))) else (if (a1.1==x1.1)=true then ((zgN O (a1.1,a1.2.1,a1.2.2.1,()) (x1.1,x1.2.1,x1.2.2.1,())).bind fun r2=>(zbV O a0 (a1.1,a1.2.1,a1.2.2.1,()) r2.1.1 a3 a4 a5 a6 (i64.wrap (a7+1)))) else (zbV O a0 (a1.1,a1.2.1,a1.2.2.1,()) false a3 a4 a5 a6 (i64.wrap (a7+1)))))) else none) else (some (.inl (a0,(a1.1,a1.2.1,a1.2.2.1,()),a2,a3,a4,a5,()))))
theorem zpi (a0 a1 a2 a3 a4 a5 a6 a7) {r} (h:zhe M a0 a1 a2 a3 a4 a5 a6 a7=some r):zbV M a0 a1 a2 a3 a4 a5 a6 a7=some r:=fxL (fun O=>(by kernel_rfl:zbV (Φ E1 O) a0 a1 a2 a3 a4 a5 a6 a7=zhe O a0 a1 a2 a3 a4 a5 a6 a7)) h
def zsu (a0:Yf):Option Yp:=
  ((zez O [] a0 (a0.length:Int) (0:Int)).bind (Sum.elim (fun y1=>((zio O y1.1).bind fun r3=>(some ((r3.1.1,()),())))) (fun r2=>(some r2))))
theorem zBU (a0) {r} (h:zsu M a0=some r):zor M a0=some r:=fxC (fun O=>(by kernel_rfl:zor (Φ E1 O) a0=zsu O a0)) h
def zt0 (a0:Yf):Option Yp:=
  ((zor O a0).bind fun r1=>((zg3 O r1.1.1).bind fun r2=>(some ((r2.1.1,()),()))))
theorem zCH (a0) {r} (h:zt0 M a0=some r):zbo M a0=some r:=fxC (fun O=>(by kernel_rfl:zbo (Φ E1 O) a0=zt0 O a0)) h
def zjX (a0:Yi) (a1 a2:Yb) (a3 a4:Int):Option (Yg⊕Ys):=
  (if (decide (a4<a3))=true then ((((idx a2 a4).bind fun x2=>(if (decide (x2<0))=true then ((idx a0 (i64.wrap ((-1:Int)-x2))).bind fun x3=>(if (decide ((x3.length:Int)>(0:Int)))=true then ((idx a0 (i64.wrap ((-1:Int)-x2))).bind fun x4=>(if (List.length a1+List.length x4)*8<=140737488355328 then (some (.inl (a0,(a1++x4),a2,a3,a4,()))) else none)) else (if (List.length a1+List.length ([x2]:Yb))*8<=140737488355328 then (some (.inl (a0,(a1++([x2]:Yb)),a2,a3,a4,()))) else none))) else (if (List.length a1+List.length ([x2]:Yb))*8<=140737488355328 then (some (.inl (a0,(a1++([x2]:Yb)),a2,a3,a4,()))) else none))):Option ((Yi×Yb×Yb×Int×Int×Unit)⊕(Yg⊕(Ys)))).bind (Sum.elim (fun q1=>(zfJ O q1.1 q1.2.1 q1.2.2.1 q1.2.2.2.1 (i64.wrap (q1.2.2.2.2.1+1)))) (fun r=>some r))) else (some (.inl (a1,()))))
theorem zry (a0 a1 a2 a3 a4) {r} (h:zjX M a0 a1 a2 a3 a4=some r):zfJ M a0 a1 a2 a3 a4=some r:=fxL (fun O=>(by kernel_rfl:zfJ (Φ E1 O) a0 a1 a2 a3 a4=zjX O a0 a1 a2 a3 a4)) h
def zqZ (a0:Yi) (a1:Yb):Option Ys:=
  ((zfJ O a0 [] a1 (a1.length:Int) (0:Int)).bind (Sum.elim (fun y1=>(some ((y1.1,()),()))) (fun r2=>(some r2))))
theorem zAB (a0 a1) {r} (h:zqZ M a0 a1=some r):zA M a0 a1=some r:=fxC (fun O=>(by kernel_rfl:zA (Φ E1 O) a0 a1=zqZ O a0 a1)) h
end
end Go.Proofs.YtchkojfhcdcnmaaGreatCk.Ev
