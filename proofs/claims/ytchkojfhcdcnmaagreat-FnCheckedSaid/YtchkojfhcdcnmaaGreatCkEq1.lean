/- A text of its own: Eq1; no condition but those that each theorem names. -/
import Derived.Test.YtchkojfhcdcnmaaGreatCkNm
import Derived.KernelRfl
namespace Go.Proofs.YtchkojfhcdcnmaaGreatCk.Ev
open Go Go.IntKind
set_option maxRecDepth 100000
set_option autoImplicit false
set_option linter.unusedVariables false
noncomputable section
variable (O : Oracle E1)
def zmt (a0 a1:Yf) (a2 a3:Int):Option (YN⊕Yp):=
  (if (decide (a3<a2))=true then ((((idx a1 a3).bind fun x2=>(if (!x2.1)=true then ((zD O x2.2.1 x2.2.2.1).bind fun r3=>(if r3.1.1=true then (some (.inl (a0,a1,a2,a3,()))) else ((zS O a0 ((x2.1,x2.2.1,x2.2.2.1,()),())).bind fun r4=>(if (!r4.1.1)=true then ((zkT O ((x2.1,x2.2.1,x2.2.2.1,()).1,(x2.1,x2.2.1,x2.2.2.1,()).2.1,(x2.1,x2.2.1,x2.2.2.1,()).2.2.1,())).bind fun r5=>(if (List.length a0+List.length ([(r5.1.1.1,r5.1.1.2.1,r5.1.1.2.2.1,())]:Yf))*56<=140737488355328 then (some (.inl ((a0++([(r5.1.1.1,r5.1.1.2.1,r5.1.1.2.2.1,())]:Yf)),a1,a2,a3,()))) else none)) else (some (.inl (a0,a1,a2,a3,()))))))) else ((zS O a0 ((x2.1,x2.2.1,x2.2.2.1,()),())).bind fun r6=>(if (!r6.1.1)=true then ((zkT O ((x2.1,x2.2.1,x2.2.2.1,()).1,(x2.1,x2.2.1,x2.2.2.1,()).2.1,(x2.1,x2.2.1,x2.2.2.1,()).2.2.1,())).bind fun r7=>(if (List.length a0+List.length ([(r7.1.1.1,r7.1.1.2.1,r7.1.1.2.2.1,())]:Yf))*56<=140737488355328 then (some (.inl ((a0++([(r7.1.1.1,r7.1.1.2.1,r7.1.1.2.2.1,())]:Yf)),a1,a2,a3,()))) else none)) else (some (.inl (a0,a1,a2,a3,()))))))):Option ((Yf×Yf×Int×Int×Unit)⊕(YN⊕(Yp)))).bind (Sum.elim (fun q1=>(zgi O q1.1 q1.2.1 q1.2.2.1 (i64.wrap (q1.2.2.2.1+1)))) (fun r=>some r))) else (some (.inl (a0,()))))
theorem zuD (a0 a1 a2 a3) {r} (h:zmt M a0 a1 a2 a3=some r):zgi M a0 a1 a2 a3=some r:=fxL (fun O=>(by kernel_rfl:zgi (Φ E1 O) a0 a1 a2 a3=zmt O a0 a1 a2 a3)) h
def zu1 (a0:Yf):Option Yp:=
  ((zgi O [] a0 (a0.length:Int) (0:Int)).bind (Sum.elim (fun y1=>(some ((y1.1,()),()))) (fun r2=>(some r2))))
theorem zDz (a0) {r} (h:zu1 M a0=some r):zrt M a0=some r:=fxC (fun O=>(by kernel_rfl:zrt (Φ E1 O) a0=zu1 O a0)) h
def zoY (a0:Yf):Option Yp:=
  ((zrt O a0).bind fun r1=>((ziX O r1.1.1).bind fun r2=>(some ((r2.1.1,()),()))))
theorem zze (a0) {r} (h:zoY M a0=some r):zdv M a0=some r:=fxC (fun O=>(by kernel_rfl:zdv (Φ E1 O) a0=zoY O a0)) h
def zqh (O:Oracle E1) (a0:Ya) (a1:Int):Option ((Yb×Yb×Unit)×(Unit)):=
  (if (a1==0)=true then (some ((a0.2.1,a0.2.2.1,()),())) else (some ((a0.2.2.1,a0.2.1,()),())))
theorem zzE (a0 a1) {r} (h:zqh M a0 a1=some r):zaO M a0 a1=some r:=fxC (fun O=>(by kernel_rfl:zaO (Φ E1 O) a0 a1=zqh O a0 a1)) h
def zi0 (a0:Yb) (a1:Int) (a2:Yg) (a3:Int):Option (YE⊕Yh):=
  (if (decide (a3>0))=true then ((idx a0 a1).bind fun x1=>((zeu O (a2.1,()) x1).bind fun r2=>(zgT O a0 (i64.wrap (a1+1)) (a2.1,()) (i64.wrap (a3+(i64.wrap (r2.1.1-1))))))) else (some (.inl (a1,()))))
theorem zqI (a0 a1 a2 a3) {r} (h:zi0 M a0 a1 a2 a3=some r):zgT M a0 a1 a2 a3=some r:=fxL (fun O=>(by kernel_rfl:zgT (Φ E1 O) a0 a1 a2 a3=zi0 O a0 a1 a2 a3)) h
def zjN (a0:Yg) (a1:Yb) (a2:Int):Option Yh:=
  ((zgT O a1 a2 (a0.1,()) (1:Int)).bind (Sum.elim (fun y1=>(some ((y1.1,()),()))) (fun r2=>(some r2))))
theorem zpH (a0 a1 a2) {r} (h:zjN M a0 a1 a2=some r):zdV M a0 a1 a2=some r:=fxC (fun O=>(by kernel_rfl:zdV (Φ E1 O) a0 a1 a2=zjN O a0 a1 a2)) h
def zoT (a0:Yg) (a1:Yb) (a2:Int):Option Ys:=
  ((zdV O (a0.1,()) a1 a2).bind fun r1=>(if 0<=a2∧a2<=r1.1.1∧r1.1.1<=(a1.length:Int) then (if List.length ((a1.take r1.1.1.toNat).drop a2.toNat)*8<=140737488355328 then (some ((((a1.take r1.1.1.toNat).drop a2.toNat),()),())) else none) else none))
theorem zzi (a0 a1 a2) {r} (h:zoT M a0 a1 a2=some r):za1 M a0 a1 a2=some r:=fxC (fun O=>(by kernel_rfl:za1 (Φ E1 O) a0 a1 a2=zoT O a0 a1 a2)) h
def zdW (a0:Yi) (a1:Int) (a2:Yi) (a3 a4:Int):Option ((Yi×Int×Unit)⊕Ys):=
  (if (decide (a4<a3))=true then ((idx a2 a4).bind fun x1=>(if (decide ((i64.wrap (a1+(x1.length:Int)))<(0:Int)))=true then none else (zcD O a0 (i64.wrap (a1+(x1.length:Int))) a2 a3 (i64.wrap (a4+1))))) else (some (.inl (a0,a1,()))))
theorem zk8 (a0 a1 a2 a3 a4) {r} (h:zdW M a0 a1 a2 a3 a4=some r):zcD M a0 a1 a2 a3 a4=some r:=fxL (fun O=>(by kernel_rfl:zcD (Φ E1 O) a0 a1 a2 a3 a4=zdW O a0 a1 a2 a3 a4)) h
def zdA (a0:Yb) (a1:Yi) (a2 a3:Int):Option (Yg⊕Ys):=
  (if (decide (a3<a2))=true then ((idx a1 a3).bind fun x1=>(if (List.length a0+List.length x1)*8<=140737488355328 then (zcq O (a0++x1) a1 a2 (i64.wrap (a3+1))) else none)) else (some (.inl (a0,()))))
theorem zkM (a0 a1 a2 a3) {r} (h:zdA M a0 a1 a2 a3=some r):zcq M a0 a1 a2 a3=some r:=fxL (fun O=>(by kernel_rfl:zcq (Φ E1 O) a0 a1 a2 a3=zdA O a0 a1 a2 a3)) h
def zjd (a0:Yi):Option Ys:=
  ((zcD O a0 (0:Int) a0 (a0.length:Int) (0:Int)).bind (Sum.elim (fun y1=>(if 0<=y1.2.1∧((8:Nat):Int)*y1.2.1<=140737488355328 then ((zcq O ([]:Yb) y1.1 (y1.1.length:Int) (0:Int)).bind (Sum.elim (fun y3=>(some ((y3.1,()),()))) (fun r4=>(some r4)))) else none)) (fun r2=>(some r2))))
theorem zuv (a0) {r} (h:zjd M a0=some r):zfP M a0=some r:=fxC (fun O=>(by kernel_rfl:zfP (Φ E1 O) a0=zjd O a0)) h
def zma (a0:Yg) (a1:Yb) (a2:Int) (a3:Yb):Option Ys:=
  (if 0<=(0:Int)∧(0:Int)<=a2∧a2<=(a1.length:Int) then ((zdV O (a0.1,()) a1 a2).bind fun r1=>(if 0<=r1.1.1∧r1.1.1<=(a1.length:Int)∧(a1.length:Int)<=(a1.length:Int) then ((zfP O ([((a1.take a2.toNat).drop (Int.toNat (0:Int))),a3,((a1.take (Int.toNat (a1.length:Int))).drop r1.1.1.toNat)]:Yi)).bind fun r2=>(some ((r2.1.1,()),()))) else none)) else none)
theorem zwy (a0 a1 a2 a3) {r} (h:zma M a0 a1 a2 a3=some r):zf7 M a0 a1 a2 a3=some r:=fxC (fun O=>(by kernel_rfl:zf7 (Φ E1 O) a0 a1 a2 a3=zma O a0 a1 a2 a3)) h
def zqg (O:Oracle E1) (a0:Yb) (a1:Int):Option Yd:=
  (if ((a0.length:Int)==(1:Int))=true then ((idx a0 (0:Int)).bind fun x1=>(some (((x1==(i64.wrap ((-1:Int)-a1))),()),()))) else (some ((false,()),())))
theorem zzF (a0 a1) {r} (h:zqg M a0 a1=some r):zmr M a0 a1=some r:=fxC (fun O=>(by kernel_rfl:zmr (Φ E1 O) a0 a1=zqg O a0 a1)) h
def zmD (a0:Yi) (a1 a2:Int):Option YM:=
  (if (decide (a2<a1))=true then (((if 0<=a2∧a2<(a0.length:Int) then ((a0[a2.toNat]?).bind fun x2=>((zmr O x2 a2).bind fun r3=>(if r3.1.1=true then (if 0<=a2∧a2<(a0.length:Int) then ((a0[a2.toNat]?).bind fun x4=>(some (.inl ((a0.set a2.toNat []),a1,a2,())))) else none) else (some (.inl (a0,a1,a2,())))))) else none):Option ((Yi×Int×Int×Unit)⊕((Yi×Unit)⊕(Ym)))).bind (Sum.elim (fun q1=>(zkN O q1.1 q1.2.1 (i64.wrap (q1.2.2.1+1)))) (fun r=>some r))) else (some (.inl (a0,()))))
theorem zuI (a0 a1 a2) {r} (h:zmD M a0 a1 a2=some r):zkN M a0 a1 a2=some r:=fxL (fun O=>(by kernel_rfl:zkN (Φ E1 O) a0 a1 a2=zmD O a0 a1 a2)) h
def zu7 (a0:Yi):Option Ym:=
  ((zkN O a0 (a0.length:Int) (0:Int)).bind (Sum.elim (fun y1=>(some ((y1.1,()),()))) (fun r2=>(some r2))))
theorem zDJ (a0) {r} (h:zu7 M a0=some r):zrn M a0=some r:=fxC (fun O=>(by kernel_rfl:zrn (Φ E1 O) a0=zu7 O a0)) h
def zcF (a0:Yb) (a1 a2 a3:Int):Option YB:=
  (if (decide (a3<a2))=true then ((idx a0 a3).bind fun x1=>(if (a1==x1)=true then (some (.inr ((a3,()),()))) else (zcZ O a0 a1 a2 (i64.wrap (a3+1))))) else (some (.inl ())))
theorem zhn (a0 a1 a2 a3) {r} (h:zcF M a0 a1 a2 a3=some r):zcZ M a0 a1 a2 a3=some r:=fxL (fun O=>(by kernel_rfl:zcZ (Φ E1 O) a0 a1 a2 a3=zcF O a0 a1 a2 a3)) h
def zgB (a0:Yb) (a1:Int):Option Yh:=
  ((zcZ O a0 a1 (a0.length:Int) (0:Int)).bind (Sum.elim (fun y1=>(some (((-1:Int),()),()))) (fun r2=>(some r2))))
theorem zoi (a0 a1) {r} (h:zgB M a0 a1=some r):zj3 M a0 a1=some r:=fxC (fun O=>(by kernel_rfl:zj3 (Φ E1 O) a0 a1=zgB O a0 a1)) h
def ze3 (a0:Yb) (a1:Int):Option Yd:=
  ((zj3 O a0 a1).bind fun r1=>(some (((decide (r1.1.1>=0)),()),())))
theorem ztf (a0 a1) {r} (h:ze3 M a0 a1=some r):zbr M a0 a1=some r:=fxC (fun O=>(by kernel_rfl:zbr (Φ E1 O) a0 a1=ze3 O a0 a1)) h
def zlr (a0:Yi) (a1 a2:Yb) (a3 a4:Int):Option (Yg⊕Yv):=
  (if (decide (a4<a3))=true then ((idx a2 a4).bind fun x1=>(((if (decide (x1<0))=true then ((idx a0 (i64.wrap ((-1:Int)-x1))).bind fun x3=>(if (decide ((x3.length:Int)>(0:Int)))=true then ((idx a0 (i64.wrap ((-1:Int)-x1))).bind fun x4=>(if (List.length a1+List.length x4)*8<=140737488355328 then (some (.inl (a0,(a1++x4),a2,a3,a4,()))) else none)) else (if (List.length a1+List.length ([x1]:Yb))*8<=140737488355328 then (some (.inl (a0,(a1++([x1]:Yb)),a2,a3,a4,()))) else none))) else (if (List.length a1+List.length ([x1]:Yb))*8<=140737488355328 then (some (.inl (a0,(a1++([x1]:Yb)),a2,a3,a4,()))) else none)):Option ((Yi×Yb×Yb×Int×Int×Unit)⊕(Yg⊕(Yv)))).bind (Sum.elim (fun q2=>(if (decide ((q2.2.1.length:Int)>(40:Int)))=true then (some (.inr (([],false,()),()))) else (zgX O q2.1 q2.2.1 q2.2.2.1 q2.2.2.2.1 (i64.wrap (q2.2.2.2.2.1+1))))) (fun r=>some r)))) else (some (.inl (a1,()))))
theorem zuo (a0 a1 a2 a3 a4) {r} (h:zlr M a0 a1 a2 a3 a4=some r):zgX M a0 a1 a2 a3 a4=some r:=fxL (fun O=>(by kernel_rfl:zgX (Φ E1 O) a0 a1 a2 a3 a4=zlr O a0 a1 a2 a3 a4)) h
def ztV (a0:Yi) (a1:Yb):Option Yv:=
  ((zgX O a0 [] a1 (a1.length:Int) (0:Int)).bind (Sum.elim (fun y1=>(some ((y1.1,true,()),()))) (fun r2=>(some r2))))
theorem zCz (a0 a1) {r} (h:ztV M a0 a1=some r):zck M a0 a1=some r:=fxC (fun O=>(by kernel_rfl:zck (Φ E1 O) a0 a1=ztV O a0 a1)) h
def zas (a0:Yi) (a1:Yb) (a2:Yg) (a3:Int) (a4:Yb) (a5 a6:Int):Option ((Yi×Yb×Int×Unit)⊕Yl):=
  (if (decide (a6<a5))=true then ((((idx a4 a6).bind fun x2=>(if (decide (a3>=(a1.length:Int)))=true then ((some (.inr (([],false,()),()))).map .inr) else (if (decide (x2>=0))=true then ((idx a1 a3).bind fun x3=>(if (x3 !=x2)=true then ((some (.inr (([],false,()),()))).map .inr) else (some (.inl (a0,a1,(a2.1,()),(i64.wrap (a3+1)),a4,a5,a6,()))))) else ((zdV O (a2.1,()) a1 a3).bind fun r4=>(if 0<=a3∧a3<=r4.1.1∧r4.1.1<=(a1.length:Int) then (((if 0<=(i64.wrap ((-1:Int)-x2))∧(i64.wrap ((-1:Int)-x2))<(a0.length:Int) then ((a0[(Int.toNat (i64.wrap ((-1:Int)-x2)))]?).bind fun x6=>(if ((x6.length:Int)==(0:Int))=true then (if List.length ((a1.take r4.1.1.toNat).drop a3.toNat)*8<=140737488355328 then (if 0<=(i64.wrap ((-1:Int)-x2))∧(i64.wrap ((-1:Int)-x2))<(a0.length:Int) then ((a0[(Int.toNat (i64.wrap ((-1:Int)-x2)))]?).bind fun x7=>(some (.inl ((a0.set (Int.toNat (i64.wrap ((-1:Int)-x2))) ((a1.take r4.1.1.toNat).drop a3.toNat)),a1,(a2.1,()),r4.1.1,a4,a5,a6,())))) else none) else none) else ((zD O x6 ((a1.take r4.1.1.toNat).drop a3.toNat)).bind fun r8=>(if (!r8.1.1)=true then (((some (.inr (([],false,()),()))).map .inr).map .inr) else (some (.inl (a0,a1,(a2.1,()),r4.1.1,a4,a5,a6,()))))))) else none):Option ((Yi×Yb×Yg×Int×Yb×Int×Int×Unit)⊕((Yi×Yb×Yg×Int×Yb×Int×Int×Unit)⊕((Yi×Yb×Int×Unit)⊕(Yl))))).bind (Sum.elim (fun q5=>(some (.inl (q5.1,q5.2.1,(q5.2.2.1.1,()),q5.2.2.2.1,q5.2.2.2.2.1,q5.2.2.2.2.2.1,q5.2.2.2.2.2.2.1,())))) (fun r=>some r))) else none))))):Option ((Yi×Yb×Yg×Int×Yb×Int×Int×Unit)⊕((Yi×Yb×Int×Unit)⊕(Yl)))).bind (Sum.elim (fun q1=>(zbi O q1.1 q1.2.1 (q1.2.2.1.1,()) q1.2.2.2.1 q1.2.2.2.2.1 q1.2.2.2.2.2.1 (i64.wrap (q1.2.2.2.2.2.2.1+1)))) (fun r=>some r))) else (some (.inl (a0,a1,a3,()))))
theorem za5 (a0 a1 a2 a3 a4 a5 a6) {r} (h:zas M a0 a1 a2 a3 a4 a5 a6=some r):zbi M a0 a1 a2 a3 a4 a5 a6=some r:=fxL (fun O=>(by kernel_rfl:zbi (Φ E1 O) a0 a1 a2 a3 a4 a5 a6=zas O a0 a1 a2 a3 a4 a5 a6)) h
def zkk (a0:Yg) (a1:Yi) (a2 a3:Yb):Option Yl:=
  (if List.length a1*24<=140737488355328 then ((zbi O a1 a3 (a0.1,()) (0:Int) a2 (a2.length:Int) (0:Int)).bind (Sum.elim (fun y1=>(some ((y1.1,(y1.2.2.1==(y1.2.1.length:Int)),()),()))) (fun r2=>(some r2)))) else none)
theorem zsT (a0 a1 a2 a3) {r} (h:zkk M a0 a1 a2 a3=some r):zdN M a0 a1 a2 a3=some r:=fxC (fun O=>(by kernel_rfl:zdN (Φ E1 O) a0 a1 a2 a3=zkk O a0 a1 a2 a3)) h
def zlu (a0 a1:Int) (a2:Yb) (a3 a4:Int):Option (YE⊕Yh):=
  (if (decide (a4<a3))=true then ((((idx a2 a4).bind fun x2=>(if (x2==a0)=true then (some (.inl (a0,(i64.wrap (a1+1)),a2,a3,a4,()))) else (some (.inl (a0,a1,a2,a3,a4,()))))):Option ((Int×Int×Yb×Int×Int×Unit)⊕(YE⊕(Yh)))).bind (Sum.elim (fun q1=>(zjm O q1.1 q1.2.1 q1.2.2.1 q1.2.2.2.1 (i64.wrap (q1.2.2.2.2.1+1)))) (fun r=>some r))) else (some (.inl (a1,()))))
theorem zt6 (a0 a1 a2 a3 a4) {r} (h:zlu M a0 a1 a2 a3 a4=some r):zjm M a0 a1 a2 a3 a4=some r:=fxL (fun O=>(by kernel_rfl:zjm (Φ E1 O) a0 a1 a2 a3 a4=zlu O a0 a1 a2 a3 a4)) h
def ztJ (a0:Yb) (a1:Int):Option Yh:=
  ((zjm O a1 (0:Int) a0 (a0.length:Int) (0:Int)).bind (Sum.elim (fun y1=>(some ((y1.1,()),()))) (fun r2=>(some r2))))
theorem zCF (a0 a1) {r} (h:ztJ M a0 a1=some r):zne M a0 a1=some r:=fxC (fun O=>(by kernel_rfl:zne (Φ E1 O) a0 a1=ztJ O a0 a1)) h
def zhk (a0 a1:Yb) (a2:Int):Option Yz:=
  (if (decide (a2<12))=true then ((zne O a0 (i64.wrap ((-1:Int)-a2))).bind fun r1=>((zne O a1 (i64.wrap ((-1:Int)-a2))).bind fun r2=>(if (decide (r1.1.1<r2.1.1))=true then (some (.inr ((false,()),()))) else (zfh O a0 a1 (i64.wrap (a2+1)))))) else (some (.inl ())))
theorem zpj (a0 a1 a2) {r} (h:zhk M a0 a1 a2=some r):zfh M a0 a1 a2=some r:=fxL (fun O=>(by kernel_rfl:zfh (Φ E1 O) a0 a1 a2=zhk O a0 a1 a2)) h
def znG (a0 a1:Yb):Option Yd:=
  ((zfh O a0 a1 (0:Int)).bind (Sum.elim (fun y1=>(some ((true,()),()))) (fun r2=>(some r2))))
theorem zyb (a0 a1) {r} (h:znG M a0 a1=some r):zkl M a0 a1=some r:=fxC (fun O=>(by kernel_rfl:zkl (Φ E1 O) a0 a1=znG O a0 a1)) h
def zhb (a0 a1:Yb) (a2 a3:Int):Option Yz:=
  (if (decide (a3<a2))=true then ((idx a1 a3).bind fun x1=>((idx a0 a3).bind fun x2=>(if (x1 !=x2)=true then (if (decide (x1>=0))=true then ((idx a0 a3).bind fun x3=>(if (decide (x3>=0))=true then ((idx a0 a3).bind fun x4=>(some (.inr (((decide (x1>x4)),()),())))) else (some (.inr ((false,()),()))))) else (some (.inr ((false,()),())))) else (zfp O a0 a1 a2 (i64.wrap (a3+1)))))) else (some (.inl ())))
theorem zpm (a0 a1 a2 a3) {r} (h:zhb M a0 a1 a2 a3=some r):zfp M a0 a1 a2 a3=some r:=fxL (fun O=>(by kernel_rfl:zfp (Φ E1 O) a0 a1 a2 a3=zhb O a0 a1 a2 a3)) h
def zo1 (a0 a1:Yb):Option Yd:=
  (if (decide ((a0.length:Int)<(a1.length:Int)))=true then (some ((false,()),())) else ((zkl O a0 a1).bind fun r1=>(if (!r1.1.1)=true then (some ((false,()),())) else (if (decide ((a0.length:Int)>(a1.length:Int)))=true then (some ((true,()),())) else ((zfp O a1 a0 (a0.length:Int) (0:Int)).bind (Sum.elim (fun y2=>(some ((false,()),()))) (fun r3=>(some r3))))))))
theorem zzd (a0 a1) {r} (h:zo1 M a0 a1=some r):zev M a0 a1=some r:=fxC (fun O=>(by kernel_rfl:zev (Φ E1 O) a0 a1=zo1 O a0 a1)) h
def zfs (a0 a1:Yb) (a2 a3:Int):Option (Yg⊕Yv):=
  (if (decide (a3<a2))=true then (if 0<=a3∧a3<(a1.length:Int) then ((a1[a3.toNat]?).bind fun x1=>(if (decide (x1<0))=true then ((zbr O a0 x1).bind fun r2=>(if (!r2.1.1)=true then (some (.inr (([],false,()),()))) else (zcv O a0 a1 a2 (i64.wrap (a3+1))))) else (zcv O a0 a1 a2 (i64.wrap (a3+1))))) else none) else (some (.inl (a1,()))))
theorem zm5 (a0 a1 a2 a3) {r} (h:zfs M a0 a1 a2 a3=some r):zcv M a0 a1 a2 a3=some r:=fxL (fun O=>(by kernel_rfl:zcv (Φ E1 O) a0 a1 a2 a3=zfs O a0 a1 a2 a3)) h
def zdY (a0:Yg) (a1 a2 a3:Yb):Option Yv:=
  (if 0<=(12:Int)∧((24:Nat):Int)*(12:Int)<=140737488355328∧(12:Int)=(12:Int) then ((zdN O (a0.1,()) (List.replicate (Int.toNat (12:Int)) ([]:Yb)) a2 a1).bind fun r1=>(if (!r1.1.2.1)=true then (some (([],false,()),())) else ((zrn O r1.1.1).bind fun r2=>((zck O r2.1.1 a3).bind fun r3=>(if (!r3.1.2.1)=true then (some (([],false,()),())) else ((zev O a1 r3.1.1).bind fun r4=>(if (!r4.1.1)=true then (some (([],false,()),())) else ((zcv O a1 r3.1.1 (r3.1.1.length:Int) (0:Int)).bind (Sum.elim (fun y5=>(some ((y5.1,true,()),()))) (fun r6=>(some r6))))))))))) else none)
theorem ziW (a0 a1 a2 a3) {r} (h:zdY M a0 a1 a2 a3=some r):zcQ M a0 a1 a2 a3=some r:=fxC (fun O=>(by kernel_rfl:zcQ (Φ E1 O) a0 a1 a2 a3=zdY O a0 a1 a2 a3)) h
def zdC (a0:Yb) (a1:Yf) (a2:Yg) (a3:Int):Option ((Unit)⊕Yt):=
  (if (decide (a3>=0))=true then ((za1 O (a2.1,()) a0 a3).bind fun r1=>((zcf O a0 a1 (a2.1,()) a3 r1.1.1 a1 (a1.length:Int) (0:Int)).bind (Sum.elim (fun y2=>(zcT O y2.1 y2.2.1 (y2.2.2.1.1,()) (i64.wrap (y2.2.2.2.1-1)))) (fun r3=>(some (.inr r3)))))) else (some (.inl ())))
theorem zhZ (a0 a1 a2 a3) {r} (h:zdC M a0 a1 a2 a3=some r):zcT M a0 a1 a2 a3=some r:=fxL (fun O=>(by kernel_rfl:zcT (Φ E1 O) a0 a1 a2 a3=zdC O a0 a1 a2 a3)) h
def zcK (a0:Yb) (a1:Yf) (a2:Yg) (a3:Int) (a4:Yb) (a5:Yf) (a6 a7:Int):Option ((Yb×Yf×Yg×Int×Unit)⊕Yt):=
  (if (decide (a7<a6))=true then ((idx a5 a7).bind fun x1=>((zbP O a0 a1 (a2.1,()) a3 a4 a7 (x1.1,x1.2.1,x1.2.2.1,()) a5 a6 a7 (0:Int)).bind (Sum.elim (fun y2=>(zcf O y2.1 y2.2.1 (y2.2.2.1.1,()) y2.2.2.2.1 y2.2.2.2.2.1 y2.2.2.2.2.2.1 y2.2.2.2.2.2.2.1 (i64.wrap (y2.2.2.2.2.2.2.2.1+1)))) (fun r3=>(some (.inr r3)))))) else (some (.inl (a0,a1,(a2.1,()),a3,()))))
theorem zgs (a0 a1 a2 a3 a4 a5 a6 a7) {r} (h:zcK M a0 a1 a2 a3 a4 a5 a6 a7=some r):zcf M a0 a1 a2 a3 a4 a5 a6 a7=some r:=fxL (fun O=>(by kernel_rfl:zcf (Φ E1 O) a0 a1 a2 a3 a4 a5 a6 a7=zcK O a0 a1 a2 a3 a4 a5 a6 a7)) h
def zcl (a0:Yb) (a1:Yf) (a2:Yg) (a3:Int) (a4:Yb) (a5:Int) (a6:Ya) (a7:Yf) (a8 a9 a10:Int):Option ((Yb×Yf×Yg×Int×Yb×Yf×Int×Int×Unit)⊕Yt):=
  (if (decide (a10<2))=true then ((zaO O (a6.1,a6.2.1,a6.2.2.1,()) a10).bind fun r1=>((zcQ O (a2.1,()) a4 r1.1.1 r1.1.2.1).bind fun r2=>(if r2.1.2.1=true then ((zf7 O (a2.1,()) a0 a3 r2.1.1).bind fun r3=>(some (.inr ((r3.1.1,a3,a5,true,()),())))) else (zbP O a0 a1 (a2.1,()) a3 a4 a5 (a6.1,a6.2.1,a6.2.2.1,()) a7 a8 a9 (i64.wrap (a10+1)))))) else (some (.inl (a0,a1,(a2.1,()),a3,a4,a7,a8,a9,()))))
theorem zfB (a0 a1 a2 a3 a4 a5 a6 a7 a8 a9 a10) {r} (h:zcl M a0 a1 a2 a3 a4 a5 a6 a7 a8 a9 a10=some r):zbP M a0 a1 a2 a3 a4 a5 a6 a7 a8 a9 a10=some r:=fxL (fun O=>(by kernel_rfl:zbP (Φ E1 O) a0 a1 a2 a3 a4 a5 a6 a7 a8 a9 a10=zcl O a0 a1 a2 a3 a4 a5 a6 a7 a8 a9 a10)) h
def zlB (a0:Yg) (a1:Yb) (a2:Yf):Option Yt:=
  ((zcT O a1 a2 (a0.1,()) (i64.wrap ((a1.length:Int)-(1:Int)))).bind (Sum.elim (fun y1=>(some (([],(0:Int),(0:Int),false,()),()))) (fun r2=>(some r2))))
theorem ztS (a0 a1 a2) {r} (h:zlB M a0 a1 a2=some r):ziH M a0 a1 a2=some r:=fxC (fun O=>(by kernel_rfl:ziH (Φ E1 O) a0 a1 a2=zlB O a0 a1 a2)) h
def zgz (a0:Yb) (a1:Yf) (a2:Yg) (a3:Int):Option ((Unit)⊕((Yb×Int×Unit)×(Unit))):=
  ((ziH O (a2.1,()) a0 a1).bind fun r1=>(if (!r1.1.2.2.2.1)=true then (some (.inr ((a0,a3,()),()))) else (zeI O r1.1.1 a1 (a2.1,()) (i64.wrap (a3+1)))))
theorem zof (a0 a1 a2 a3) {r} (h:zgz M a0 a1 a2 a3=some r):zeI M a0 a1 a2 a3=some r:=fxL (fun O=>(by kernel_rfl:zeI (Φ E1 O) a0 a1 a2 a3=zgz O a0 a1 a2 a3)) h
def zmJ (a0:Yg) (a1:Yb) (a2:Yf):Option ((Yb×Int×Unit)×(Unit)):=
  (if List.length a1*8<=140737488355328 then ((zeI O a1 a2 (a0.1,()) (0:Int)).bind (Sum.elim (fun y1=>none) (fun r2=>(some r2)))) else none)
theorem zxK (a0 a1 a2) {r} (h:zmJ M a0 a1 a2=some r):zeJ M a0 a1 a2=some r:=fxC (fun O=>(by kernel_rfl:zeJ (Φ E1 O) a0 a1 a2=zmJ O a0 a1 a2)) h
def zde (a0 a1:Yf) (a2:Yg) (a3:List YJ) (a4 a5 a6:Int):Option ((Yf×(List YJ)×Int×Unit)⊕Yr):=
  (if (decide (a6<a5))=true then (if 0<=a6∧a6<(a3.length:Int) then ((seeO a3 a6.toNat).bind fun x1=>((zeJ O (a2.1,()) x1 a1).bind fun r2=>(if 0<=a6∧a6<(a3.length:Int) then ((a3[a6.toNat]?).bind fun x3=>(zcd O a0 a1 (a2.1,()) (a3.set a6.toNat (some (true,r2.1.1):YJ)) (i64.wrap (a4+r2.1.2.1)) a5 (i64.wrap (a6+1)))) else none))) else none) else (some (.inl (a0,a3,a4,()))))
theorem zka (a0 a1 a2 a3 a4 a5 a6) {r} (h:zde M a0 a1 a2 a3 a4 a5 a6=some r):zcd M a0 a1 a2 a3 a4 a5 a6=some r:=fxL (fun O=>(by kernel_rfl:zcd (Φ E1 O) a0 a1 a2 a3 a4 a5 a6=zde O a0 a1 a2 a3 a4 a5 a6)) h
def ziA (a0:Yg) (a1 a2:Yf):Option Yr:=
  ((zbS O a1).bind fun r1=>((zcd O a1 a2 (a0.1,()) (List.map (fun x=>(some (false,x):YJ)) r1.1.1) (0:Int) (r1.1.1.length:Int) (0:Int)).bind (Sum.elim (fun y2=>(if allOw y2.2.1=true then ((zdm O y2.1 (forceL y2.2.1)).bind fun r4=>((zdv O r4.1.1).bind fun r5=>(some ((r5.1.1,y2.2.2.1,()),())))) else none)) (fun r3=>(some r3)))))
theorem zug (a0 a1 a2) {r} (h:ziA M a0 a1 a2=some r):zfl M a0 a1 a2=some r:=fxC (fun O=>(by kernel_rfl:zfl (Φ E1 O) a0 a1 a2=ziA O a0 a1 a2)) h
def zmR (O:Oracle E1) (a0:Int) (a1:Yq) (a2:Yb):Option Yp:=
  ((idx a2 a0).bind fun x1=>((idx a1 x1).bind fun x2=>(some ((x2.2.2.2.1,()),()))))
theorem zw8 (a0 a1 a2) {r} (h:zmR M a0 a1 a2=some r):zF M a0 a1 a2=some r:=fxC (fun O=>(by kernel_rfl:zF (Φ E1 O) a0 a1 a2=zmR O a0 a1 a2)) h
def zmU (O:Oracle E1) (a0 a1:Int) (a2 a3:Yb):Option Yd:=
  (if ((a2.length:Int)==a0)=true then (some ((((a3.length:Int)==a1),()),())) else (some ((false,()),())))
theorem zxA (a0 a1 a2 a3) {r} (h:zmU M a0 a1 a2 a3=some r):zdn M a0 a1 a2 a3=some r:=fxC (fun O=>(by kernel_rfl:zdn (Φ E1 O) a0 a1 a2 a3=zmU O a0 a1 a2 a3)) h
def zpZ (O:Oracle E1) (a0:Yf) (a1:Int):Option YI:=
  (if (a1==0)=true then (some ((a0,true,()),())) else (some ((a0,(a1==5),()),())))
theorem zzL (a0 a1) {r} (h:zpZ M a0 a1=some r):zhf M a0 a1=some r:=fxC (fun O=>(by kernel_rfl:zhf (Φ E1 O) a0 a1=zpZ O a0 a1)) h
def zjg (O:Oracle E1) (a0:Yf) (a1:Int) (a2:Bool):Option Yd:=
  (if (decide (a1>=0))=true then (if (decide (a1<(a0.length:Int)))=true then ((idx a0 a1).bind fun x1=>(some (((x1.1==a2),()),()))) else (some ((false,()),()))) else (some ((false,()),())))
theorem zoG (a0 a1 a2) {r} (h:zjg M a0 a1 a2=some r):zdx M a0 a1 a2=some r:=fxC (fun O=>(by kernel_rfl:zdx (Φ E1 O) a0 a1 a2=zjg O a0 a1 a2)) h
end
end Go.Proofs.YtchkojfhcdcnmaaGreatCk.Ev
