/- A text of its own: Eq8; no condition but those that each theorem names. -/
import Derived.Test.YtchkojfhcdcnmaaGreatMdNm
import Derived.KernelRfl
namespace Go.Proofs.YtchkojfhcdcnmaaGreatMd.Ev
open Go Go.IntKind
set_option maxRecDepth 100000
set_option autoImplicit false
set_option linter.unusedVariables false
noncomputable section
variable (O : Oracle E1)
def zmH (a0:Int) (a1:Yb) (a2 a3:Int):Option (Yg⊕Ys):=
  (if (decide (a3<a2))=true then (((if 0<=a3∧a3<(a1.length:Int) then ((a1[a3.toNat]?).bind fun x2=>(if (decide (x2<0))=true then (if 0<=a3∧a3<(a1.length:Int) then ((a1[a3.toNat]?).bind fun x3=>(some (.inl (a0,(a1.set a3.toNat (i64.wrap (x2-a0))),a2,a3,())))) else none) else (some (.inl (a0,a1,a2,a3,()))))) else none):Option ((Int×Yb×Int×Int×Unit)⊕(Yg⊕(Ys)))).bind (Sum.elim (fun q1=>(zk2 O q1.1 q1.2.1 q1.2.2.1 (i64.wrap (q1.2.2.2.1+1)))) (fun r=>some r))) else (some (.inl (a1,()))))
theorem zvJ:tM4 zk2 zmH:=eM4
def zvj (a0:Yb) (a1:Int):Option Ys:=
  (if List.length a0*8<=140737488355328 then ((zk2 O a1 a0 (a0.length:Int) (0:Int)).bind (Sum.elim (fun y1=>(some ((y1.1,()),()))) (fun r2=>(some r2)))) else none)
theorem zEN:tM2 zq4 zvj:=eM2
def zla (a0:Yb) (a1:Yg):Option Yd:=
  ((zfE O (a1.1,()) a0).bind fun r1=>(some (((!r1.1.1),()),())))
theorem zwe:tM2 zht zla:=eM2
def zM (a0:Yj) (a1:Yg×Unit) (a2 a3:Int):Option YC:=
  (if (decide (a3<a2))=true then ((idx a0 a3).bind fun x1=>((zht O x1 a1.1).bind fun r2=>(if r2.1.1=true then (some (.inr ((a3,()),()))) else (zR O a0 a1 a2 (i64.wrap (a3+1)))))) else (some (.inl ())))
theorem zbj:tM4 zR zM:=eM4
def zaF (a0:Yj) (a1:Yg×Unit):Option Yh:=
  ((zR O a0 a1 (a0.length:Int) (0:Int)).bind (Sum.elim (fun y1=>(some (((-1:Int),()),()))) (fun r2=>(some r2))))
theorem zc7:tM2 zbD zaF:=eM2
def zbl (a0:Yj) (a1:Yg×Unit):Option Yd:=
  ((zbD O a0 a1).bind fun r1=>(some (((decide (r1.1.1>=0)),()),())))
theorem zhM:tM2 zau zbl:=eM2
def zmv (a0:Yg) (a1:Yj):Option Yd:=
  ((zau O a1 ((a0.1,()),())).bind fun r1=>(some (((!r1.1.1),()),())))
theorem zxr:tM2 zf8 zmv:=eM2
def zhn (a0:Ye) (a1:Yg) (a2:Int) (a3:List YJ) (a4 a5:Int):Option ((Ye×Yg×(List YJ)×Unit)⊕YG):=
  (if (decide (a5<a4))=true then (if 0<=a5∧a5<(a3.length:Int) then ((seeO a3 a5.toNat).bind fun x1=>((zq4 O x1 a2).bind fun r2=>(if 0<=a5∧a5<(a3.length:Int) then ((a3[a5.toNat]?).bind fun x3=>(zdw O a0 (a1.1,()) a2 (a3.set a5.toNat (some (true,r2.1.1):YJ)) a4 (i64.wrap (a5+1)))) else none))) else none) else (some (.inl (a0,(a1.1,()),a3,()))))
theorem zpD:tM6 zdw zhn:=eM6
def zpa (a0:Yg) (a1 a2:Ye):Option YG:=
  ((((zbO O a1).bind fun r2=>((zin O r2.1.1).bind fun r3=>(if (decide ((r3.1.1.length:Int)>(0:Int)))=true then (if 0<=(i64.wrap ((r3.1.1.length:Int)-(1:Int)))∧(i64.wrap ((r3.1.1.length:Int)-(1:Int)))<(r3.1.1.length:Int) then ((r3.1.1[(Int.toNat (i64.wrap ((r3.1.1.length:Int)-(1:Int))))]?).bind fun x4=>(some (.inl (a2,(a0.1,()),(i64.wrap (x4+1)),())))) else none) else (some (.inl (a2,(a0.1,()),(0:Int),())))))):Option ((Ye×Yg×Int×Unit)⊕Yn×(Unit))).bind (Sum.elim (fun q1=>((zbO O q1.1).bind fun r5=>((zdw O q1.1 (q1.2.1.1,()) q1.2.2.1 (List.map (fun x=>(some (false,x):YJ)) r5.1.1) (r5.1.1.length:Int) (0:Int)).bind (Sum.elim (fun y6=>(if allOw y6.2.2.1=true then ((zf8 O (y6.2.1.1,()) (forceL y6.2.2.1)).bind fun r8=>(if (!r8.1.1)=true then (some (([],false,()),())) else ((zdG O y6.1 (forceL y6.2.2.1)).bind fun r9=>(some ((r9.1.1,true,()),()))))) else none)) (fun r7=>(some r7)))))) (fun r=>some r)))
theorem zzS:tM3 zlr zpa:=eM3
def zbX (a0 a1:Yb) (a2:Yg) (a3:Yj):Option ((Unit)⊕Yk):=
  ((zfd O a0 a1 (a2.1,()) a3 (0:Int)).bind (Sum.elim (fun y1=>(if (y1.2.2.2.2.1==(y1.1.length:Int))=true then (some (.inr ((y1.2.2.2.1,true,()),()))) else (if (y1.2.2.2.2.1==(y1.2.1.length:Int))=true then (some (.inr ((y1.2.2.2.1,true,()),()))) else ((idx y1.1 y1.2.2.2.2.1).bind fun x3=>((((idx y1.1 y1.2.2.2.2.1).bind fun x5=>(if (decide (x5>=0))=true then ((idx y1.2.1 y1.2.2.2.2.1).bind fun x6=>(if (decide (x6>=0))=true then ((some (.inr (([],false,()),()))).map .inr) else ((idx y1.1 y1.2.2.2.2.1).bind fun x7=>(if (decide (x7<0))=true then ((idx y1.2.1 y1.2.2.2.2.1).bind fun x8=>(if (decide (x8<0))=true then ((idx y1.1 y1.2.2.2.2.1).bind fun x9=>((idx y1.2.1 y1.2.2.2.2.1).bind fun x10=>((idx y1.1 y1.2.2.2.2.1).bind fun x11=>((idx y1.2.1 y1.2.2.2.2.1).bind fun x12=>(some (.inl (y1.1,y1.2.1,(y1.2.2.1.1,()),y1.2.2.2.1,(if x10<x9 then x10 else x9),([(if x12>x11 then x12 else x11)]:Yb),()))))))) else ((idx y1.1 y1.2.2.2.2.1).bind fun x13=>(if (decide (x13<0))=true then ((zbd O (y1.2.2.1.1,()) y1.2.1 y1.2.2.2.2.1).bind fun r14=>(some (.inl (y1.1,y1.2.1,(y1.2.2.1.1,()),y1.2.2.2.1,x3,r14.1.1,())))) else ((idx y1.2.1 y1.2.2.2.2.1).bind fun x15=>((zbd O (y1.2.2.1.1,()) y1.1 y1.2.2.2.2.1).bind fun r16=>(some (.inl (y1.1,y1.2.1,(y1.2.2.1.1,()),y1.2.2.2.1,x15,r16.1.1,()))))))))) else ((idx y1.1 y1.2.2.2.2.1).bind fun x17=>(if (decide (x17<0))=true then ((zbd O (y1.2.2.1.1,()) y1.2.1 y1.2.2.2.2.1).bind fun r18=>(some (.inl (y1.1,y1.2.1,(y1.2.2.1.1,()),y1.2.2.2.1,x3,r18.1.1,())))) else ((idx y1.2.1 y1.2.2.2.2.1).bind fun x19=>((zbd O (y1.2.2.1.1,()) y1.1 y1.2.2.2.2.1).bind fun r20=>(some (.inl (y1.1,y1.2.1,(y1.2.2.1.1,()),y1.2.2.2.1,x19,r20.1.1,()))))))))))) else ((idx y1.1 y1.2.2.2.2.1).bind fun x21=>(if (decide (x21<0))=true then ((idx y1.2.1 y1.2.2.2.2.1).bind fun x22=>(if (decide (x22<0))=true then ((idx y1.1 y1.2.2.2.2.1).bind fun x23=>((idx y1.2.1 y1.2.2.2.2.1).bind fun x24=>((idx y1.1 y1.2.2.2.2.1).bind fun x25=>((idx y1.2.1 y1.2.2.2.2.1).bind fun x26=>(some (.inl (y1.1,y1.2.1,(y1.2.2.1.1,()),y1.2.2.2.1,(if x24<x23 then x24 else x23),([(if x26>x25 then x26 else x25)]:Yb),()))))))) else ((idx y1.1 y1.2.2.2.2.1).bind fun x27=>(if (decide (x27<0))=true then ((zbd O (y1.2.2.1.1,()) y1.2.1 y1.2.2.2.2.1).bind fun r28=>(some (.inl (y1.1,y1.2.1,(y1.2.2.1.1,()),y1.2.2.2.1,x3,r28.1.1,())))) else ((idx y1.2.1 y1.2.2.2.2.1).bind fun x29=>((zbd O (y1.2.2.1.1,()) y1.1 y1.2.2.2.2.1).bind fun r30=>(some (.inl (y1.1,y1.2.1,(y1.2.2.1.1,()),y1.2.2.2.1,x29,r30.1.1,()))))))))) else ((idx y1.1 y1.2.2.2.2.1).bind fun x31=>(if (decide (x31<0))=true then ((zbd O (y1.2.2.1.1,()) y1.2.1 y1.2.2.2.2.1).bind fun r32=>(some (.inl (y1.1,y1.2.1,(y1.2.2.1.1,()),y1.2.2.2.1,x3,r32.1.1,())))) else ((idx y1.2.1 y1.2.2.2.2.1).bind fun x33=>((zbd O (y1.2.2.1.1,()) y1.1 y1.2.2.2.2.1).bind fun r34=>(some (.inl (y1.1,y1.2.1,(y1.2.2.1.1,()),y1.2.2.2.1,x33,r34.1.1,()))))))))))):Option ((Yb×Yb×Yg×Yj×Int×Yb×Unit)⊕((Unit)⊕(Yk)))).bind (Sum.elim (fun q4=>((zbJ O q4.2.2.2.2.2.1 q4.2.2.2.2.1).bind fun r35=>(if r35.1.1=true then (some (.inr (([],false,()),()))) else (if 0<=(12:Int)∧((24:Nat):Int)*(12:Int)<=140737488355328∧(12:Int)=(12:Int) then (if 0<=(i64.wrap ((-1:Int)-q4.2.2.2.2.1))∧(i64.wrap ((-1:Int)-q4.2.2.2.2.1))<(List.length (List.replicate (Int.toNat (12:Int)) ([]:Yb)):Int) then (((List.replicate (Int.toNat (12:Int)) ([]:Yb))[(Int.toNat (i64.wrap ((-1:Int)-q4.2.2.2.2.1)))]?).bind fun x36=>((zcD O ((List.replicate (Int.toNat (12:Int)) ([]:Yb)).set (Int.toNat (i64.wrap ((-1:Int)-q4.2.2.2.2.1))) q4.2.2.2.2.2.1) q4.1).bind fun r37=>((zcD O ((List.replicate (Int.toNat (12:Int)) ([]:Yb)).set (Int.toNat (i64.wrap ((-1:Int)-q4.2.2.2.2.1))) q4.2.2.2.2.2.1) q4.2.1).bind fun r38=>(if (!r37.1.2.1)=true then (some (.inr (([],false,()),()))) else (if (!r38.1.2.1)=true then (some (.inr (([],false,()),()))) else ((zO O r37.1.1 r38.1.1 (q4.2.2.1.1,()) q4.2.2.2.1 q4.2.2.2.2.1 q4.2.2.2.2.2.1 ((List.replicate (Int.toNat (12:Int)) ([]:Yb)).set (Int.toNat (i64.wrap ((-1:Int)-q4.2.2.2.2.1))) q4.2.2.2.2.2.1) (q4.2.2.2.1.length:Int) (0:Int)).bind (Sum.elim (fun y39=>(if List.length y39.2.2.2.2.2.1*8<=140737488355328 then (if 0<=(i64.wrap ((-1:Int)-y39.2.2.2.2.1))∧(i64.wrap ((-1:Int)-y39.2.2.2.2.1))<(y39.2.2.2.1.length:Int) then ((y39.2.2.2.1[(Int.toNat (i64.wrap ((-1:Int)-y39.2.2.2.2.1)))]?).bind fun x41=>(zbh O y39.1 y39.2.1 (y39.2.2.1.1,()) (y39.2.2.2.1.set (Int.toNat (i64.wrap ((-1:Int)-y39.2.2.2.2.1))) y39.2.2.2.2.2.1))) else none) else none)) (fun r40=>(some (.inr r40)))))))))) else none) else none)))) (fun r=>some r))))))) (fun r2=>(some (.inr r2)))))
theorem zdr:tM4 zbh zbX:=eM4
def zhe (a0 a1:Yb) (a2:Yg) (a3:Yj) (a4:Int):Option ((Yb×Yb×Yg×Yj×Int×Unit)⊕Yk):=
  (if (decide (a4<(a0.length:Int)))=true then (if (decide (a4<(a1.length:Int)))=true then ((idx a0 a4).bind fun x1=>((idx a1 a4).bind fun x2=>(if (x1==x2)=true then (zfd O a0 a1 (a2.1,()) a3 (i64.wrap (a4+1))) else (some (.inl (a0,a1,(a2.1,()),a3,a4,())))))) else (some (.inl (a0,a1,(a2.1,()),a3,a4,())))) else (some (.inl (a0,a1,(a2.1,()),a3,a4,()))))
theorem zps:tM5 zfd zhe:=eM5
def zcb (a0 a1:Yb) (a2:Yg) (a3:Yj) (a4:Int) (a5:Yb) (a6:Yj) (a7 a8:Int):Option ((Yb×Yb×Yg×Yj×Int×Yb×Unit)⊕Yk):=
  (if (decide (a8<a7))=true then (((if 0<=a8∧a8<(a3.length:Int) then ((a3[a8.toNat]?).bind fun x2=>(if (decide ((x2.length:Int)>(0:Int)))=true then ((zcD O a6 x2).bind fun r3=>(if 0<=a8∧a8<(a3.length:Int) then ((a3[a8.toNat]?).bind fun x4=>(if (!r3.1.2.1)=true then ((some (.inr (([],false,()),()))).map .inr) else (some (.inl (a0,a1,(a2.1,()),(a3.set a8.toNat r3.1.1),a4,a5,a6,a7,a8,()))))) else none)) else (some (.inl (a0,a1,(a2.1,()),a3,a4,a5,a6,a7,a8,()))))) else none):Option ((Yb×Yb×Yg×Yj×Int×Yb×Yj×Int×Int×Unit)⊕((Yb×Yb×Yg×Yj×Int×Yb×Unit)⊕(Yk)))).bind (Sum.elim (fun q1=>(zO O q1.1 q1.2.1 (q1.2.2.1.1,()) q1.2.2.2.1 q1.2.2.2.2.1 q1.2.2.2.2.2.1 q1.2.2.2.2.2.2.1 q1.2.2.2.2.2.2.2.1 (i64.wrap (q1.2.2.2.2.2.2.2.2.1+1)))) (fun r=>some r))) else (some (.inl (a0,a1,(a2.1,()),a3,a4,a5,()))))
theorem zeX:tM9 zO zcb:=eM9
def zo5 (a0:Yg) (a1 a2:Yb):Option Yk:=
  (if 0<=(12:Int)∧((24:Nat):Int)*(12:Int)<=140737488355328∧(12:Int)=(12:Int) then ((zbh O a1 a2 (a0.1,()) (List.replicate (Int.toNat (12:Int)) ([]:Yb))).bind (Sum.elim (fun y1=>none) (fun r2=>(some r2)))) else none)
theorem zz3:tM3 zgy zo5:=eM3
def zhv (a0:Yj) (a1:Ye) (a2:List YJ) (a3 a4:Int):Option ((Ye×(List YJ)×Unit)⊕YG):=
  (if (decide (a4<a3))=true then (if 0<=a4∧a4<(a2.length:Int) then ((seeO a2 a4.toNat).bind fun x1=>((zcD O a0 x1).bind fun r2=>(if 0<=a4∧a4<(a2.length:Int) then ((a2[a4.toNat]?).bind fun x3=>(if (!r2.1.2.1)=true then (some (.inr (([],false,()),()))) else (zfk O a0 a1 (a2.set a4.toNat (some (true,r2.1.1):YJ)) a3 (i64.wrap (a4+1))))) else none))) else none) else (some (.inl (a1,a2,()))))
theorem zpH:tM5 zfk zhv:=eM5
def zoj (a0:Yj) (a1:Ye):Option YG:=
  ((zbO O a1).bind fun r1=>((zfk O a0 a1 (List.map (fun x=>(some (false,x):YJ)) r1.1.1) (r1.1.1.length:Int) (0:Int)).bind (Sum.elim (fun y2=>(if allOw y2.2.1=true then ((zdG O y2.1 (forceL y2.2.1)).bind fun r4=>(some ((r4.1.1,true,()),()))) else none)) (fun r3=>(some r3)))))
theorem zy6:tM2 zdN zoj:=eM2
def zb6 (a0:Yt) (a1:Int) (a2:Yt) (a3 a4:Int):Option ((Yt×Int×Unit)⊕Yp):=
  (if (decide (a4<a3))=true then ((idx a2 a4).bind fun x1=>(if (decide ((i64.wrap (a1+(x1.length:Int)))<(0:Int)))=true then none else (zbn O a0 (i64.wrap (a1+(x1.length:Int))) a2 a3 (i64.wrap (a4+1))))) else (some (.inl (a0,a1,()))))
theorem zhc:tM5 zbn zb6:=eM5
def zbV (a0:Ye) (a1:Yt) (a2 a3:Int):Option (YN⊕Yp):=
  (if (decide (a3<a2))=true then ((idx a1 a3).bind fun x1=>(if (List.length a0+List.length x1)*56<=140737488355328 then (zbf O (a0++x1) a1 a2 (i64.wrap (a3+1))) else none)) else (some (.inl (a0,()))))
theorem zgH:tM4 zbf zbV:=eM4
def zeN (a0:Yt):Option Yp:=
  ((zbn O a0 (0:Int) a0 (a0.length:Int) (0:Int)).bind (Sum.elim (fun y1=>(if 0<=y1.2.1∧((56:Nat):Int)*y1.2.1<=140737488355328 then ((zbf O ([]:Ye) y1.1 (y1.1.length:Int) (0:Int)).bind (Sum.elim (fun y3=>(some ((y3.1,()),()))) (fun r4=>(some r4)))) else none)) (fun r2=>(some r2))))
theorem zpL:tM1 zbK zeN:=eM1
def zsx (a0:Ye) (a1:Bool):Option Yr:=
  (if (!a1)=true then ((zdT O a0).bind fun r1=>(some ((r1.1.1,(5:Int),()),()))) else ((zdT O a0).bind fun r2=>(some ((r2.1.1,(0:Int),()),()))))
theorem zCx:tM2 zbu zsx:=eM2
def znk (a0 a1:Yb):Option Yh:=
  ((zL O a0 a1).bind fun r1=>(if r1.1.1=true then (some (((0:Int),()),())) else ((ze6 O a0 a1).bind fun r2=>(if r2.1.1=true then (some (((1:Int),()),())) else ((ze6 O a1 a0).bind fun r3=>(if r3.1.1=true then (some (((-1:Int),()),())) else (some (((2:Int),()),()))))))))
theorem zx7:tM2 zjX znk:=eM2
def zsD (a0 a1:Yb):Option Yd:=
  ((zjX O a0 a1).bind fun r1=>(some (((decide (r1.1.1<=0)),()),())))
theorem zCo:tM2 zfm zsD:=eM2
def zil (O:Oracle E1) (a0:Yj) (a1 a2:Int):Option Ym:=
  (if 0<=a1∧a2=a1+1∧a2<=(a0.length:Int) then some ((a0.take a1.toNat++a0.drop a2.toNat,()),()) else none)
theorem zt3:tM3 zeR zil:=eM3
def zok (a0 a1:Yb):Option Yd:=
  ((ze6 O a0 a1).bind fun r1=>(some ((r1.1.1,()),())))
theorem zy5:tM2 zk4 zok:=eM2
def z7 (a0:Yj) (a1:Yg) (a2 a3:Int):Option YC:=
  (if (decide (a3<a2))=true then ((idx a0 a3).bind fun x1=>((zk4 O x1 a1.1).bind fun r2=>(if r2.1.1=true then (some (.inr ((a3,()),()))) else (zad O a0 a1 a2 (i64.wrap (a3+1)))))) else (some (.inl ())))
theorem zbB:tM4 zad z7:=eM4
def za3 (a0:Yj) (a1:Yg):Option Yh:=
  ((zad O a0 a1 (a0.length:Int) (0:Int)).bind (Sum.elim (fun y1=>(some (((-1:Int),()),()))) (fun r2=>(some r2))))
theorem zdX:tM2 zb2 za3:=eM2
def zbI (a0:Yj) (a1:Yg):Option Yd:=
  ((zb2 O a0 a1).bind fun r1=>(some (((decide (r1.1.1>=0)),()),())))
theorem ziV:tM2 zaN zbI:=eM2
def zi1 (a0 a1:Yj) (a2 a3:Int):Option (YL⊕Yd):=
  (if (decide (a3<a2))=true then ((idx a1 a3).bind fun x1=>((zaN O a0 (x1,())).bind fun r2=>(if (!r2.1.1)=true then (some (.inr ((false,()),()))) else (zgV O a0 a1 a2 (i64.wrap (a3+1)))))) else (some (.inl (a0,()))))
theorem zq6:tM4 zgV zi1:=eM4
def zqp (a0 a1:Yj):Option Yd:=
  ((zgV O a0 a1 (a1.length:Int) (0:Int)).bind (Sum.elim (fun y1=>(some (((decide ((y1.1.length:Int)>(0:Int))),()),()))) (fun r2=>(some r2))))
theorem zAZ:tM2 ze2 zqp:=eM2
def zlT (a0 a1:Yb):Option Yd:=
  ((zL O a1 a0).bind fun r1=>(some ((r1.1.1,()),())))
theorem zwX:tM2 zhV zlT:=eM2
def zQ (a0:Yj) (a1:Yg) (a2 a3:Int):Option YC:=
  (if (decide (a3<a2))=true then ((idx a0 a3).bind fun x1=>((zhV O x1 a1.1).bind fun r2=>(if r2.1.1=true then (some (.inr ((a3,()),()))) else (zi O a0 a1 a2 (i64.wrap (a3+1)))))) else (some (.inl ())))
theorem zbo:tM4 zi zQ:=eM4
def zaM (a0:Yj) (a1:Yg):Option Yh:=
  ((zi O a0 a1 (a0.length:Int) (0:Int)).bind (Sum.elim (fun y1=>(some (((-1:Int),()),()))) (fun r2=>(some r2))))
theorem zdq:tM2 zaa zaM:=eM2
def zdP (a0 a1 a2:Yj) (a3 a4:Int):Option ((Yj×Yj×Unit)⊕Yh):=
  (if (decide (a4<a3))=true then ((((idx a2 a4).bind fun x2=>((zaa O a1 (x2,())).bind fun r3=>(if (decide (r3.1.1>=0))=true then ((zeR O a1 r3.1.1 (i64.wrap (r3.1.1+1))).bind fun r4=>(some (.inl (a0,r4.1.1,a2,a3,a4,())))) else (if (List.length a0+List.length ([x2]:Yj))*24<=140737488355328 then (some (.inl ((a0++([x2]:Yj)),a1,a2,a3,a4,()))) else none)))):Option ((Yj×Yj×Yj×Int×Int×Unit)⊕((Yj×Yj×Unit)⊕(Yh)))).bind (Sum.elim (fun q1=>(zd9 O q1.1 q1.2.1 q1.2.2.1 q1.2.2.2.1 (i64.wrap (q1.2.2.2.2.1+1)))) (fun r=>some r))) else (some (.inl (a0,a1,()))))
theorem zjs:tM5 zd9 zdP:=eM5
def znl (a0 a1:Yj):Option Yh:=
  (if List.length a1*24<=140737488355328 then ((zd9 O [] a1 a0 (a0.length:Int) (0:Int)).bind (Sum.elim (fun y1=>(if ((y1.1.length:Int)==(0:Int))=true then (if ((y1.2.1.length:Int)==(0:Int))=true then (some (((0:Int),()),())) else ((ze2 O y1.1 y1.2.1).bind fun r3=>(if r3.1.1=true then (some (((1:Int),()),())) else ((ze2 O y1.2.1 y1.1).bind fun r4=>(if r4.1.1=true then (some (((-1:Int),()),())) else (some (((2:Int),()),()))))))) else ((ze2 O y1.1 y1.2.1).bind fun r5=>(if r5.1.1=true then (some (((1:Int),()),())) else ((ze2 O y1.2.1 y1.1).bind fun r6=>(if r6.1.1=true then (some (((-1:Int),()),())) else (some (((2:Int),()),())))))))) (fun r2=>(some r2)))) else none)
theorem zx3:tM2 zjY znl:=eM2
def zoW (O:Oracle E1) (a0:Ya):Option Ym:=
  (if a0.1=true then (some ((([a0.2.1,a0.2.2.1]:Yj),()),())) else (some ((([a0.2.1,a0.2.2.1,a0.2.1,a0.2.2.1]:Yj),()),())))
theorem zzJ:tM1 ziu zoW:=eM1
def zn1 (a0 a1:Ya):Option Yh:=
  ((ziu O (a0.1,a0.2.1,a0.2.2.1,())).bind fun r1=>((ziu O (a1.1,a1.2.1,a1.2.2.1,())).bind fun r2=>((zjY O r1.1.1 r2.1.1).bind fun r3=>(some ((r3.1.1,()),())))))
theorem zyV:tM2 zkA zn1:=eM2
def zgm (a0:Ye) (a1:Int) (a2:Ye) (a3 a4:Int):Option Yy:=
  (if (decide (a4<a3))=true then ((idx a2 a4).bind fun x1=>(if (a4 !=a1)=true then ((idx a0 a1).bind fun x2=>((zkA O (x1.1,x1.2.1,x1.2.2.1,()) (x2.1,x2.2.1,x2.2.2.1,())).bind fun r3=>(if (r3.1.1==1)=true then (some (.inr ((false,()),()))) else (zeF O a0 a1 a2 a3 (i64.wrap (a4+1)))))) else (zeF O a0 a1 a2 a3 (i64.wrap (a4+1))))) else (some (.inl ())))
theorem zmG:tM5 zeF zgm:=eM5
def zme (a0:Ye) (a1:Int):Option Yd:=
  ((zeF O a0 a1 a0 (a0.length:Int) (0:Int)).bind (Sum.elim (fun y1=>(some ((true,()),()))) (fun r2=>(some r2))))
theorem zvz:tM2 zcT zme:=eM2
def zah (a0:Yg) (a1 a2:Ye) (a3:Yf):Option Yr:=
  ((zdW O a1 a3.1 true).bind fun r1=>(if (!r1.1.1)=true then (some (([],(1:Int),()),())) else ((zim O a3.2.1).bind fun r2=>(if (!r2.1.1)=true then (some (([],(1:Int),()),())) else (if (decide (a3.2.2.1<0))=true then (some (([],(1:Int),()),())) else (if (decide (a3.2.2.1>=(a2.length:Int)))=true then (some (([],(1:Int),()),())) else ((zim O a3.2.2.2.1).bind fun r3=>(if (!r3.1.1)=true then (some (([],(1:Int),()),())) else ((idx a2 a3.2.2.1).bind fun x4=>((zaE O (x4.1,x4.2.1,x4.2.2.1,()) a3.2.2.2.1).bind fun r5=>(if (decide (a3.2.2.2.2.1<0))=true then (some (([],(1:Int),()),())) else (if (decide (a3.2.2.2.2.1>=(r5.1.1.length:Int)))=true then (some (([],(1:Int),()),())) else ((idx r5.1.1 a3.2.2.2.2.1).bind fun x6=>(if (decide (x6<0))=true then (some (([],(1:Int),()),())) else ((zlr O (a0.1,()) a1 a2).bind fun r7=>(if (!r7.1.2.1)=true then (some (([],(2:Int),()),())) else ((idx a1 a3.1).bind fun x8=>((zaE O (x8.1,x8.2.1,x8.2.2.1,()) a3.2.1).bind fun r9=>((idx r7.1.1 a3.2.2.1).bind fun x10=>((zaE O (x10.1,x10.2.1,x10.2.2.1,()) a3.2.2.2.1).bind fun r11=>((zbd O (a0.1,()) r11.1.1 a3.2.2.2.2.1).bind fun r12=>((zgy O (a0.1,()) r9.1.1 r12.1.1).bind fun r13=>(if (!r13.1.2.1)=true then (some (([],(3:Int),()),())) else ((zdN O r13.1.1 a1).bind fun r14=>((zdN O r13.1.1 r7.1.1).bind fun r15=>((zgR O (a0.1,()) r11.1.1 a3.2.2.2.2.1 r9.1.2.1).bind fun r16=>((zcD O r13.1.1 r16.1.1).bind fun r17=>(if (!r14.1.2.1)=true then (some (([],(4:Int),()),())) else (if (!r15.1.2.1)=true then (some (([],(4:Int),()),())) else (if (!r17.1.2.1)=true then (some (([],(4:Int),()),())) else (if (decide ((i64.wrap ((i64.wrap ((a1.length:Int)+(r7.1.1.length:Int)))-(1:Int)))>(8:Int)))=true then (some (([],(4:Int),()),())) else (if 0<=(0:Int)∧(0:Int)<=a3.1∧a3.1<=(r14.1.1.length:Int) then (if 0<=(i64.wrap (a3.1+1))∧(i64.wrap (a3.1+1))<=(r14.1.1.length:Int)∧(r14.1.1.length:Int)<=(r14.1.1.length:Int) then ((zbK O ([((r14.1.1.take a3.1.toNat).drop (Int.toNat (0:Int))),((r14.1.1.take (Int.toNat (r14.1.1.length:Int))).drop (Int.toNat (i64.wrap (a3.1+1)))),r15.1.1]:Yt)).bind fun r18=>(((if (a3.2.2.2.1==0)=true then (if 0<=(i64.wrap ((i64.wrap ((r14.1.1.length:Int)-(1:Int)))+a3.2.2.1))∧(i64.wrap ((i64.wrap ((r14.1.1.length:Int)-(1:Int)))+a3.2.2.1))<(r18.1.1.length:Int) then ((r18.1.1[(Int.toNat (i64.wrap ((i64.wrap ((r14.1.1.length:Int)-(1:Int)))+a3.2.2.1)))]?).bind fun x20=>(some (.inl ((a3.1,a3.2.1,a3.2.2.1,a3.2.2.2.1,a3.2.2.2.2.1,()),r14.1.1,r15.1.1,(r18.1.1.set (Int.toNat (i64.wrap ((i64.wrap ((r14.1.1.length:Int)-(1:Int)))+a3.2.2.1))) (x20.1,r17.1.1,x20.2.2.1,())),())))) else none) else (if 0<=(i64.wrap ((i64.wrap ((r14.1.1.length:Int)-(1:Int)))+a3.2.2.1))∧(i64.wrap ((i64.wrap ((r14.1.1.length:Int)-(1:Int)))+a3.2.2.1))<(r18.1.1.length:Int) then ((r18.1.1[(Int.toNat (i64.wrap ((i64.wrap ((r14.1.1.length:Int)-(1:Int)))+a3.2.2.1)))]?).bind fun x21=>(some (.inl ((a3.1,a3.2.1,a3.2.2.1,a3.2.2.2.1,a3.2.2.2.2.1,()),r14.1.1,r15.1.1,(r18.1.1.set (Int.toNat (i64.wrap ((i64.wrap ((r14.1.1.length:Int)-(1:Int)))+a3.2.2.1))) (x21.1,x21.2.1,r17.1.1,())),())))) else none)):Option ((Yf×Ye×Ye×Ye×Unit)⊕(Ye×Int×Unit)×(Unit))).bind (Sum.elim (fun q19=>((idx q19.2.1 q19.1.1).bind fun x22=>((zaE O (x22.1,x22.2.1,x22.2.2.1,()) q19.1.2.1).bind fun r23=>((idx q19.2.2.1 q19.1.2.2.1).bind fun x24=>((zaE O (x24.1,x24.2.1,x24.2.2.1,()) q19.1.2.2.2.1).bind fun r25=>((zfm O r23.1.1 r23.1.2.1).bind fun r26=>(if (!r26.1.1)=true then ((zfm O r25.1.1 r25.1.2.1).bind fun r27=>(if (!r27.1.1)=true then ((zcT O q19.2.1 q19.1.1).bind fun r28=>(if r28.1.1=true then ((zcT O q19.2.2.1 q19.1.2.2.1).bind fun r29=>((zbu O q19.2.2.2.1 r29.1.1).bind fun r30=>(some ((r30.1.1,r30.1.2.1,()),())))) else ((zbu O q19.2.2.2.1 false).bind fun r31=>(some ((r31.1.1,r31.1.2.1,()),()))))) else ((zbu O q19.2.2.2.1 false).bind fun r32=>(some ((r32.1.1,r32.1.2.1,()),()))))) else ((zbu O q19.2.2.2.1 false).bind fun r33=>(some ((r33.1.1,r33.1.2.1,()),())))))))))) (fun r=>some r)))) else none) else none))))))))))))))))))))))))))))))))
theorem zaJ:tM4 zbY zah:=eM4
def zdh (a0:Yg) (a1:Ye) (a2:Int):Option Yr:=
  ((zdW O a1 a2 false).bind fun r1=>(if (!r1.1.1)=true then (some (([],(1:Int),()),())) else ((idx a1 a2).bind fun x2=>((idx a1 a2).bind fun x3=>((zgy O (a0.1,()) x2.2.1 x3.2.2.1).bind fun r4=>(if (!r4.1.2.1)=true then (some (([],(3:Int),()),())) else ((zdN O r4.1.1 a1).bind fun r5=>(if (!r5.1.2.1)=true then (some (([],(4:Int),()),())) else (if 0<=(0:Int)∧(0:Int)<=a2∧a2<=(r5.1.1.length:Int) then (if 0<=(i64.wrap (a2+1))∧(i64.wrap (a2+1))<=(r5.1.1.length:Int)∧(r5.1.1.length:Int)<=(r5.1.1.length:Int) then ((zbK O ([((r5.1.1.take a2.toNat).drop (Int.toNat (0:Int))),((r5.1.1.take (Int.toNat (r5.1.1.length:Int))).drop (Int.toNat (i64.wrap (a2+1))))]:Yt)).bind fun r6=>((zcT O r5.1.1 a2).bind fun r7=>((zbu O r6.1.1 r7.1.1).bind fun r8=>(some ((r8.1.1,r8.1.2.1,()),()))))) else none) else none)))))))))
theorem zgM:tM3 zeD zdh:=eM3
def zcI (a0:Yg) (a1:Ye) (a2:Yf):Option Yr:=
  ((zdW O a1 a2.1 true).bind fun r1=>(if (!r1.1.1)=true then (some (([],(1:Int),()),())) else ((zdW O a1 a2.2.2.1 true).bind fun r2=>(if (!r2.1.1)=true then (some (([],(1:Int),()),())) else (if (a2.1==a2.2.2.1)=true then (some (([],(1:Int),()),())) else ((zim O a2.2.1).bind fun r3=>(if (!r3.1.1)=true then (some (([],(1:Int),()),())) else ((zim O a2.2.2.2.1).bind fun r4=>(if (!r4.1.1)=true then (some (([],(1:Int),()),())) else (if (a2.2.2.2.2.1 !=0)=true then (some (([],(1:Int),()),())) else ((idx a1 a2.1).bind fun x5=>((zaE O (x5.1,x5.2.1,x5.2.2.1,()) a2.2.1).bind fun r6=>((idx a1 a2.2.2.1).bind fun x7=>((zaE O (x7.1,x7.2.1,x7.2.2.1,()) a2.2.2.2.1).bind fun r8=>((zgy O (a0.1,()) r6.1.1 r8.1.1).bind fun r9=>(if (!r9.1.2.1)=true then (some (([],(3:Int),()),())) else ((zdN O r9.1.1 a1).bind fun r10=>(if (!r10.1.2.1)=true then (some (([],(4:Int),()),())) else ((idx r10.1.1 a2.1).bind fun x11=>((zaE O (x11.1,x11.2.1,x11.2.2.1,()) a2.2.1).bind fun r12=>((idx r10.1.1 a2.2.2.1).bind fun x13=>((zaE O (x13.1,x13.2.1,x13.2.2.1,()) a2.2.2.2.1).bind fun r14=>(if List.length r10.1.1*56<=140737488355328 then (if 0<=a2.1∧a2.1<(r10.1.1.length:Int) then ((r10.1.1[a2.1.toNat]?).bind fun x15=>((zfm O r12.1.1 r12.1.2.1).bind fun r16=>(if (!r16.1.1)=true then ((zcT O r10.1.1 a2.1).bind fun r17=>((zbu O (r10.1.1.set a2.1.toNat (false,r12.1.2.1,r14.1.2.1,())) r17.1.1).bind fun r18=>(some ((r18.1.1,r18.1.2.1,()),())))) else ((zbu O (r10.1.1.set a2.1.toNat (false,r12.1.2.1,r14.1.2.1,())) false).bind fun r19=>(some ((r19.1.1,r19.1.2.1,()),())))))) else none) else none)))))))))))))))))))))))
theorem zfy:tM3 zfn zcI:=eM3
def zfL (a0:Yg) (a1:Yb) (a2:Yq×Yb×Unit) (a3:Ye) (a4:Int):Option ((Yg×(Yq×Yb×Unit)×Ye×Unit)⊕YG):=
  (if (decide (a4<(a1.length:Int)))=true then ((zI O a4 a2.1 a2.2.1).bind fun r1=>((zmN O r1.1.1).bind fun r2=>(if (!r2.1.1)=true then (some (.inr (([],false,()),()))) else ((zI O a4 a2.1 a2.2.1).bind fun r3=>((idx r3.1.1 (0:Int)).bind fun x4=>(if (List.length a3+List.length ([(x4.1,x4.2.1,x4.2.2.1,())]:Ye))*56<=140737488355328 then (zdB O (a0.1,()) a1 a2 (a3++([(x4.1,x4.2.1,x4.2.2.1,())]:Ye)) (i64.wrap (a4+1))) else none)))))) else (some (.inl ((a0.1,()),a2,a3,()))))
theorem znA:tM5 zdB zfL:=eM5
def zH (a0:Yg) (a1:Yt) (a2:Yq) (a3:Int) (a4 a5:Yb):Option YG:=
  (((if (a3==1)=true then ((((zdQ O (0:Int) (1:Int) (a4,a5,()).1 (a4,a5,()).2.1).bind fun r3=>(if r3.1.1=true then ((idx a5 (0:Int)).bind fun x4=>(if (decide (x4>=0))=true then ((idx a5 (0:Int)).bind fun x5=>(some (.inl (a1,a5,(decide (x5<(a1.length:Int))),())))) else (some (.inl (a1,a5,false,()))))) else (some (.inl (a1,a5,false,()))))):Option ((Yt×Yb×Bool×Unit)⊕(Unit⊕Yn×(Unit)))).bind (Sum.elim (fun q2=>(if q2.2.2.1=true then ((idx q2.2.1 (0:Int)).bind fun x6=>((idx q2.1 x6).bind fun x7=>((zdT O x7).bind fun r8=>((some ((r8.1.1,true,()),())).map .inr)))) else (some (.inl ())))) (fun r=>some r))) else (if (a3==2)=true then ((zdQ O (2:Int) (5:Int) (a4,a5,()).1 (a4,a5,()).2.1).bind fun r9=>(if r9.1.1=true then ((zI O (0:Int) (a2,a4,()).1 (a2,a4,()).2.1).bind fun r10=>((zI O (1:Int) (a2,a4,()).1 (a2,a4,()).2.1).bind fun r11=>((idx a5 (0:Int)).bind fun x12=>((idx a5 (1:Int)).bind fun x13=>((idx a5 (2:Int)).bind fun x14=>((idx a5 (3:Int)).bind fun x15=>((idx a5 (4:Int)).bind fun x16=>((zbY O (a0.1,()) r10.1.1 r11.1.1 (x12,x13,x14,x15,x16,())).bind fun r17=>((zh5 O r17.1.1 r17.1.2.1).bind fun r18=>((some ((r18.1.1,r18.1.2.1,()),())).map .inr)))))))))) else (some (.inl ())))) else (if (a3==3)=true then ((zdQ O (1:Int) (1:Int) (a4,a5,()).1 (a4,a5,()).2.1).bind fun r19=>(if r19.1.1=true then ((zI O (0:Int) (a2,a4,()).1 (a2,a4,()).2.1).bind fun r20=>((idx a5 (0:Int)).bind fun x21=>((zeD O (a0.1,()) r20.1.1 x21).bind fun r22=>((zh5 O r22.1.1 r22.1.2.1).bind fun r23=>((some ((r23.1.1,r23.1.2.1,()),())).map .inr))))) else (some (.inl ())))) else (if (a3==4)=true then ((zdQ O (1:Int) (4:Int) (a4,a5,()).1 (a4,a5,()).2.1).bind fun r24=>(if r24.1.1=true then ((zI O (0:Int) (a2,a4,()).1 (a2,a4,()).2.1).bind fun r25=>((idx a5 (0:Int)).bind fun x26=>((idx a5 (1:Int)).bind fun x27=>((idx a5 (2:Int)).bind fun x28=>((idx a5 (3:Int)).bind fun x29=>((zfn O (a0.1,()) r25.1.1 (x26,x27,x28,x29,(0:Int),())).bind fun r30=>((zh5 O r30.1.1 r30.1.2.1).bind fun r31=>((some ((r31.1.1,r31.1.2.1,()),())).map .inr)))))))) else (some (.inl ())))) else (if (a3==5)=true then (((if (decide ((a4.length:Int)<(1:Int)))=true then (some (.inl ((a0.1,()),a4,(a2,a4,()),true,()))) else (if (decide ((a4.length:Int)>(11:Int)))=true then (some (.inl ((a0.1,()),a4,(a2,a4,()),true,()))) else (some (.inl ((a0.1,()),a4,(a2,a4,()),(decide ((a5.length:Int)>(0:Int))),()))))):Option ((Yg×Yb×(Yq×Yb×Unit)×Bool×Unit)⊕(Unit⊕Yn×(Unit)))).bind (Sum.elim (fun q32=>(if q32.2.2.2.1=true then ((some (([],false,()),())).map .inr) else ((zdB O (q32.1.1,()) q32.2.1 q32.2.2.1 [] (1:Int)).bind (Sum.elim (fun y33=>((zI O (0:Int) y33.2.1.1 y33.2.1.2.1).bind fun r35=>((zgs O (y33.1.1,()) r35.1.1 y33.2.2.1).bind fun r36=>((some ((r36.1.1,true,()),())).map .inr)))) (fun r34=>((some r34).map .inr)))))) (fun r=>some r))) else (some (.inl ()))))))):Option (Unit⊕Yn×(Unit))).bind (Sum.elim (fun q1=>(some (([],false,()),()))) (fun r=>some r)))
theorem zU:tM6 zmq zH:=eM6
end
end Go.Proofs.YtchkojfhcdcnmaaGreatMd.Ev
