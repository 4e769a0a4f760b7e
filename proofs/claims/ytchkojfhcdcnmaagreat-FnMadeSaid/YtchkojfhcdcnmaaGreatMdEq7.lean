/- A text of its own: Eq7; no condition but those that each theorem names. -/
import Derived.Test.YtchkojfhcdcnmaaGreatMdNm
import Derived.KernelRfl
namespace Go.Proofs.YtchkojfhcdcnmaaGreatMd.Ev
open Go Go.IntKind
set_option maxRecDepth 100000
set_option autoImplicit false
set_option linter.unusedVariables false
noncomputable section
variable (O : Oracle E1)
def zqb (O:Oracle E1) (a0:Ye) (a1:Yj):Option Yp:=
  (if a0.length<=1000000∧2*a0.length<=a1.length then some ((wtZ a0 a1,()),()) else none)
theorem zAW:tM2 zdG zqb:=eM2
def zky (a0:List (Int×Int)) (a1 a2:Yj) (a3 a4:Int):Option (YL⊕Ym):=
  (if (decide (a4<a3))=true then ((idx a2 a4).bind fun x1=>(if List.length x1*8<=140737488355328 then (if 0<=a4∧a4<(a1.length:Int) then ((a1[a4.toNat]?).bind fun x2=>((zgW O a0 (a1.set a4.toNat x1) a4 a2 a3 a4 x1 (x1.length:Int) (0:Int)).bind (Sum.elim (fun y3=>(ziw O y3.1 y3.2.1 y3.2.2.1 y3.2.2.2.1 (i64.wrap (y3.2.2.2.2.1+1)))) (fun r4=>(some (.inr r4)))))) else none) else none)) else (some (.inl (a1,()))))
theorem ztA:tM5 ziw zky:=eM5
def zi4 (a0:List (Int×Int)) (a1:Yj) (a2:Int) (a3:Yj) (a4 a5:Int) (a6:Yb) (a7 a8:Int):Option (((List (Int×Int))×Yj×Yj×Int×Int×Unit)⊕Ym):=
  (if (decide (a8<a7))=true then ((((idx a6 a8).bind fun x2=>(if (decide (x2>=0))=true then (some (.inl (a0,a1,a2,a3,a4,a5,a6,a7,a8,()))) else (((if (!(mhas a0 x2))=true then (some (.inl ((mput a0 x2 (i64.wrap ((-1:Int)-(a0.length:Int)))),a1,a2,a8,x2,a3,a4,a5,a6,a7,a8,()))) else (some (.inl (a0,a1,a2,a8,x2,a3,a4,a5,a6,a7,a8,())))):Option (((List (Int×Int))×Yj×Int×Int×Int×Yj×Int×Int×Yb×Int×Int×Unit)⊕(((List (Int×Int))×Yj×Int×Yj×Int×Int×Yb×Int×Int×Unit)⊕(((List (Int×Int))×Yj×Yj×Int×Int×Unit)⊕(Ym))))).bind (Sum.elim (fun q3=>(if 0<=q3.2.2.1∧q3.2.2.1<(q3.2.1.length:Int) then ((q3.2.1[q3.2.2.1.toNat]?).bind fun x4=>(if 0<=q3.2.2.2.1∧q3.2.2.2.1<(x4.length:Int) then ((x4[q3.2.2.2.1.toNat]?).bind fun x5=>(some (.inl (q3.1,(q3.2.1.set q3.2.2.1.toNat (x4.set q3.2.2.2.1.toNat (mget q3.1 q3.2.2.2.2.1 (0:Int)))),q3.2.2.1,q3.2.2.2.2.2.1,q3.2.2.2.2.2.2.1,q3.2.2.2.2.2.2.2.1,q3.2.2.2.2.2.2.2.2.1,q3.2.2.2.2.2.2.2.2.2.1,q3.2.2.2.2.2.2.2.2.2.2.1,())))) else none)) else none)) (fun r=>some r))))):Option (((List (Int×Int))×Yj×Int×Yj×Int×Int×Yb×Int×Int×Unit)⊕(((List (Int×Int))×Yj×Yj×Int×Int×Unit)⊕(Ym)))).bind (Sum.elim (fun q1=>(zgW O q1.1 q1.2.1 q1.2.2.1 q1.2.2.2.1 q1.2.2.2.2.1 q1.2.2.2.2.2.1 q1.2.2.2.2.2.2.1 q1.2.2.2.2.2.2.2.1 (i64.wrap (q1.2.2.2.2.2.2.2.2.1+1)))) (fun r=>some r))) else (some (.inl (a0,a1,a3,a4,a5,()))))
theorem zqU:tM9 zgW zi4:=eM9
def zub (a0:Yj):Option Ym:=
  (if 0<=(a0.length:Int)∧((24:Nat):Int)*(a0.length:Int)<=140737488355328∧(a0.length:Int)=(a0.length:Int) then ((ziw O ([]:List (Int×Int)) (List.replicate (Int.toNat (a0.length:Int)) ([]:Yb)) a0 (a0.length:Int) (0:Int)).bind (Sum.elim (fun y1=>(some ((y1.1,()),()))) (fun r2=>(some r2)))) else none)
theorem zDq:tM1 zpN zub:=eM1
def znp (a0:Ye):Option Yp:=
  ((zbO O a0).bind fun r1=>((zpN O r1.1.1).bind fun r2=>((zdG O a0 r2.1.1).bind fun r3=>(some ((r3.1.1,()),())))))
theorem zx9:tM1 zjU znp:=eM1
def zsA (O:Oracle E1) (a0:Ya):Option ((Ya×Unit)×(Unit)):=
  (if List.length a0.2.1*8<=140737488355328 then (if List.length a0.2.2.1*8<=140737488355328 then (some (((a0.1,a0.2.1,a0.2.2.1,()),()),())) else none) else none)
theorem zB1:tM1 zl5 zsA:=eM1
def ztT (a0 a1:Ya):Option Yd:=
  (if (a1.1==a0.1)=true then ((zjv O (a1.1,a1.2.1,a1.2.2.1,()) (a0.1,a0.2.1,a0.2.2.1,())).bind fun r1=>(some ((r1.1.1,()),()))) else (some ((false,()),())))
theorem zDt:tM2 zp4 ztT:=eM2
def zV (a0:Ye) (a1:Ya×Unit) (a2 a3:Int):Option YC:=
  (if (decide (a3<a2))=true then ((idx a0 a3).bind fun x1=>((zp4 O (x1.1,x1.2.1,x1.2.2.1,()) a1.1).bind fun r2=>(if r2.1.1=true then (some (.inr ((a3,()),()))) else (zY O a0 a1 a2 (i64.wrap (a3+1)))))) else (some (.inl ())))
theorem zbr:tM4 zY zV:=eM4
def zaU (a0:Ye) (a1:Ya×Unit):Option Yh:=
  ((zY O a0 a1 (a0.length:Int) (0:Int)).bind (Sum.elim (fun y1=>(some (((-1:Int),()),()))) (fun r2=>(some r2))))
theorem zdy:tM2 zbP zaU:=eM2
def zbx (a0:Ye) (a1:Ya×Unit):Option Yd:=
  ((zbP O a0 a1).bind fun r1=>(some (((decide (r1.1.1>=0)),()),())))
theorem zij:tM2 zX zbx:=eM2
def znw (a0 a1:Ye) (a2 a3:Int):Option (YN⊕Yp):=
  (if (decide (a3<a2))=true then ((((idx a1 a3).bind fun x2=>(if (!x2.1)=true then ((zL O x2.2.1 x2.2.2.1).bind fun r3=>(if r3.1.1=true then (some (.inl (a0,a1,a2,a3,()))) else ((zX O a0 ((x2.1,x2.2.1,x2.2.2.1,()),())).bind fun r4=>(if (!r4.1.1)=true then ((zl5 O ((x2.1,x2.2.1,x2.2.2.1,()).1,(x2.1,x2.2.1,x2.2.2.1,()).2.1,(x2.1,x2.2.1,x2.2.2.1,()).2.2.1,())).bind fun r5=>(if (List.length a0+List.length ([(r5.1.1.1,r5.1.1.2.1,r5.1.1.2.2.1,())]:Ye))*56<=140737488355328 then (some (.inl ((a0++([(r5.1.1.1,r5.1.1.2.1,r5.1.1.2.2.1,())]:Ye)),a1,a2,a3,()))) else none)) else (some (.inl (a0,a1,a2,a3,()))))))) else ((zX O a0 ((x2.1,x2.2.1,x2.2.2.1,()),())).bind fun r6=>(if (!r6.1.1)=true then ((zl5 O ((x2.1,x2.2.1,x2.2.2.1,()).1,(x2.1,x2.2.1,x2.2.2.1,()).2.1,(x2.1,x2.2.1,x2.2.2.1,()).2.2.1,())).bind fun r7=>(if (List.length a0+List.length ([(r7.1.1.1,r7.1.1.2.1,r7.1.1.2.2.1,())]:Ye))*56<=140737488355328 then (some (.inl ((a0++([(r7.1.1.1,r7.1.1.2.1,r7.1.1.2.2.1,())]:Ye)),a1,a2,a3,()))) else none)) else (some (.inl (a0,a1,a2,a3,()))))))):Option ((Ye×Ye×Int×Int×Unit)⊕(YN⊕(Yp)))).bind (Sum.elim (fun q1=>(zg3 O q1.1 q1.2.1 q1.2.2.1 (i64.wrap (q1.2.2.2.1+1)))) (fun r=>some r))) else (some (.inl (a0,()))))
theorem zv9:tM4 zg3 znw:=eM4
def zwA (a0:Ye):Option Yp:=
  ((zg3 O [] a0 (a0.length:Int) (0:Int)).bind (Sum.elim (fun y1=>(some ((y1.1,()),()))) (fun r2=>(some r2))))
theorem zFD:tM1 zsR zwA:=eM1
def zqm (a0:Ye):Option Yp:=
  ((zsR O a0).bind fun r1=>((zjU O r1.1.1).bind fun r2=>(some ((r2.1.1,()),()))))
theorem zAz:tM1 zdT zqm:=eM1
def zqe (a0:Yg) (a1:Yb) (a2:Int):Option Ys:=
  ((zes O (a0.1,()) a1 a2).bind fun r1=>(if 0<=a2∧a2<=r1.1.1∧r1.1.1<=(a1.length:Int) then (if List.length ((a1.take r1.1.1.toNat).drop a2.toNat)*8<=140737488355328 then (some ((((a1.take r1.1.1.toNat).drop a2.toNat),()),())) else none) else none))
theorem zAx:tM3 zbd zqe:=eM3
def zeo (a0:Yj) (a1:Int) (a2:Yj) (a3 a4:Int):Option ((Yj×Int×Unit)⊕Ys):=
  (if (decide (a4<a3))=true then ((idx a2 a4).bind fun x1=>(if (decide ((i64.wrap (a1+(x1.length:Int)))<(0:Int)))=true then none else (zcX O a0 (i64.wrap (a1+(x1.length:Int))) a2 a3 (i64.wrap (a4+1))))) else (some (.inl (a0,a1,()))))
theorem zl8:tM5 zcX zeo:=eM5
def zd4 (a0:Yb) (a1:Yj) (a2 a3:Int):Option (Yg⊕Ys):=
  (if (decide (a3<a2))=true then ((idx a1 a3).bind fun x1=>(if (List.length a0+List.length x1)*8<=140737488355328 then (zcJ O (a0++x1) a1 a2 (i64.wrap (a3+1))) else none)) else (some (.inl (a0,()))))
theorem zlY:tM4 zcJ zd4:=eM4
def zki (a0:Yj):Option Ys:=
  ((zcX O a0 (0:Int) a0 (a0.length:Int) (0:Int)).bind (Sum.elim (fun y1=>(if 0<=y1.2.1∧((8:Nat):Int)*y1.2.1<=140737488355328 then ((zcJ O ([]:Yb) y1.1 (y1.1.length:Int) (0:Int)).bind (Sum.elim (fun y3=>(some ((y3.1,()),()))) (fun r4=>(some r4)))) else none)) (fun r2=>(some r2))))
theorem zvR:tM1 zgA zki:=eM1
def znb (a0:Yg) (a1:Yb) (a2:Int) (a3:Yb):Option Ys:=
  (if 0<=(0:Int)∧(0:Int)<=a2∧a2<=(a1.length:Int) then ((zes O (a0.1,()) a1 a2).bind fun r1=>(if 0<=r1.1.1∧r1.1.1<=(a1.length:Int)∧(a1.length:Int)<=(a1.length:Int) then ((zgA O ([((a1.take a2.toNat).drop (Int.toNat (0:Int))),a3,((a1.take (Int.toNat (a1.length:Int))).drop r1.1.1.toNat)]:Yj)).bind fun r2=>(some ((r2.1.1,()),()))) else none)) else none)
theorem zym:tM4 zgR znb:=eM4
def zmI (a0:Yj) (a1 a2:Yb) (a3 a4:Int):Option (Yg⊕Yv):=
  (if (decide (a4<a3))=true then ((idx a2 a4).bind fun x1=>(((if (decide (x1<0))=true then ((idx a0 (i64.wrap ((-1:Int)-x1))).bind fun x3=>(if (decide ((x3.length:Int)>(0:Int)))=true then ((idx a0 (i64.wrap ((-1:Int)-x1))).bind fun x4=>(if (List.length a1+List.length x4)*8<=140737488355328 then (some (.inl (a0,(a1++x4),a2,a3,a4,()))) else none)) else (if (List.length a1+List.length ([x1]:Yb))*8<=140737488355328 then (some (.inl (a0,(a1++([x1]:Yb)),a2,a3,a4,()))) else none))) else (if (List.length a1+List.length ([x1]:Yb))*8<=140737488355328 then (some (.inl (a0,(a1++([x1]:Yb)),a2,a3,a4,()))) else none)):Option ((Yj×Yb×Yb×Int×Int×Unit)⊕(Yg⊕(Yv)))).bind (Sum.elim (fun q2=>(if (decide ((q2.2.1.length:Int)>(40:Int)))=true then (some (.inr (([],false,()),()))) else (zic O q2.1 q2.2.1 q2.2.2.1 q2.2.2.2.1 (i64.wrap (q2.2.2.2.2.1+1))))) (fun r=>some r)))) else (some (.inl (a1,()))))
theorem zvN:tM5 zic zmI:=eM5
def zu5 (a0:Yj) (a1:Yb):Option Yv:=
  ((zic O a0 [] a1 (a1.length:Int) (0:Int)).bind (Sum.elim (fun y1=>(some ((y1.1,true,()),()))) (fun r2=>(some r2))))
theorem zE6:tM2 zcD zu5:=eM2
def zmy (a0 a1:Int) (a2:Yb) (a3 a4:Int):Option (YA⊕Yh):=
  (if (decide (a4<a3))=true then ((((idx a2 a4).bind fun x2=>(if (x2==a0)=true then (some (.inl (a0,(i64.wrap (a1+1)),a2,a3,a4,()))) else (some (.inl (a0,a1,a2,a3,a4,()))))):Option ((Int×Int×Yb×Int×Int×Unit)⊕(YA⊕(Yh)))).bind (Sum.elim (fun q1=>(zkr O q1.1 q1.2.1 q1.2.2.1 q1.2.2.2.1 (i64.wrap (q1.2.2.2.2.1+1)))) (fun r=>some r))) else (some (.inl (a1,()))))
theorem zu8:tM5 zkr zmy:=eM5
def zvC (a0:Yb) (a1:Int):Option Yh:=
  ((zkr O a1 (0:Int) a0 (a0.length:Int) (0:Int)).bind (Sum.elim (fun y1=>(some ((y1.1,()),()))) (fun r2=>(some r2))))
theorem zEJ:tM2 zot zvC:=eM2
def zhX (a0 a1:Yb) (a2:Int):Option Yy:=
  (if (decide (a2<12))=true then ((zot O a0 (i64.wrap ((-1:Int)-a2))).bind fun r1=>((zot O a1 (i64.wrap ((-1:Int)-a2))).bind fun r2=>(if (decide (r1.1.1<r2.1.1))=true then (some (.inr ((false,()),()))) else (zf9 O a0 a1 (i64.wrap (a2+1)))))) else (some (.inl ())))
theorem zqr:tM3 zf9 zhX:=eM3
def zo6 (a0 a1:Yb):Option Yd:=
  ((zf9 O a0 a1 (0:Int)).bind (Sum.elim (fun y1=>(some ((true,()),()))) (fun r2=>(some r2))))
theorem zzL:tM2 zls zo6:=eM2
def zh1 (a0 a1:Yb) (a2 a3:Int):Option Yy:=
  (if (decide (a3<a2))=true then ((idx a1 a3).bind fun x1=>((idx a0 a3).bind fun x2=>(if (x1 !=x2)=true then (if (decide (x1>=0))=true then ((idx a0 a3).bind fun x3=>(if (decide (x3>=0))=true then ((idx a0 a3).bind fun x4=>(some (.inr (((decide (x1>x4)),()),())))) else (some (.inr ((false,()),()))))) else (some (.inr ((false,()),())))) else (zga O a0 a1 a2 (i64.wrap (a3+1)))))) else (some (.inl ())))
theorem zqC:tM4 zga zh1:=eM4
def zp7 (a0 a1:Yb):Option Yd:=
  (if (decide ((a0.length:Int)<(a1.length:Int)))=true then (some ((false,()),())) else ((zls O a0 a1).bind fun r1=>(if (!r1.1.1)=true then (some ((false,()),())) else (if (decide ((a0.length:Int)>(a1.length:Int)))=true then (some ((true,()),())) else ((zga O a1 a0 (a0.length:Int) (0:Int)).bind (Sum.elim (fun y2=>(some ((false,()),()))) (fun r3=>(some r3))))))))
theorem zAU:tM2 ze6 zp7:=eM2
def zf1 (a0 a1:Yb) (a2 a3:Int):Option (Yg⊕Yv):=
  (if (decide (a3<a2))=true then (if 0<=a3∧a3<(a1.length:Int) then ((a1[a3.toNat]?).bind fun x1=>(if (decide (x1<0))=true then ((zbJ O a0 x1).bind fun r2=>(if (!r2.1.1)=true then (some (.inr (([],false,()),()))) else (zcP O a0 a1 a2 (i64.wrap (a3+1))))) else (zcP O a0 a1 a2 (i64.wrap (a3+1))))) else none) else (some (.inl (a1,()))))
theorem zol:tM4 zcP zf1:=eM4
def zeA (a0:Yg) (a1 a2 a3:Yb):Option Yv:=
  (if 0<=(12:Int)∧((24:Nat):Int)*(12:Int)<=140737488355328∧(12:Int)=(12:Int) then ((zcy O (a0.1,()) (List.replicate (Int.toNat (12:Int)) ([]:Yb)) a2 a1).bind fun r1=>(if (!r1.1.2.1)=true then (some (([],false,()),())) else ((zpd O r1.1.1).bind fun r2=>((zcD O r2.1.1 a3).bind fun r3=>(if (!r3.1.2.1)=true then (some (([],false,()),())) else ((ze6 O a1 r3.1.1).bind fun r4=>(if (!r4.1.1)=true then (some (([],false,()),())) else ((zcP O a1 r3.1.1 (r3.1.1.length:Int) (0:Int)).bind (Sum.elim (fun y5=>(some ((y5.1,true,()),()))) (fun r6=>(some r6))))))))))) else none)
theorem zjT:tM4 zdc zeA:=eM4
def zd1 (a0:Yb) (a1:Ye) (a2:Yg) (a3:Int):Option ((Unit)⊕Yu):=
  (if (decide (a3>=0))=true then ((zbd O (a2.1,()) a0 a3).bind fun r1=>((zcB O a0 a1 (a2.1,()) a3 r1.1.1 a1 (a1.length:Int) (0:Int)).bind (Sum.elim (fun y2=>(zde O y2.1 y2.2.1 (y2.2.2.1.1,()) (i64.wrap (y2.2.2.2.1-1)))) (fun r3=>(some (.inr r3)))))) else (some (.inl ())))
theorem zi0:tM4 zde zd1:=eM4
def zc2 (a0:Yb) (a1:Ye) (a2:Yg) (a3:Int) (a4:Yb) (a5:Ye) (a6 a7:Int):Option ((Yb×Ye×Yg×Int×Unit)⊕Yu):=
  (if (decide (a7<a6))=true then ((idx a5 a7).bind fun x1=>((zb9 O a0 a1 (a2.1,()) a3 a4 a7 (x1.1,x1.2.1,x1.2.2.1,()) a5 a6 a7 (0:Int)).bind (Sum.elim (fun y2=>(zcB O y2.1 y2.2.1 (y2.2.2.1.1,()) y2.2.2.2.1 y2.2.2.2.2.1 y2.2.2.2.2.2.1 y2.2.2.2.2.2.2.1 (i64.wrap (y2.2.2.2.2.2.2.2.1+1)))) (fun r3=>(some (.inr r3)))))) else (some (.inl (a0,a1,(a2.1,()),a3,()))))
theorem zhj:tM8 zcB zc2:=eM8
def zcF (a0:Yb) (a1:Ye) (a2:Yg) (a3:Int) (a4:Yb) (a5:Int) (a6:Ya) (a7:Ye) (a8 a9 a10:Int):Option ((Yb×Ye×Yg×Int×Yb×Ye×Int×Int×Unit)⊕Yu):=
  (if (decide (a10<2))=true then ((zaE O (a6.1,a6.2.1,a6.2.2.1,()) a10).bind fun r1=>((zdc O (a2.1,()) a4 r1.1.1 r1.1.2.1).bind fun r2=>(if r2.1.2.1=true then ((zgR O (a2.1,()) a0 a3 r2.1.1).bind fun r3=>(some (.inr ((r3.1.1,a3,a5,true,()),())))) else (zb9 O a0 a1 (a2.1,()) a3 a4 a5 (a6.1,a6.2.1,a6.2.2.1,()) a7 a8 a9 (i64.wrap (a10+1)))))) else (some (.inl (a0,a1,(a2.1,()),a3,a4,a7,a8,a9,()))))
theorem zfV:tM11 zb9 zcF:=eM11
def zmw (a0:Yg) (a1:Yb) (a2:Ye):Option Yu:=
  ((zde O a1 a2 (a0.1,()) (i64.wrap ((a1.length:Int)-(1:Int)))).bind (Sum.elim (fun y1=>(some (([],(0:Int),(0:Int),false,()),()))) (fun r2=>(some r2))))
theorem zvc:tM3 zjq zmw:=eM3
def zhu (a0:Yb) (a1:Ye) (a2:Yg) (a3:Int):Option ((Unit)⊕((Yb×Int×Unit)×(Unit))):=
  ((zjq O (a2.1,()) a0 a1).bind fun r1=>(if (!r1.1.2.2.2.1)=true then (some (.inr ((a0,a3,()),()))) else (zfg O r1.1.1 a1 (a2.1,()) (i64.wrap (a3+1)))))
theorem zpA:tM4 zfg zhu:=eM4
def znV (a0:Yg) (a1:Yb) (a2:Ye):Option ((Yb×Int×Unit)×(Unit)):=
  (if List.length a1*8<=140737488355328 then ((zfg O a1 a2 (a0.1,()) (0:Int)).bind (Sum.elim (fun y1=>none) (fun r2=>(some r2)))) else none)
theorem zzs:tM3 zfh znV:=eM3
def zdz (a0 a1:Ye) (a2:Yg) (a3:List YJ) (a4 a5 a6:Int):Option ((Ye×(List YJ)×Int×Unit)⊕Yr):=
  (if (decide (a6<a5))=true then (if 0<=a6∧a6<(a3.length:Int) then ((seeO a3 a6.toNat).bind fun x1=>((zfh O (a2.1,()) x1 a1).bind fun r2=>(if 0<=a6∧a6<(a3.length:Int) then ((a3[a6.toNat]?).bind fun x3=>(zcC O a0 a1 (a2.1,()) (a3.set a6.toNat (some (true,r2.1.1):YJ)) (i64.wrap (a4+r2.1.2.1)) a5 (i64.wrap (a6+1)))) else none))) else none) else (some (.inl (a0,a3,a4,()))))
theorem zlg:tM7 zcC zdz:=eM7
def zjy (a0:Yg) (a1 a2:Ye):Option Yr:=
  ((zbO O a1).bind fun r1=>((zcC O a1 a2 (a0.1,()) (List.map (fun x=>(some (false,x):YJ)) r1.1.1) (0:Int) (r1.1.1.length:Int) (0:Int)).bind (Sum.elim (fun y2=>(if allOw y2.2.1=true then ((zdG O y2.1 (forceL y2.2.1)).bind fun r4=>((zdT O r4.1.1).bind fun r5=>(some ((r5.1.1,y2.2.2.1,()),())))) else none)) (fun r3=>(some r3)))))
theorem zvi:tM3 zgs zjy:=eM3
def zn5 (O:Oracle E1) (a0:Int) (a1:Yq) (a2:Yb):Option Yp:=
  ((idx a2 a0).bind fun x1=>((idx a1 x1).bind fun x2=>(some ((x2.2.2.2.1,()),()))))
theorem zy3:tM3 zI zn5:=eM3
def zoe (O:Oracle E1) (a0 a1:Int) (a2 a3:Yb):Option Yd:=
  (if ((a2.length:Int)==a0)=true then (some ((((a3.length:Int)==a1),()),())) else (some ((false,()),())))
theorem zyI:tM4 zdQ zoe:=eM4
def zrA (O:Oracle E1) (a0:Ye) (a1:Int):Option YG:=
  (if (a1==0)=true then (some ((a0,true,()),())) else (some ((a0,(a1==5),()),())))
theorem zBL:tM2 zh5 zrA:=eM2
def zkl (O:Oracle E1) (a0:Ye) (a1:Int) (a2:Bool):Option Yd:=
  (if (decide (a1>=0))=true then (if (decide (a1<(a0.length:Int)))=true then ((idx a0 a1).bind fun x1=>(some (((x1.1==a2),()),()))) else (some ((false,()),()))) else (some ((false,()),())))
theorem zpP:tM3 zdW zkl:=eM3
def ztN (O:Oracle E1) (a0:Int):Option Yd:=
  (if (a0==0)=true then (some ((true,()),())) else (some (((a0==1),()),())))
theorem zDV:tM1 zim ztN:=eM1
end
end Go.Proofs.YtchkojfhcdcnmaaGreatMd.Ev
