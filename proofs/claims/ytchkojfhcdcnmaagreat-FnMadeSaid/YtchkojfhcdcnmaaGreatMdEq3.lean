/- A text of its own: Eq3; no condition but those that each theorem names. -/
import Derived.Test.YtchkojfhcdcnmaaGreatMdNm
import Derived.KernelRfl
namespace Go.Proofs.YtchkojfhcdcnmaaGreatMd.Ev
open Go Go.IntKind
set_option maxRecDepth 100000
set_option autoImplicit false
set_option linter.unusedVariables false
noncomputable section
variable (O : Oracle E1)
def zoa (a0 a1:Ya):Option Yd:=
  ((zaS O a0.2.1 a1.2.1).bind fun r1=>(if r1.1.1=true then ((zaS O a0.2.2.1 a1.2.2.1).bind fun r2=>(if r2.1.1=true then (some ((true,()),())) else ((zaS O a0.2.1 a1.2.2.1).bind fun r3=>(if r3.1.1=true then ((zaS O a0.2.2.1 a1.2.1).bind fun r4=>(some ((r4.1.1,()),()))) else (some ((false,()),())))))) else ((zaS O a0.2.1 a1.2.2.1).bind fun r5=>(if r5.1.1=true then ((zaS O a0.2.2.1 a1.2.1).bind fun r6=>(some ((r6.1.1,()),()))) else (some ((false,()),()))))))
theorem zyW:tM2 zhE zoa:=eM2
def zlF (a0 a1:Ye) (a2 a3:Int):Option (YN⊕Yp):=
  (if (decide (a3<a2))=true then ((((idx a1 a3).bind fun x2=>(if (!x2.1)=true then ((zaS O x2.2.1 x2.2.2.1).bind fun r3=>(if r3.1.1=true then (some (.inl (a0,a1,a2,a3,()))) else ((zcc O a0 (x2.1,x2.2.1,x2.2.2.1,()) false a1 a2 a3 (a0.length:Int) (0:Int)).bind (Sum.elim (fun y4=>(if (!y4.2.2.1)=true then (if (List.length y4.1+List.length ([(y4.2.1.1,y4.2.1.2.1,y4.2.1.2.2.1,())]:Ye))*56<=140737488355328 then (some (.inl ((y4.1++([(y4.2.1.1,y4.2.1.2.1,y4.2.1.2.2.1,())]:Ye)),y4.2.2.2.1,y4.2.2.2.2.1,y4.2.2.2.2.2.1,()))) else none) else (some (.inl (y4.1,y4.2.2.2.1,y4.2.2.2.2.1,y4.2.2.2.2.2.1,()))))) (fun r5=>((some (.inr r5)).map .inr)))))) else ((zcc O a0 (x2.1,x2.2.1,x2.2.2.1,()) false a1 a2 a3 (a0.length:Int) (0:Int)).bind (Sum.elim (fun y6=>(if (!y6.2.2.1)=true then (if (List.length y6.1+List.length ([(y6.2.1.1,y6.2.1.2.1,y6.2.1.2.2.1,())]:Ye))*56<=140737488355328 then (some (.inl ((y6.1++([(y6.2.1.1,y6.2.1.2.1,y6.2.1.2.2.1,())]:Ye)),y6.2.2.2.1,y6.2.2.2.2.1,y6.2.2.2.2.2.1,()))) else none) else (some (.inl (y6.1,y6.2.2.2.1,y6.2.2.2.2.1,y6.2.2.2.2.2.1,()))))) (fun r7=>((some (.inr r7)).map .inr)))))):Option ((Ye×Ye×Int×Int×Unit)⊕(YN⊕(Yp)))).bind (Sum.elim (fun q1=>(ze8 O q1.1 q1.2.1 q1.2.2.1 (i64.wrap (q1.2.2.2.1+1)))) (fun r=>some r))) else (some (.inl (a0,()))))
theorem zuq:tM4 ze8 zlF:=eM4
def zhY (a0:Ye) (a1:Ya) (a2:Bool) (a3:Ye) (a4 a5 a6 a7:Int):Option ((Ye×Ya×Bool×Ye×Int×Int×Unit)⊕Yp):=
  (if (decide (a7<a6))=true then (if 0<=a7∧a7<(a0.length:Int) then ((a0[a7.toNat]?).bind fun x1=>(if a2=true then (zcc O a0 (a1.1,a1.2.1,a1.2.2.1,()) true a3 a4 a5 a6 (i64.wrap (a7+1))) else (if (a1.1==x1.1)=true then ((zhE O (a1.1,a1.2.1,a1.2.2.1,()) (x1.1,x1.2.1,x1.2.2.1,())).bind fun r2=>(zcc O a0 (a1.1,a1.2.1,a1.2.2.1,()) r2.1.1 a3 a4 a5 a6 (i64.wrap (a7+1)))) else (zcc O a0 (a1.1,a1.2.1,a1.2.2.1,()) false a3 a4 a5 a6 (i64.wrap (a7+1)))))) else none) else (some (.inl (a0,(a1.1,a1.2.1,a1.2.2.1,()),a2,a3,a4,a5,()))))
theorem zqB:tM8 zcc zhY:=eM8
def zt1 (a0:Ye):Option Yp:=
  ((ze8 O [] a0 (a0.length:Int) (0:Int)).bind (Sum.elim (fun y1=>((zl2 O y1.1).bind fun r3=>(some ((r3.1.1,()),())))) (fun r2=>(some r2))))
theorem zDE:tM1 zpY zt1:=eM1
def zvE (a0:Ye):Option Yp:=
  ((zpY O a0).bind fun r1=>((zie O r1.1.1).bind fun r2=>(some ((r2.1.1,()),()))))
theorem zEg:tM1 zbE zvE:=eM1
def zkS (a0:Yj) (a1 a2:Yb) (a3 a4:Int):Option (Yg⊕Ys):=
  (if (decide (a4<a3))=true then ((((idx a2 a4).bind fun x2=>(if (decide (x2<0))=true then ((idx a0 (i64.wrap ((-1:Int)-x2))).bind fun x3=>(if (decide ((x3.length:Int)>(0:Int)))=true then ((idx a0 (i64.wrap ((-1:Int)-x2))).bind fun x4=>(if (List.length a1+List.length x4)*8<=140737488355328 then (some (.inl (a0,(a1++x4),a2,a3,a4,()))) else none)) else (if (List.length a1+List.length ([x2]:Yb))*8<=140737488355328 then (some (.inl (a0,(a1++([x2]:Yb)),a2,a3,a4,()))) else none))) else (if (List.length a1+List.length ([x2]:Yb))*8<=140737488355328 then (some (.inl (a0,(a1++([x2]:Yb)),a2,a3,a4,()))) else none))):Option ((Yj×Yb×Yb×Int×Int×Unit)⊕(Yg⊕(Ys)))).bind (Sum.elim (fun q1=>(zgx O q1.1 q1.2.1 q1.2.2.1 q1.2.2.2.1 (i64.wrap (q1.2.2.2.2.1+1)))) (fun r=>some r))) else (some (.inl (a1,()))))
theorem ztm:tM5 zgx zkS:=eM5
def zsM (a0:Yj) (a1:Yb):Option Ys:=
  ((zgx O a0 [] a1 (a1.length:Int) (0:Int)).bind (Sum.elim (fun y1=>(some ((y1.1,()),()))) (fun r2=>(some r2))))
theorem zCw:tM2 zA zsM:=eM2
def zkD (a0:Yj) (a1 a2:Ye) (a3 a4:Int):Option (YN⊕Yp):=
  (if (decide (a4<a3))=true then ((idx a2 a4).bind fun x1=>((zA O a0 x1.2.1).bind fun r2=>((zA O a0 x1.2.2.1).bind fun r3=>(if (List.length a1+List.length ([(x1.1,r2.1.1,r3.1.1,())]:Ye))*56<=140737488355328 then (ziR O a0 (a1++([(x1.1,r2.1.1,r3.1.1,())]:Ye)) a2 a3 (i64.wrap (a4+1))) else none)))) else (some (.inl (a1,()))))
theorem ztC:tM5 ziR zkD:=eM5
def zsB (a0:Yj) (a1:Ye):Option Yp:=
  ((ziR O a0 [] a1 (a1.length:Int) (0:Int)).bind (Sum.elim (fun y1=>(some ((y1.1,()),()))) (fun r2=>(some r2))))
theorem zCO:tM2 zfp zsB:=eM2
def zvP (a0:Ye) (a1 a2:Int):Option Yd:=
  ((z6 O a1 (0:Int) (i64.wrap ((a0.length:Int)-(1:Int)))).bind fun r1=>(if r1.1.1=true then ((z6 O a2 (0:Int) (1:Int)).bind fun r2=>(some ((r2.1.1,()),()))) else (some ((false,()),()))))
theorem zEP:tM3 zjJ zvP:=eM3
def zsh (O:Oracle E1) (a0:Ya) (a1:Int):Option ((Yb×Yb×Unit)×(Unit)):=
  (if (a1==0)=true then (some ((a0.2.1,a0.2.2.1,()),())) else (some ((a0.2.2.1,a0.2.1,()),())))
theorem zCi:tM2 zbs zsh:=eM2
def zua (a0:Yg) (a1:Ye):Option YG:=
  ((zaG O (a0.1,()) a1).bind fun r1=>(if (!r1.1.1)=true then (some (([],false,()),())) else (some ((a1,true,()),()))))
theorem zDD:tM2 zp1 zua:=eM2
def zjA (a0:Yb) (a1 a2:Int):Option (Yi⊕Ys):=
  (if (decide (a2<(a0.length:Int)))=true then (if 0<=a2∧a2<(a0.length:Int) then ((a0[a2.toNat]?).bind fun x1=>(if (decide (x1<a1))=true then (zkR O a0 a1 (i64.wrap (a2+1))) else (some (.inl (a0,a1,a2,()))))) else none) else (some (.inl (a0,a1,a2,()))))
theorem zqo:tM3 zkR zjA:=eM3
def zvO (a0:Yb) (a1:Int):Option Ys:=
  ((zkR O a0 a1 (0:Int)).bind (Sum.elim (fun y1=>(if (decide (y1.2.2.1<(y1.1.length:Int)))=true then (if 0<=y1.2.2.1∧y1.2.2.1<(y1.1.length:Int) then ((y1.1[y1.2.2.1.toNat]?).bind fun x3=>(if (x3==y1.2.1)=true then (some ((y1.1,()),())) else (if 0<=(0:Int)∧(0:Int)<=y1.2.2.1∧y1.2.2.1<=(y1.1.length:Int) then (if (List.length ([]:Yb)+List.length ((y1.1.take y1.2.2.1.toNat).drop (Int.toNat (0:Int))))*8<=140737488355328 then (if (List.length (([]:Yb)++((y1.1.take y1.2.2.1.toNat).drop (Int.toNat (0:Int))))+List.length ([y1.2.1]:Yb))*8<=140737488355328 then (if 0<=y1.2.2.1∧y1.2.2.1<=(y1.1.length:Int)∧(y1.1.length:Int)<=(y1.1.length:Int) then (if (List.length ((([]:Yb)++((y1.1.take y1.2.2.1.toNat).drop (Int.toNat (0:Int))))++([y1.2.1]:Yb))+List.length ((y1.1.take (Int.toNat (y1.1.length:Int))).drop y1.2.2.1.toNat))*8<=140737488355328 then (some (((((([]:Yb)++((y1.1.take y1.2.2.1.toNat).drop (Int.toNat (0:Int))))++([y1.2.1]:Yb))++((y1.1.take (Int.toNat (y1.1.length:Int))).drop y1.2.2.1.toNat)),()),())) else none) else none) else none) else none) else none))) else none) else (if 0<=(0:Int)∧(0:Int)<=y1.2.2.1∧y1.2.2.1<=(y1.1.length:Int) then (if (List.length ([]:Yb)+List.length ((y1.1.take y1.2.2.1.toNat).drop (Int.toNat (0:Int))))*8<=140737488355328 then (if (List.length (([]:Yb)++((y1.1.take y1.2.2.1.toNat).drop (Int.toNat (0:Int))))+List.length ([y1.2.1]:Yb))*8<=140737488355328 then (if 0<=y1.2.2.1∧y1.2.2.1<=(y1.1.length:Int)∧(y1.1.length:Int)<=(y1.1.length:Int) then (if (List.length ((([]:Yb)++((y1.1.take y1.2.2.1.toNat).drop (Int.toNat (0:Int))))++([y1.2.1]:Yb))+List.length ((y1.1.take (Int.toNat (y1.1.length:Int))).drop y1.2.2.1.toNat))*8<=140737488355328 then (some (((((([]:Yb)++((y1.1.take y1.2.2.1.toNat).drop (Int.toNat (0:Int))))++([y1.2.1]:Yb))++((y1.1.take (Int.toNat (y1.1.length:Int))).drop y1.2.2.1.toNat)),()),())) else none) else none) else none) else none) else none))) (fun r2=>(some r2))))
theorem zES:tM2 znZ zvO:=eM2
def zlv (a0 a1:Yb) (a2 a3:Int):Option (Yg⊕Ys):=
  (if (decide (a3<a2))=true then ((((idx a1 a3).bind fun x2=>(if (decide (x2<0))=true then ((znZ O a0 (i64.wrap ((-1:Int)-x2))).bind fun r3=>(some (.inl (r3.1.1,a1,a2,a3,())))) else (some (.inl (a0,a1,a2,a3,()))))):Option ((Yb×Yb×Int×Int×Unit)⊕(Yg⊕(Ys)))).bind (Sum.elim (fun q1=>(zjp O q1.1 q1.2.1 q1.2.2.1 (i64.wrap (q1.2.2.2.1+1)))) (fun r=>some r))) else (some (.inl (a0,()))))
theorem zug:tM4 zjp zlv:=eM4
def zt4 (a0:Yb):Option Ys:=
  ((zjp O [] a0 (a0.length:Int) (0:Int)).bind (Sum.elim (fun y1=>(some ((y1.1,()),()))) (fun r2=>(some r2))))
theorem zDO:tM1 ziq zt4:=eM1
def zlk (a0:Yb) (a1:Ye) (a2 a3:Int):Option (Yg⊕Ys):=
  (if (decide (a3<a2))=true then ((idx a1 a3).bind fun x1=>((ziq O x1.2.1).bind fun r2=>((ziq O x1.2.2.1).bind fun r3=>(if (List.length r2.1.1+List.length r3.1.1)*8<=140737488355328 then ((zex O a0 a1 a2 a3 (r2.1.1++r3.1.1) (List.length (r2.1.1++r3.1.1):Int) (0:Int)).bind (Sum.elim (fun y4=>(zjx O y4.1 y4.2.1 y4.2.2.1 (i64.wrap (y4.2.2.2.1+1)))) (fun r5=>(some (.inr r5))))) else none)))) else (some (.inl (a0,()))))
theorem zuy:tM4 zjx zlk:=eM4
def zja (a0:Yb) (a1:Ye) (a2 a3:Int) (a4:Yb) (a5 a6:Int):Option ((Yb×Ye×Int×Int×Unit)⊕Ys):=
  (if (decide (a6<a5))=true then (if 0<=a6∧a6<(a4.length:Int) then ((a4[a6.toNat]?).bind fun x1=>((znZ O a0 x1).bind fun r2=>(zex O r2.1.1 a1 a2 a3 a4 a5 (i64.wrap (a6+1))))) else none) else (some (.inl (a0,a1,a2,a3,()))))
theorem zqW:tM7 zex zja:=eM7
def zt0 (a0:Ye):Option Ys:=
  ((zjx O [] a0 (a0.length:Int) (0:Int)).bind (Sum.elim (fun y1=>(some ((y1.1,()),()))) (fun r2=>(some r2))))
theorem zDo:tM1 zpZ zt0:=eM1
def zsw (a0:Ye):Option Yh:=
  ((zpZ O a0).bind fun r1=>(if ((r1.1.1.length:Int)==(0:Int))=true then (some (((0:Int),()),())) else (if 0<=(i64.wrap ((r1.1.1.length:Int)-(1:Int)))∧(i64.wrap ((r1.1.1.length:Int)-(1:Int)))<(r1.1.1.length:Int) then ((r1.1.1[(Int.toNat (i64.wrap ((r1.1.1.length:Int)-(1:Int))))]?).bind fun x2=>(some (((i64.wrap (x2+1)),()),()))) else none)))
theorem zB4:tM1 zoG zsw:=eM1
def zkw (a0:Int) (a1:Yb) (a2 a3:Int):Option (Yg⊕Ys):=
  (if (decide (a3<a2))=true then (((if 0<=a3∧a3<(a1.length:Int) then ((a1[a3.toNat]?).bind fun x2=>(if (decide (x2<0))=true then (if 0<=a3∧a3<(a1.length:Int) then ((a1[a3.toNat]?).bind fun x3=>(some (.inl (a0,(a1.set a3.toNat (i64.wrap (x2-a0))),a2,a3,())))) else none) else (some (.inl (a0,a1,a2,a3,()))))) else none):Option ((Int×Yb×Int×Int×Unit)⊕(Yg⊕(Ys)))).bind (Sum.elim (fun q1=>(ziA O q1.1 q1.2.1 q1.2.2.1 (i64.wrap (q1.2.2.2.1+1)))) (fun r=>some r))) else (some (.inl (a1,()))))
theorem ztg:tM4 ziA zkw:=eM4
def zsl (a0:Yb) (a1:Int):Option Ys:=
  ((zaI O a0).bind fun r1=>((ziA O a1 r1.1.1 (r1.1.1.length:Int) (0:Int)).bind (Sum.elim (fun y2=>(some ((y2.1,()),()))) (fun r3=>(some r3)))))
theorem zCD:tM2 zl4 zsl:=eM2
def zj1 (a0:Yg) (a1:Int) (a2 a3:Ye) (a4 a5:Int):Option ((Yg×Ye×Unit)⊕YG):=
  (if (decide (a5<a4))=true then ((idx a3 a5).bind fun x1=>((zl4 O x1.2.1 a1).bind fun r2=>((zl4 O x1.2.2.1 a1).bind fun r3=>(if (List.length a2+List.length ([(x1.1,r2.1.1,r3.1.1,())]:Ye))*56<=140737488355328 then (zhO O (a0.1,()) a1 (a2++([(x1.1,r2.1.1,r3.1.1,())]:Ye)) a3 a4 (i64.wrap (a5+1))) else none)))) else (some (.inl ((a0.1,()),a2,()))))
theorem zr0:tM6 zhO zj1:=eM6
def zsL (a0:Yg) (a1 a2:Ye):Option YG:=
  ((zoG O a1).bind fun r1=>((zhO O (a0.1,()) r1.1.1 [] a2 (a2.length:Int) (0:Int)).bind (Sum.elim (fun y2=>((zp1 O (y2.1.1,()) y2.2.1).bind fun r4=>(some ((r4.1.1,r4.1.2.1,()),())))) (fun r3=>(some r3)))))
theorem zCq:tM3 zoB zsL:=eM3
def ztS (a0:Yg) (a1:Yb) (a2:Int):Option Ys:=
  ((zjL O (a0.1,()) a1 a2).bind fun r1=>(if 0<=a2∧a2<=r1.1.1∧r1.1.1<=(a1.length:Int) then ((zaI O ((a1.take r1.1.1.toNat).drop a2.toNat)).bind fun r2=>(some ((r2.1.1,()),()))) else none))
theorem zDQ:tM3 zcz ztS:=eM3
def zkF (a0 a1:Yb) (a2:Yg) (a3:Yj) (a4 a5:Int):Option ((Yb×Yb×Yg×Unit)⊕Yd):=
  (if (decide (a5<a4))=true then ((idx a3 a5).bind fun x1=>(if (decide ((x1.length:Int)>(0:Int)))=true then ((zdV O (a2.1,()) x1).bind fun r2=>(if (!r2.1.1)=true then (some (.inr ((false,()),()))) else (zgu O a0 a1 (a2.1,()) a3 a4 (i64.wrap (a5+1))))) else (zgu O a0 a1 (a2.1,()) a3 a4 (i64.wrap (a5+1))))) else (some (.inl (a0,a1,(a2.1,()),()))))
theorem ztu:tM6 zgu zkF:=eM6
def zss (a0:Yg) (a1:Yj) (a2 a3:Yb):Option Yd:=
  ((zgu O a2 a3 (a0.1,()) a1 (a1.length:Int) (0:Int)).bind (Sum.elim (fun y1=>((zdV O (y1.2.2.1.1,()) y1.1).bind fun r3=>(if r3.1.1=true then ((zdV O (y1.2.2.1.1,()) y1.2.1).bind fun r4=>(some ((r4.1.1,()),()))) else (some ((false,()),()))))) (fun r2=>(some r2))))
theorem zCS:tM4 zl6 zss:=eM4
def zkM (a0:Yj) (a1:Int) (a2:Yb) (a3 a4:Yj) (a5 a6:Int):Option ((Int×Yb×Yj×Unit)⊕Ym):=
  (if (decide (a6<a5))=true then ((((idx a0 a6).bind fun x2=>(if (decide ((x2.length:Int)>(0:Int)))=true then ((idx a0 a6).bind fun x3=>((zA O a3 x3).bind fun r4=>(if 0<=a6∧a6<(a4.length:Int) then ((a4[a6.toNat]?).bind fun x5=>(some (.inl (a0,a1,a2,a3,(a4.set a6.toNat r4.1.1),a5,a6,())))) else none))) else (some (.inl (a0,a1,a2,a3,a4,a5,a6,()))))):Option ((Yj×Int×Yb×Yj×Yj×Int×Int×Unit)⊕((Int×Yb×Yj×Unit)⊕(Ym)))).bind (Sum.elim (fun q1=>(ziT O q1.1 q1.2.1 q1.2.2.1 q1.2.2.2.1 q1.2.2.2.2.1 q1.2.2.2.2.2.1 (i64.wrap (q1.2.2.2.2.2.2.1+1)))) (fun r=>some r))) else (some (.inl (a1,a2,a4,()))))
theorem ztc:tM7 ziT zkM:=eM7
def ztG (a0:Yj) (a1:Int) (a2:Yb):Option Ym:=
  (if 0<=(12:Int)∧((24:Nat):Int)*(12:Int)<=140737488355328∧(12:Int)=(12:Int) then (if 0<=a1∧a1<(List.length (List.replicate (Int.toNat (12:Int)) ([]:Yb)):Int) then (((List.replicate (Int.toNat (12:Int)) ([]:Yb))[a1.toNat]?).bind fun x1=>(if 0<=(12:Int)∧((24:Nat):Int)*(12:Int)<=140737488355328∧(12:Int)=(12:Int) then ((ziT O a0 a1 a2 ((List.replicate (Int.toNat (12:Int)) ([]:Yb)).set a1.toNat a2) (List.replicate (Int.toNat (12:Int)) ([]:Yb)) (List.length (List.replicate (Int.toNat (12:Int)) ([]:Yb)):Int) (0:Int)).bind (Sum.elim (fun y2=>((zaI O y2.2.1).bind fun r4=>(if 0<=y2.1∧y2.1<(y2.2.2.1.length:Int) then ((y2.2.2.1[y2.1.toNat]?).bind fun x5=>(some (((y2.2.2.1.set y2.1.toNat r4.1.1),()),()))) else none))) (fun r3=>(some r3)))) else none)) else none) else none)
theorem zDG:tM3 zkk ztG:=eM3
def zcd (a0 a1:Yb) (a2:Yg) (a3:Yj) (a4 a5:Yb):Option ((Unit)⊕Yk):=
  ((zl6 O (a2.1,()) a3 a4 a5).bind fun r1=>(if (!r1.1.1)=true then (some (.inr (([],false,()),()))) else ((zgI O a0 a1 (a2.1,()) a3 a4 a5 (0:Int)).bind (Sum.elim (fun y2=>(if (y2.2.2.2.2.2.2.1==(y2.2.2.2.2.1.length:Int))=true then (some (.inr ((y2.2.2.2.1,true,()),()))) else (if 0<=y2.2.2.2.2.2.2.1∧y2.2.2.2.2.2.2.1<(y2.2.2.2.2.1.length:Int) then ((y2.2.2.2.2.1[y2.2.2.2.2.2.2.1.toNat]?).bind fun x4=>(if 0<=y2.2.2.2.2.2.2.1∧y2.2.2.2.2.2.2.1<(y2.2.2.2.2.2.1.length:Int) then ((y2.2.2.2.2.2.1[y2.2.2.2.2.2.2.1.toNat]?).bind fun x5=>(if (decide (x4>=0))=true then (if (decide (x5>=0))=true then (some (.inr (([],false,()),()))) else ((zcz O (y2.2.2.1.1,()) y2.2.2.2.2.2.1 y2.2.2.2.2.2.2.1).bind fun r6=>(((if (decide (x4>=0))=true then ((zcz O (y2.2.2.1.1,()) y2.2.2.2.2.1 y2.2.2.2.2.2.2.1).bind fun r8=>(some (.inl (y2.1,y2.2.1,(y2.2.2.1.1,()),y2.2.2.2.1,(i64.wrap ((-1:Int)-x5)),r8.1.1,())))) else (if (decide (x5<0))=true then (if (decide ((i64.wrap ((-1:Int)-x5))>(i64.wrap ((-1:Int)-x4))))=true then ((zcz O (y2.2.2.1.1,()) y2.2.2.2.2.1 y2.2.2.2.2.2.2.1).bind fun r9=>(some (.inl (y2.1,y2.2.1,(y2.2.2.1.1,()),y2.2.2.2.1,(i64.wrap ((-1:Int)-x5)),r9.1.1,())))) else (some (.inl (y2.1,y2.2.1,(y2.2.2.1.1,()),y2.2.2.2.1,(i64.wrap ((-1:Int)-x4)),r6.1.1,())))) else (some (.inl (y2.1,y2.2.1,(y2.2.2.1.1,()),y2.2.2.2.1,(i64.wrap ((-1:Int)-x4)),r6.1.1,()))))):Option ((Yb×Yb×Yg×Yj×Int×Yb×Unit)⊕((Unit)⊕(Yk)))).bind (Sum.elim (fun q7=>((zfY O q7.2.2.2.2.2.1 (i64.wrap ((-1:Int)-q7.2.2.2.2.1))).bind fun r10=>(if r10.1.1=true then (some (.inr (([],false,()),()))) else ((zkk O q7.2.2.2.1 q7.2.2.2.2.1 q7.2.2.2.2.2.1).bind fun r11=>((zA O r11.1.1 q7.1).bind fun r12=>((zA O r11.1.1 q7.2.1).bind fun r13=>(zbg O q7.1 q7.2.1 (q7.2.2.1.1,()) r11.1.1 r12.1.1 r13.1.1))))))) (fun r=>some r))))) else ((zcz O (y2.2.2.1.1,()) y2.2.2.2.2.2.1 y2.2.2.2.2.2.2.1).bind fun r14=>(((if (decide (x4>=0))=true then ((zcz O (y2.2.2.1.1,()) y2.2.2.2.2.1 y2.2.2.2.2.2.2.1).bind fun r16=>(some (.inl (y2.1,y2.2.1,(y2.2.2.1.1,()),y2.2.2.2.1,(i64.wrap ((-1:Int)-x5)),r16.1.1,())))) else (if (decide (x5<0))=true then (if (decide ((i64.wrap ((-1:Int)-x5))>(i64.wrap ((-1:Int)-x4))))=true then ((zcz O (y2.2.2.1.1,()) y2.2.2.2.2.1 y2.2.2.2.2.2.2.1).bind fun r17=>(some (.inl (y2.1,y2.2.1,(y2.2.2.1.1,()),y2.2.2.2.1,(i64.wrap ((-1:Int)-x5)),r17.1.1,())))) else (some (.inl (y2.1,y2.2.1,(y2.2.2.1.1,()),y2.2.2.2.1,(i64.wrap ((-1:Int)-x4)),r14.1.1,())))) else (some (.inl (y2.1,y2.2.1,(y2.2.2.1.1,()),y2.2.2.2.1,(i64.wrap ((-1:Int)-x4)),r14.1.1,()))))):Option ((Yb×Yb×Yg×Yj×Int×Yb×Unit)⊕((Unit)⊕(Yk)))).bind (Sum.elim (fun q15=>((zfY O q15.2.2.2.2.2.1 (i64.wrap ((-1:Int)-q15.2.2.2.2.1))).bind fun r18=>(if r18.1.1=true then (some (.inr (([],false,()),()))) else ((zkk O q15.2.2.2.1 q15.2.2.2.2.1 q15.2.2.2.2.2.1).bind fun r19=>((zA O r19.1.1 q15.1).bind fun r20=>((zA O r19.1.1 q15.2.1).bind fun r21=>(zbg O q15.1 q15.2.1 (q15.2.2.1.1,()) r19.1.1 r20.1.1 r21.1.1))))))) (fun r=>some r)))))) else none)) else none))) (fun r3=>(some (.inr r3)))))))
theorem zdF:tM6 zbg zcd:=eM6
def zjc (a0 a1:Yb) (a2:Yg) (a3:Yj) (a4 a5:Yb) (a6:Int):Option ((Yb×Yb×Yg×Yj×Yb×Yb×Int×Unit)⊕Yk):=
  (if (decide (a6<(a4.length:Int)))=true then (if (decide (a6<(a5.length:Int)))=true then (if 0<=a6∧a6<(a4.length:Int) then ((a4[a6.toNat]?).bind fun x1=>(if 0<=a6∧a6<(a5.length:Int) then ((a5[a6.toNat]?).bind fun x2=>(if (x1==x2)=true then (zgI O a0 a1 (a2.1,()) a3 a4 a5 (i64.wrap (a6+1))) else (some (.inl (a0,a1,(a2.1,()),a3,a4,a5,a6,()))))) else none)) else none) else (some (.inl (a0,a1,(a2.1,()),a3,a4,a5,a6,())))) else (some (.inl (a0,a1,(a2.1,()),a3,a4,a5,a6,()))))
theorem zrw:tM7 zgI zjc:=eM7
def zsm (a0:Yg) (a1 a2:Yb):Option Yk:=
  (if 0<=(12:Int)∧((24:Nat):Int)*(12:Int)<=140737488355328∧(12:Int)=(12:Int) then ((zaI O a1).bind fun r1=>((zaI O a2).bind fun r2=>((zbg O a1 a2 (a0.1,()) (List.replicate (Int.toNat (12:Int)) ([]:Yb)) r1.1.1 r2.1.1).bind (Sum.elim (fun y3=>none) (fun r4=>(some r4)))))) else none)
theorem zCP:tM3 zjn zsm:=eM3
def zqc (a0:Yg) (a1:Yb) (a2:Int) (a3:Yb):Option Ys:=
  (if 0<=(0:Int)∧(0:Int)<=a2∧a2<=(a1.length:Int) then ((zaI O ((a1.take a2.toNat).drop (Int.toNat (0:Int)))).bind fun r1=>(if (List.length r1.1.1+List.length a3)*8<=140737488355328 then ((zjL O (a0.1,()) a1 a2).bind fun r2=>(if 0<=r2.1.1∧r2.1.1<=(a1.length:Int)∧(a1.length:Int)<=(a1.length:Int) then (if (List.length (r1.1.1++a3)+List.length ((a1.take (Int.toNat (a1.length:Int))).drop r2.1.1.toNat))*8<=140737488355328 then (some ((((r1.1.1++a3)++((a1.take (Int.toNat (a1.length:Int))).drop r2.1.1.toNat)),()),())) else none) else none)) else none)) else none)
theorem zAV:tM4 zg5 zqc:=eM4
def zkT (a0 a1:Int) (a2:Yb) (a3 a4:Int):Option (YA⊕Yh):=
  (if (decide (a4<a3))=true then ((((idx a2 a4).bind fun x2=>(if (x2==a0)=true then (some (.inl (a0,(i64.wrap (a1+1)),a2,a3,a4,()))) else (some (.inl (a0,a1,a2,a3,a4,()))))):Option ((Int×Int×Yb×Int×Int×Unit)⊕(YA⊕(Yh)))).bind (Sum.elim (fun q1=>(ziB O q1.1 q1.2.1 q1.2.2.1 q1.2.2.2.1 (i64.wrap (q1.2.2.2.2.1+1)))) (fun r=>some r))) else (some (.inl (a1,()))))
theorem ztx:tM5 ziB zkT:=eM5
def zsC (a0:Yb) (a1:Int):Option Yh:=
  ((ziB O a1 (0:Int) a0 (a0.length:Int) (0:Int)).bind (Sum.elim (fun y1=>(some ((y1.1,()),()))) (fun r2=>(some r2))))
theorem zBR:tM2 zlO zsC:=eM2
def zjP (a0 a1 a2:Yb) (a3 a4:Int):Option Yy:=
  (if (decide (a4<a3))=true then (if 0<=a4∧a4<(a2.length:Int) then ((a2[a4.toNat]?).bind fun x1=>((zlO O a0 (i64.wrap ((-1:Int)-x1))).bind fun r2=>((zlO O a1 (i64.wrap ((-1:Int)-x1))).bind fun r3=>(if (decide (r2.1.1<r3.1.1))=true then (some (.inr ((false,()),()))) else (zhA O a0 a1 a2 a3 (i64.wrap (a4+1))))))) else none) else (some (.inl ())))
theorem zrV:tM5 zhA zjP:=eM5
def zrc (a0 a1:Yb):Option Yd:=
  ((ziq O a1).bind fun r1=>((zhA O a0 a1 r1.1.1 (r1.1.1.length:Int) (0:Int)).bind (Sum.elim (fun y2=>(some ((true,()),()))) (fun r3=>(some r3)))))
theorem zBy:tM2 znt zrc:=eM2
def zia (a0 a1:Yb) (a2 a3:Int):Option Yy:=
  (if (decide (a3<a2))=true then ((idx a0 a3).bind fun x1=>((idx a1 a3).bind fun x2=>(if (x1 !=x2)=true then ((idx a0 a3).bind fun x3=>(if (decide (x3>=0))=true then ((idx a1 a3).bind fun x4=>(if (decide (x4>=0))=true then ((idx a0 a3).bind fun x5=>((idx a1 a3).bind fun x6=>(some (.inr (((decide (x5>x6)),()),()))))) else (some (.inr ((false,()),()))))) else (some (.inr ((false,()),()))))) else (zgl O a0 a1 a2 (i64.wrap (a3+1)))))) else (some (.inl ())))
theorem zqy:tM4 zgl zia:=eM4
def zqi (a0 a1:Yb):Option Yd:=
  ((znt O a0 a1).bind fun r1=>(if (!r1.1.1)=true then (some ((false,()),())) else (if (decide ((a0.length:Int)<(a1.length:Int)))=true then (some ((false,()),())) else (if (decide ((a0.length:Int)>(a1.length:Int)))=true then (some ((true,()),())) else ((zgl O a0 a1 (a0.length:Int) (0:Int)).bind (Sum.elim (fun y2=>(some ((false,()),()))) (fun r3=>(some r3))))))))
theorem zAp:tM2 ze7 zqi:=eM2
def zp9 (a0 a1:Yb):Option Yh:=
  ((zaS O a0 a1).bind fun r1=>(if r1.1.1=true then (some (((0:Int),()),())) else ((ze7 O a0 a1).bind fun r2=>(if r2.1.1=true then (some (((1:Int),()),())) else ((ze7 O a1 a0).bind fun r3=>(if r3.1.1=true then (some (((-1:Int),()),())) else (some (((2:Int),()),()))))))))
theorem zAK:tM2 zmi zp9:=eM2
def ztL (a0 a1:Yb):Option Yd:=
  ((zmi O a0 a1).bind fun r1=>(if (r1.1.1==1)=true then (some ((true,()),())) else (some (((r1.1.1==2),()),()))))
theorem zDU:tM2 zko ztL:=eM2
end
end Go.Proofs.YtchkojfhcdcnmaaGreatMd.Ev
