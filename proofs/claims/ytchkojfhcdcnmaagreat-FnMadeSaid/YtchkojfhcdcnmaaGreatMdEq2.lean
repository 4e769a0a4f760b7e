/- A text of its own: Eq2; no condition but those that each theorem names. -/
import Derived.Test.YtchkojfhcdcnmaaGreatMdNm
import Derived.KernelRfl
namespace Go.Proofs.YtchkojfhcdcnmaaGreatMd.Ev
open Go Go.IntKind
set_option maxRecDepth 100000
set_option autoImplicit false
set_option linter.unusedVariables false
noncomputable section
variable (O : Oracle E1)
def zrI (O:Oracle E1) (a0:Yb) (a1:Int):Option Yd:=
  (if ((a0.length:Int)==(1:Int))=true then ((idx a0 (0:Int)).bind fun x1=>(some (((x1==(i64.wrap ((-1:Int)-a1))),()),()))) else (some ((false,()),())))
theorem zBn:tM2 znC zrI:=eM2
def znJ (a0:Yj) (a1 a2:Int):Option (YL⊕Ym):=
  (if (decide (a2<a1))=true then (((if 0<=a2∧a2<(a0.length:Int) then ((a0[a2.toNat]?).bind fun x2=>((znC O x2 a2).bind fun r3=>(if r3.1.1=true then (if 0<=a2∧a2<(a0.length:Int) then ((a0[a2.toNat]?).bind fun x4=>(some (.inl ((a0.set a2.toNat []),a1,a2,())))) else none) else (some (.inl (a0,a1,a2,())))))) else none):Option ((Yj×Int×Int×Unit)⊕(YL⊕(Ym)))).bind (Sum.elim (fun q1=>(zlX O q1.1 q1.2.1 (i64.wrap (q1.2.2.1+1)))) (fun r=>some r))) else (some (.inl (a0,()))))
theorem zv8:tM3 zlX znJ:=eM3
def zws (a0:Yj):Option Ym:=
  ((zlX O a0 (a0.length:Int) (0:Int)).bind (Sum.elim (fun y1=>(some ((y1.1,()),()))) (fun r2=>(some r2))))
theorem zFs:tM1 zpd zws:=eM1
def zfU (a0:Yg) (a1 a2:Ye):Option Yk:=
  (if (decide ((a1.length:Int)<(1:Int)))=true then (some (([],false,()),())) else (if (decide ((a1.length:Int)>(4:Int)))=true then (some (([],false,()),())) else (if (decide ((a1.length:Int)>(a2.length:Int)))=true then (some (([],false,()),())) else (if 0<=(12:Int)∧((24:Nat):Int)*(12:Int)<=140737488355328∧(12:Int)=(12:Int) then ((zeC O (a0.1,()) (List.replicate (Int.toNat (12:Int)) ([]:Yb)) a1 a2).bind fun r1=>(if (!r1.1.2.1)=true then (some (([],false,()),())) else ((zpd O r1.1.1).bind fun r2=>(some ((r2.1.1,true,()),()))))) else none))))
theorem zmr:tM3 zd5 zfU:=eM3
def zjb (a0:Ye) (a1:Yg) (a2:Ye):Option Yd:=
  ((zd5 O (a1.1,()) a0 a2).bind fun r1=>(some ((r1.1.2.1,()),())))
theorem zuN:tM3 zfO zjb:=eM3
def zj (a0:Yt) (a1:Yg×Ye×Unit) (a2 a3:Int):Option YC:=
  (if (decide (a3<a2))=true then ((idx a0 a3).bind fun x1=>((zfO O x1 a1.1 a1.2.1).bind fun r2=>(if r2.1.1=true then (some (.inr ((a3,()),()))) else (zk O a0 a1 a2 (i64.wrap (a3+1)))))) else (some (.inl ())))
theorem zat:tM4 zk zj:=eM4
def zT (a0:Yt) (a1:Yg×Ye×Unit):Option Yh:=
  ((zk O a0 a1 (a0.length:Int) (0:Int)).bind (Sum.elim (fun y1=>(some (((-1:Int),()),()))) (fun r2=>(some r2))))
theorem zbR:tM2 zaC zT:=eM2
def zav (a0:Yt) (a1:Yg×Ye×Unit):Option Yd:=
  ((zaC O a0 a1).bind fun r1=>(some (((decide (r1.1.1>=0)),()),())))
theorem zet:tM2 zK zav:=eM2
def zke (a0:Yg) (a1:Ye) (a2:Yt):Option Yd:=
  ((zk3 O a1).bind fun r1=>(if r1.1.1=true then (some ((true,()),())) else ((zK O a2 ((a0.1,()),a1,())).bind fun r2=>(some ((r2.1.1,()),())))))
theorem zv0:tM3 zgG zke:=eM3
def zmj (a0:Ye) (a1:Yg):Option Yd:=
  ((zcf O (a1.1,()) a0).bind fun r1=>(some (((!r1.1.1),()),())))
theorem zxK:tM2 zi8 zmj:=eM2
def zp (a0:Yt) (a1:Yg×Unit) (a2 a3:Int):Option YC:=
  (if (decide (a3<a2))=true then ((idx a0 a3).bind fun x1=>((zi8 O x1 a1.1).bind fun r2=>(if r2.1.1=true then (some (.inr ((a3,()),()))) else (zt O a0 a1 a2 (i64.wrap (a3+1)))))) else (some (.inl ())))
theorem zaL:tM4 zt zp:=eM4
def zag (a0:Yt) (a1:Yg×Unit):Option Yh:=
  ((zt O a0 a1 (a0.length:Int) (0:Int)).bind (Sum.elim (fun y1=>(some (((-1:Int),()),()))) (fun r2=>(some r2))))
theorem zcm:tM2 za2 zag:=eM2
def zaQ (a0:Yt) (a1:Yg×Unit):Option Yd:=
  ((za2 O a0 a1).bind fun r1=>(some (((decide (r1.1.1>=0)),()),())))
theorem zfR:tM2 zZ zaQ:=eM2
def zfi (a0:Yg) (a1:Ye) (a2:Yt):Option YD:=
  ((zlj O (a0.1,()) a1).bind fun r1=>(if (!r1.1.1)=true then (some ((false,false,()),())) else (if (decide ((a2.length:Int)>(200:Int)))=true then (some ((false,false,()),())) else ((zZ O a2 ((a0.1,()),())).bind fun r2=>(if r2.1.1=true then (some ((false,false,()),())) else ((zgG O ((a0.1,()).1,()) a1 a2).bind fun r3=>(some ((r3.1.1,true,()),()))))))))
theorem zkv:tM3 zhB zfi:=eM3
def zwk (O:Oracle E1) (a0 a1 a2:Int):Option Yd:=
  (if (decide (a0>=a1))=true then (some (((decide (a0<=a2)),()),())) else (some ((false,()),())))
theorem zFI:tM3 z6 zwk:=eM3
def zcn (a0:Yb) (a1:Int) (a2:Yg) (a3:Int):Option (YA⊕Yh):=
  (if (decide (a3>0))=true then (if (decide (a1>=(a0.length:Int)))=true then (some (.inr (((-1:Int),()),()))) else ((idx a0 a1).bind fun x1=>((z6 O x1 (-12:Int) (i64.wrap ((a2.1.length:Int)-(1:Int)))).bind fun r2=>(if (!r2.1.1)=true then (some (.inr (((-1:Int),()),()))) else ((((idx a0 a1).bind fun x4=>(if (decide (x4>=0))=true then ((idx a0 a1).bind fun x5=>((idx a2.1 x5).bind fun x6=>(some (.inl (a0,a1,(a2.1,()),(i64.wrap ((i64.wrap (a3-1))+x6)),()))))) else (some (.inl (a0,a1,(a2.1,()),(i64.wrap (a3-1)),()))))):Option ((Yb×Int×Yg×Int×Unit)⊕(YA⊕(Yh)))).bind (Sum.elim (fun q3=>(zhW O q3.1 (i64.wrap (q3.2.1+1)) (q3.2.2.1.1,()) q3.2.2.2.1)) (fun r=>some r))))))) else (some (.inl (a1,()))))
theorem zdC:tM4 zhW zcn:=eM4
def zn6 (a0:Yg) (a1:Yb) (a2:Int):Option Yh:=
  ((zhW O a1 a2 (a0.1,()) (1:Int)).bind (Sum.elim (fun y1=>(some ((y1.1,()),()))) (fun r2=>(some r2))))
theorem zu7:tM3 zjL zn6:=eM3
def zmV (a0:Yg) (a1:Yb):Option Yd:=
  ((z6 O (a1.length:Int) (1:Int) (40:Int)).bind fun r1=>(if r1.1.1=true then ((zjL O (a0.1,()) a1 (0:Int)).bind fun r2=>(some (((r2.1.1==(a1.length:Int)),()),()))) else (some ((false,()),()))))
theorem zue:tM2 zdV zmV:=eM2
def zqP (a0:Yg) (a1:Ya):Option Yd:=
  ((zdV O (a0.1,()) a1.2.1).bind fun r1=>(if r1.1.1=true then ((zdV O (a0.1,()) a1.2.2.1).bind fun r2=>(some ((r2.1.1,()),()))) else (some ((false,()),()))))
theorem zyF:tM2 zos zqP:=eM2
def zda (a0:Ye) (a1:Yg) (a2:Ye) (a3 a4:Int):Option (YN⊕Yd):=
  (if (decide (a4<a3))=true then ((idx a2 a4).bind fun x1=>((zos O (a1.1,()) (x1.1,x1.2.1,x1.2.2.1,())).bind fun r2=>(if (!r2.1.1)=true then (some (.inr ((false,()),()))) else (zcK O a0 (a1.1,()) a2 a3 (i64.wrap (a4+1)))))) else (some (.inl (a0,()))))
theorem zeE:tM5 zcK zda:=eM5
def zkJ (a0:Yg) (a1:Ye):Option Yd:=
  ((zcK O a1 (a0.1,()) a1 (a1.length:Int) (0:Int)).bind (Sum.elim (fun y1=>(some (((decide ((y1.1.length:Int)<=(8:Int))),()),()))) (fun r2=>(some r2))))
theorem zrg:tM2 zaG zkJ:=eM2
def zmn (a0 a1:Int) (a2:Yb) (a3 a4:Int):Option Yy:=
  (if (decide (a4<a3))=true then ((idx a2 a4).bind fun x1=>((z6 O x1 a0 a1).bind fun r2=>(if (!r2.1.1)=true then (some (.inr ((false,()),()))) else (zkq O a0 a1 a2 a3 (i64.wrap (a4+1)))))) else (some (.inl ())))
theorem zvH:tM5 zkq zmn:=eM5
def zvx (a0:Yb) (a1 a2:Int):Option Yd:=
  ((zkq O a1 a2 a0 (a0.length:Int) (0:Int)).bind (Sum.elim (fun y1=>(some ((true,()),()))) (fun r2=>(some r2))))
theorem zD2:tM3 zjH zvx:=eM3
def zrv (a0:Yg):Option Yd:=
  ((z6 O (a0.1.length:Int) (1:Int) (10:Int)).bind fun r1=>(if r1.1.1=true then ((zjH O a0.1 (0:Int) (3:Int)).bind fun r2=>(if r2.1.1=true then ((idx a0.1 (0:Int)).bind fun x3=>(some (((x3==0),()),()))) else (some ((false,()),())))) else (some ((false,()),()))))
theorem zBp:tM1 zfW zrv:=eM1
def zdf (a0:Yt) (a1:Yg) (a2:Yt) (a3 a4:Int):Option ((Yt×Yg×Unit)⊕Yd):=
  (if (decide (a4<a3))=true then ((idx a2 a4).bind fun x1=>((zaG O (a1.1,()) x1).bind fun r2=>(if (!r2.1.1)=true then (some (.inr ((false,()),()))) else (zcM O a0 (a1.1,()) a2 a3 (i64.wrap (a4+1)))))) else (some (.inl (a0,(a1.1,()),()))))
theorem zeu:tM5 zcM zdf:=eM5
def zkN (a0:Yg) (a1:Yt):Option Yd:=
  ((zcM O a1 (a0.1,()) a1 (a1.length:Int) (0:Int)).bind (Sum.elim (fun y1=>((zfW O (y1.2.1.1,())).bind fun r3=>(if r3.1.1=true then (some (((decide ((y1.1.length:Int)<=(12:Int))),()),())) else (some ((false,()),()))))) (fun r2=>(some r2))))
theorem zv3:tM2 zhR zkN:=eM2
def zrD (O:Oracle E1) (a0:Yb):Option Ys:=
  (if (List.length ([]:Yb)+List.length a0)*8<=140737488355328 then (some (((([]:Yb)++a0),()),())) else none)
theorem zyC:tM1 zaI zrD:=eM1
def zt7 (O:Oracle E1) (a0:Ye):Option Yd:=
  (if ((a0.length:Int)==(1:Int))=true then ((idx a0 (0:Int)).bind fun x1=>(some ((x1.1,()),()))) else (some ((false,()),())))
theorem ztX:tM1 zkn zt7:=eM1
def zg0 (a0:Int) (a1:Yb) (a2 a3:Int):Option Yy:=
  (if (decide (a3<a2))=true then ((idx a1 a3).bind fun x1=>(if (x1==a0)=true then (some (.inr ((true,()),()))) else (zhT O a0 a1 a2 (i64.wrap (a3+1))))) else (some (.inl ())))
theorem zmt:tM4 zhT zg0:=eM4
def zrf (a0:Yb) (a1:Int):Option Yd:=
  ((zhT O a1 a0 (a0.length:Int) (0:Int)).bind (Sum.elim (fun y1=>(some ((false,()),()))) (fun r2=>(some r2))))
theorem zzp:tM2 zfY zrf:=eM2
def ziX (a0:Yb) (a1 a2:Yj) (a3 a4:Int):Option (YL⊕Ym):=
  (if (decide (a4<a3))=true then ((idx a2 a4).bind fun x1=>((zc4 O a0 a1 [] a2 a3 a4 x1 (x1.length:Int) (0:Int)).bind (Sum.elim (fun y2=>(if (List.length y2.2.1+List.length ([y2.2.2.1]:Yj))*24<=140737488355328 then (zgK O y2.1 (y2.2.1++([y2.2.2.1]:Yj)) y2.2.2.2.1 y2.2.2.2.2.1 (i64.wrap (y2.2.2.2.2.2.1+1))) else none)) (fun r3=>(some (.inr r3)))))) else (some (.inl (a1,()))))
theorem zrK:tM5 zgK ziX:=eM5
def zd7 (a0:Yb) (a1:Yj) (a2:Yb) (a3:Yj) (a4 a5:Int) (a6:Yb) (a7 a8:Int):Option ((Yb×Yj×Yb×Yj×Int×Int×Unit)⊕Ym):=
  (if (decide (a8<a7))=true then ((idx a6 a8).bind fun x1=>(((if (decide (x1<0))=true then ((zfY O a0 x1).bind fun r3=>(if (!r3.1.1)=true then (if (List.length a0+List.length ([x1]:Yb))*8<=140737488355328 then (some (.inl ((a0++([x1]:Yb)),a1,a2,x1,a3,a4,a5,a6,a7,a8,()))) else none) else (some (.inl (a0,a1,a2,x1,a3,a4,a5,a6,a7,a8,()))))) else (some (.inl (a0,a1,a2,x1,a3,a4,a5,a6,a7,a8,())))):Option ((Yb×Yj×Yb×Int×Yj×Int×Int×Yb×Int×Int×Unit)⊕((Yb×Yj×Yb×Yj×Int×Int×Unit)⊕(Ym)))).bind (Sum.elim (fun q2=>((zbG O q2.1 q2.2.1 q2.2.2.1 q2.2.2.2.1 q2.2.2.2.2.1 q2.2.2.2.2.2.1 q2.2.2.2.2.2.2.1 q2.2.2.2.2.2.2.2.1 q2.2.2.2.2.2.2.2.2.1 q2.2.2.2.2.2.2.2.2.2.1 (q2.1.length:Int) (0:Int)).bind (Sum.elim (fun y4=>(if (List.length y4.2.2.1+List.length ([y4.2.2.2.1]:Yb))*8<=140737488355328 then (zc4 O y4.1 y4.2.1 (y4.2.2.1++([y4.2.2.2.1]:Yb)) y4.2.2.2.2.1 y4.2.2.2.2.2.1 y4.2.2.2.2.2.2.1 y4.2.2.2.2.2.2.2.1 y4.2.2.2.2.2.2.2.2.1 (i64.wrap (y4.2.2.2.2.2.2.2.2.2.1+1))) else none)) (fun r5=>(some (.inr r5)))))) (fun r=>some r)))) else (some (.inl (a0,a1,a2,a3,a4,a5,()))))
theorem zkg:tM9 zc4 zd7:=eM9
def zeW (a0:Yb) (a1:Yj) (a2:Yb) (a3:Int) (a4:Yj) (a5 a6:Int) (a7:Yb) (a8 a9 a10 a11:Int):Option ((Yb×Yj×Yb×Int×Yj×Int×Int×Yb×Int×Int×Unit)⊕Ym):=
  (if (decide (a11<a10))=true then (if 0<=a11∧a11<(a0.length:Int) then ((a0[a11.toNat]?).bind fun x1=>(if (x1==a3)=true then (some (.inl (a0,a1,a2,(i64.wrap ((-1:Int)-a11)),a4,a5,a6,a7,a8,a9,()))) else (zbG O a0 a1 a2 a3 a4 a5 a6 a7 a8 a9 a10 (i64.wrap (a11+1))))) else none) else (some (.inl (a0,a1,a2,a3,a4,a5,a6,a7,a8,a9,()))))
theorem zmP:tM12 zbG zeW:=eM12
def zrE (a0:Yj):Option Ym:=
  ((zgK O [] [] a0 (a0.length:Int) (0:Int)).bind (Sum.elim (fun y1=>(some ((y1.1,()),()))) (fun r2=>(some r2))))
theorem zBf:tM1 znr zrE:=eM1
def zkE (a0:Yj) (a1:Ye) (a2 a3:Int):Option (YL⊕Ym):=
  (if (decide (a3<a2))=true then ((idx a1 a3).bind fun x1=>(if (List.length a0+List.length ([x1.2.1,x1.2.2.1]:Yj))*24<=140737488355328 then (ziv O (a0++([x1.2.1,x1.2.2.1]:Yj)) a1 a2 (i64.wrap (a3+1))) else none)) else (some (.inl (a0,()))))
theorem ztk:tM4 ziv zkE:=eM4
def zsJ (a0:Ye):Option Ym:=
  ((ziv O [] a0 (a0.length:Int) (0:Int)).bind (Sum.elim (fun y1=>(some ((y1.1,()),()))) (fun r2=>(some r2))))
theorem zCy:tM1 zoD zsJ:=eM1
def zi9 (a0:Yj) (a1 a2:Ye) (a3 a4:Int):Option (YN⊕Yp):=
  (if (decide (a4<a3))=true then ((idx a2 a4).bind fun x1=>(if 0<=(i64.wrap ((2:Int)*a4))∧(i64.wrap ((2:Int)*a4))<(a0.length:Int) then ((a0[(Int.toNat (i64.wrap ((2:Int)*a4)))]?).bind fun x2=>(if 0<=(i64.wrap ((i64.wrap ((2:Int)*a4))+(1:Int)))∧(i64.wrap ((i64.wrap ((2:Int)*a4))+(1:Int)))<(a0.length:Int) then ((a0[(Int.toNat (i64.wrap ((i64.wrap ((2:Int)*a4))+(1:Int))))]?).bind fun x3=>(if (List.length a1+List.length ([(x1.1,x2,x3,())]:Ye))*56<=140737488355328 then (zgN O a0 (a1++([(x1.1,x2,x3,())]:Ye)) a2 a3 (i64.wrap (a4+1))) else none)) else none)) else none)) else (some (.inl (a1,()))))
theorem zrm:tM5 zgN zi9:=eM5
def zrq (a0:Ye):Option Yp:=
  ((zoD O a0).bind fun r1=>((znr O r1.1.1).bind fun r2=>((zgN O r2.1.1 [] a0 (a0.length:Int) (0:Int)).bind (Sum.elim (fun y3=>(some ((y3.1,()),()))) (fun r4=>(some r4))))))
theorem zBx:tM1 zie zrq:=eM1
def zmF (a0 a1:Ye) (a2 a3:Int):Option (YN⊕Yp):=
  (if (decide (a3<a2))=true then ((idx a1 a3).bind fun x1=>((zaI O x1.2.1).bind fun r2=>((zaI O x1.2.2.1).bind fun r3=>(if (List.length a0+List.length ([(x1.1,r2.1.1,r3.1.1,())]:Ye))*56<=140737488355328 then (zkz O (a0++([(x1.1,r2.1.1,r3.1.1,())]:Ye)) a1 a2 (i64.wrap (a3+1))) else none)))) else (some (.inl (a0,()))))
theorem zvg:tM4 zkz zmF:=eM4
def zrM (a0:Ye):Option Yp:=
  ((zkz O [] a0 (a0.length:Int) (0:Int)).bind (Sum.elim (fun y1=>(some ((y1.1,()),()))) (fun r2=>(some r2))))
theorem zyr:tM1 zl2 zrM:=eM1
def zlw (a0 a1:Yb) (a2 a3:Int):Option Yy:=
  (if (decide (a3<a2))=true then ((idx a0 a3).bind fun x1=>((idx a1 a3).bind fun x2=>(if (x1 !=x2)=true then (some (.inr ((false,()),()))) else (zjF O a0 a1 a2 (i64.wrap (a3+1)))))) else (some (.inl ())))
theorem zuo:tM4 zjF zlw:=eM4
def ztO (a0 a1:Yb):Option Yd:=
  (if ((a0.length:Int) !=(a1.length:Int))=true then (some ((false,()),())) else ((zjF O a0 a1 (a0.length:Int) (0:Int)).bind (Sum.elim (fun y1=>(some ((true,()),()))) (fun r2=>(some r2)))))
theorem zDP:tM2 zaS ztO:=eM2
end
end Go.Proofs.YtchkojfhcdcnmaaGreatMd.Ev
