/- A text of its own: Eq1; no condition but those that each theorem names. -/
import Derived.Test.YtchkojfhcdcnmaaGreatMdNm
import Derived.KernelRfl
namespace Go.Proofs.YtchkojfhcdcnmaaGreatMd.Ev
open Go Go.IntKind
set_option maxRecDepth 100000
set_option autoImplicit false
set_option linter.unusedVariables false
noncomputable section
variable (O : Oracle E1)
def zfI (a0:Yb) (a1:Int):Option Yd:=
  ((zk7 O a0 a1).bind fun r1=>(some (((decide (r1.1.1>=0)),()),())))
theorem zuI:tM2 zbJ zfI:=eM2
def zrk (a0:Yb) (a1:Int):Option Yd:=
  ((zbJ O a0 (i64.wrap ((-1:Int)-a1))).bind fun r1=>(some ((r1.1.1,()),())))
theorem zBt:tM2 znM zrk:=eM2
def zak (a0:Yj) (a1:YA) (a2 a3:Int):Option YC:=
  (if (decide (a3<a2))=true then ((idx a0 a3).bind fun x1=>((znM O x1 a1.1).bind fun r2=>(if r2.1.1=true then (some (.inr ((a3,()),()))) else (zao O a0 a1 a2 (i64.wrap (a3+1)))))) else (some (.inl ())))
theorem zbT:tM4 zao zak:=eM4
def zbk (a0:Yj) (a1:YA):Option Yh:=
  ((zao O a0 a1 (a0.length:Int) (0:Int)).bind (Sum.elim (fun y1=>(some (((-1:Int),()),()))) (fun r2=>(some r2))))
theorem zeG:tM2 zcp zbk:=eM2
def za5 (a0:Yj) (a1:YA):Option Yd:=
  ((zcp O a0 a1).bind fun r1=>(some (((decide (r1.1.1>=0)),()),())))
theorem zkb:tM2 za4 za5:=eM2
def zlH (a0:Yj) (a1:Yb) (a2:Int):Option (Yg⊕Ys):=
  (if (decide (a2<12))=true then ((((za4 O a0 (a2,())).bind fun r2=>(if r2.1.1=true then (if (List.length a1+List.length ([a2]:Yb))*8<=140737488355328 then (some (.inl (a0,(a1++([a2]:Yb)),a2,()))) else none) else (some (.inl (a0,a1,a2,()))))):Option ((Yj×Yb×Int×Unit)⊕(Yg⊕(Ys)))).bind (Sum.elim (fun q1=>(zjG O q1.1 q1.2.1 (i64.wrap (q1.2.2.1+1)))) (fun r=>some r))) else (some (.inl (a1,()))))
theorem zuj:tM3 zjG zlH:=eM3
def ztY (a0:Yj):Option Ys:=
  ((zjG O a0 [] (0:Int)).bind (Sum.elim (fun y1=>(some ((y1.1,()),()))) (fun r2=>(some r2))))
theorem zDz:tM1 zin ztY:=eM1
def zkV (a0:Yj) (a1:Ye) (a2 a3:Int):Option (YL⊕Ym):=
  (if (decide (a3<a2))=true then ((idx a1 a3).bind fun x1=>(if (List.length a0+List.length ([x1.2.1,x1.2.2.1]:Yj))*24<=140737488355328 then (ziI O (a0++([x1.2.1,x1.2.2.1]:Yj)) a1 a2 (i64.wrap (a3+1))) else none)) else (some (.inl (a0,()))))
theorem zs2:tM4 ziI zkV:=eM4
def zsr (a0:Ye):Option Ym:=
  ((ziI O [] a0 (a0.length:Int) (0:Int)).bind (Sum.elim (fun y1=>(some ((y1.1,()),()))) (fun r2=>(some r2))))
theorem zCM:tM1 zbO zsr:=eM1
def zno (a0:Yg) (a1:Ye):Option Yd:=
  ((zcf O (a0.1,()) a1).bind fun r1=>(if r1.1.1=true then ((zbO O a1).bind fun r2=>((zin O r2.1.1).bind fun r3=>(some (((decide ((r3.1.1.length:Int)<=(6:Int))),()),())))) else (some ((false,()),()))))
theorem zx5:tM2 zj9 zno:=eM2
def zh7 (a0 a1:Yb) (a2:Yg) (a3:Yw) (a4 a5 a6 a7 a8:Int):Option ((Yw×Int×Int×Int×Unit)⊕((Int×Int×Unit)×(Unit))):=
  (if (decide (a8<a7))=true then ((zjw O (a2.1,()) (a3.1,a3.2.1,()) a0 a6 a1).bind fun r1=>(zgb O a0 a1 (a2.1,()) (a3.1,a3.2.1,()) a4 (i64.wrap ((i64.wrap (a5*a3.1))+r1.1.1)) r1.1.2.1 a7 (i64.wrap (a8+1)))) else (some (.inl ((a3.1,a3.2.1,()),a4,a5,a6,()))))
theorem zqE:tM9 zgb zh7:=eM9
def zqh (a0:Yg) (a1:Yw) (a2:Yb) (a3:Int) (a4:Yb):Option ((Int×Int×Unit)×(Unit)):=
  ((idx a2 a3).bind fun x1=>(if (decide (x1<0))=true then ((idx a4 (i64.wrap ((-1:Int)-x1))).bind fun x2=>(some ((x2,(i64.wrap (a3+1)),()),()))) else ((ze5 O (a0.1,()) x1).bind fun r3=>((zgb O a2 a4 (a0.1,()) (a1.1,a1.2.1,()) x1 (0:Int) (i64.wrap (a3+1)) r3.1.1 (0:Int)).bind (Sum.elim (fun y4=>((idx y4.1.2.1 y4.2.1).bind fun x6=>((idx x6 y4.2.2.1).bind fun x7=>(some ((x7,y4.2.2.2.1,()),()))))) (fun r5=>(some r5)))))))
theorem zAn:tM5 zjw zqh:=eM5
def zo7 (a0:Yg) (a1:Yw) (a2 a3:Yb):Option Yh:=
  ((zjw O (a0.1,()) (a1.1,a1.2.1,()) a2 (0:Int) a3).bind fun r1=>(some ((r1.1.1,()),())))
theorem zz6:tM4 ziS zo7:=eM4
def zlS (a0:Ya) (a1:Yg) (a2:Yw) (a3:Yb):Option Yd:=
  ((ziS O (a1.1,()) (a2.1,a2.2.1,()) a0.2.1 a3).bind fun r1=>((ziS O (a1.1,()) (a2.1,a2.2.1,()) a0.2.2.1 a3).bind fun r2=>(some ((((r1.1.1==r2.1.1)==a0.1),()),()))))
theorem zwO:tM4 zh4 zlS:=eM4
def zw (a0:Ye) (a1:Yg×Yw×Yb×Unit) (a2 a3:Int):Option YC:=
  (if (decide (a3<a2))=true then ((idx a0 a3).bind fun x1=>((zh4 O (x1.1,x1.2.1,x1.2.2.1,()) a1.1 a1.2.1 a1.2.2.1).bind fun r2=>(if r2.1.1=true then (some (.inr ((a3,()),()))) else (zD O a0 a1 a2 (i64.wrap (a3+1)))))) else (some (.inl ())))
theorem zaV:tM4 zD zw:=eM4
def zan (a0:Ye) (a1:Yg×Yw×Yb×Unit):Option Yh:=
  ((zD O a0 a1 (a0.length:Int) (0:Int)).bind (Sum.elim (fun y1=>(some (((-1:Int),()),()))) (fun r2=>(some r2))))
theorem zcw:tM2 zba zan:=eM2
def zaZ (a0:Ye) (a1:Yg×Yw×Yb×Unit):Option Yd:=
  ((zba O a0 a1).bind fun r1=>(some (((decide (r1.1.1>=0)),()),())))
theorem zgd:tM2 zac zaZ:=eM2
def znm (a0:Yg) (a1:Yw) (a2:Ye) (a3:Yb):Option Yd:=
  ((zac O a2 ((a0.1,()),(a1.1,a1.2.1,()),a3,())).bind fun r1=>(some ((r1.1.1,()),())))
theorem zya:tM4 zjZ znm:=eM4
def zkf (a0:Ye) (a1:Yg) (a2:Yw) (a3 a4:Yb):Option ((Unit)⊕Yv):=
  ((zjZ O (a1.1,()) (a2.1,a2.2.1,()) a0 a4).bind fun r1=>(if (!r1.1.1)=true then (some (.inr ((a4,true,()),()))) else ((zdH O a0 (a1.1,()) (a2.1,a2.2.1,()) a3 a4 (i64.wrap ((a3.length:Int)-(1:Int)))).bind (Sum.elim (fun y2=>(if (decide (y2.2.2.2.2.2.1<0))=true then (some (.inr (([],false,()),()))) else (if 0<=y2.2.2.2.2.2.1∧y2.2.2.2.2.2.1<(y2.2.2.2.1.length:Int) then ((y2.2.2.2.1[y2.2.2.2.2.2.1.toNat]?).bind fun x4=>(if 0<=x4∧x4<(y2.2.2.2.2.1.length:Int) then ((y2.2.2.2.2.1[x4.toNat]?).bind fun x5=>(if 0<=x4∧x4<(y2.2.2.2.2.1.length:Int) then ((y2.2.2.2.2.1[x4.toNat]?).bind fun x6=>(zcs O y2.1 (y2.2.1.1,()) (y2.2.2.1.1,y2.2.2.1.2.1,()) y2.2.2.2.1 (y2.2.2.2.2.1.set x4.toNat (i64.wrap (x5+1))))) else none)) else none)) else none))) (fun r3=>(some (.inr r3)))))))
theorem zvU:tM5 zcs zkf:=eM5
def zdn (a0:Ye) (a1:Yg) (a2:Yw) (a3 a4:Yb) (a5:Int):Option ((Ye×Yg×Yw×Yb×Yb×Int×Unit)⊕Yv):=
  (if (decide (a5>=0))=true then (if 0<=a5∧a5<(a3.length:Int) then ((a3[a5.toNat]?).bind fun x1=>(if 0<=x1∧x1<(a4.length:Int) then ((a4[x1.toNat]?).bind fun x2=>(if (x2==(i64.wrap (a2.1-1)))=true then (if 0<=a5∧a5<(a3.length:Int) then ((a3[a5.toNat]?).bind fun x3=>(if 0<=x3∧x3<(a4.length:Int) then ((a4[x3.toNat]?).bind fun x4=>(zdH O a0 (a1.1,()) (a2.1,a2.2.1,()) a3 (a4.set x3.toNat (0:Int)) (i64.wrap (a5-1)))) else none)) else none) else (some (.inl (a0,(a1.1,()),(a2.1,a2.2.1,()),a3,a4,a5,()))))) else none)) else none) else (some (.inl (a0,(a1.1,()),(a2.1,a2.2.1,()),a3,a4,a5,()))))
theorem zi2:tM6 zdH zdn:=eM6
def znf (a0:Yg) (a1:Yw) (a2:Ye):Option Yv:=
  ((zbO O a2).bind fun r1=>((zin O r1.1.1).bind fun r2=>(if 0<=(12:Int)∧((8:Nat):Int)*(12:Int)<=140737488355328∧(12:Int)=(12:Int) then ((zcs O a2 (a0.1,()) (a1.1,a1.2.1,()) r2.1.1 (List.replicate (Int.toNat (12:Int)) (0:Int))).bind (Sum.elim (fun y3=>none) (fun r4=>(some r4)))) else none)))
theorem zyg:tM3 zjS znf:=eM3
def zsN (a0:Yg) (a1:Yw) (a2:Ye):Option YD:=
  ((zmh O (a0.1,()) (a1.1,a1.2.1,())).bind fun r1=>(if (!r1.1.1)=true then (some ((false,false,()),())) else ((zj9 O (a0.1,()) a2).bind fun r2=>(if (!r2.1.1)=true then (some ((false,false,()),())) else ((zjS O (a0.1,()) (a1.1,a1.2.1,()) a2).bind fun r3=>(some (((!r3.1.2.1),true,()),())))))))
theorem zCk:tM3 zcG zsN:=eM3
def zfB (a0:Yg) (a1:Yw) (a2:Bool) (a3:Yt) (a4 a5:Int):Option (YK⊕YD):=
  (if (decide (a5<a4))=true then ((idx a3 a5).bind fun x1=>((zcG O (a0.1,()) (a1.1,a1.2.1,()) x1).bind fun r2=>(if (!r2.1.2.1)=true then (some (.inr ((false,false,()),()))) else (if a2=true then (zc8 O (a0.1,()) (a1.1,a1.2.1,()) r2.1.1 a3 a4 (i64.wrap (a5+1))) else (zc8 O (a0.1,()) (a1.1,a1.2.1,()) false a3 a4 (i64.wrap (a5+1))))))) else (some (.inl (a2,()))))
theorem zkW:tM6 zc8 zfB:=eM6
def zox (a0:Yg) (a1:Yw) (a2:Yt):Option YD:=
  ((zc8 O (a0.1,()) (a1.1,a1.2.1,()) true a2 (a2.length:Int) (0:Int)).bind (Sum.elim (fun y1=>(some ((y1.1,true,()),()))) (fun r2=>(some r2))))
theorem zwZ:tM3 zg6 zox:=eM3
def zoU (a0:Yg) (a1:Ye):Option Yd:=
  ((zen O (a0.1,())).bind fun r1=>(if r1.1.1=true then ((zcf O (a0.1,()) a1).bind fun r2=>(some ((r2.1.1,()),()))) else (some ((false,()),()))))
theorem zz7:tM2 zlj zoU:=eM2
def zeT (a0 a1:Yb) (a2 a3:Int):Option Yy:=
  (if (decide (a3<a2))=true then ((idx a0 a3).bind fun x1=>((idx a1 a3).bind fun x2=>(if (x1 !=x2)=true then (some (.inr ((false,()),()))) else (zdm O a0 a1 a2 (i64.wrap (a3+1)))))) else (some (.inl ())))
theorem zmL:tM4 zdm zeT:=eM4
def zk9 (a0 a1:Yb):Option Yd:=
  (if ((a0.length:Int) !=(a1.length:Int))=true then (some ((false,()),())) else ((zdm O a0 a1 (a0.length:Int) (0:Int)).bind (Sum.elim (fun y1=>(some ((true,()),()))) (fun r2=>(some r2)))))
theorem zwt:tM2 zL zk9:=eM2
def zql (a0 a1:Ya):Option Yd:=
  ((zL O a0.2.1 a1.2.1).bind fun r1=>(if r1.1.1=true then ((zL O a0.2.2.1 a1.2.2.1).bind fun r2=>(if r2.1.1=true then (some ((true,()),())) else ((zL O a0.2.1 a1.2.2.1).bind fun r3=>(if r3.1.1=true then ((zL O a0.2.2.1 a1.2.1).bind fun r4=>(some ((r4.1.1,()),()))) else (some ((false,()),())))))) else ((zL O a0.2.1 a1.2.2.1).bind fun r5=>(if r5.1.1=true then ((zL O a0.2.2.1 a1.2.1).bind fun r6=>(some ((r6.1.1,()),()))) else (some ((false,()),()))))))
theorem zAw:tM2 zjv zql:=eM2
def zmf (a0 a1:Ya):Option Yd:=
  (if (!(a1.1==a0.1))=true then ((zjv O (a1.1,a1.2.1,a1.2.2.1,()) (a0.1,a0.2.1,a0.2.2.1,())).bind fun r1=>(some ((r1.1.1,()),()))) else (some ((false,()),())))
theorem zxD:tM2 zjh zmf:=eM2
def zB (a0:Ye) (a1:Ya×Unit) (a2 a3:Int):Option YC:=
  (if (decide (a3<a2))=true then ((idx a0 a3).bind fun x1=>((zjh O (x1.1,x1.2.1,x1.2.2.1,()) a1.1).bind fun r2=>(if r2.1.1=true then (some (.inr ((a3,()),()))) else (zF O a0 a1 a2 (i64.wrap (a3+1)))))) else (some (.inl ())))
theorem zaX:tM4 zF zB:=eM4
def zaq (a0:Ye) (a1:Ya×Unit):Option Yh:=
  ((zF O a0 a1 (a0.length:Int) (0:Int)).bind (Sum.elim (fun y1=>(some (((-1:Int),()),()))) (fun r2=>(some r2))))
theorem zcE:tM2 zbe zaq:=eM2
def za1 (a0:Ye) (a1:Ya×Unit):Option Yd:=
  ((zbe O a0 a1).bind fun r1=>(some (((decide (r1.1.1>=0)),()),())))
theorem zgz:tM2 zE za1:=eM2
def zhf (a0 a1:Ye) (a2 a3:Int):Option Yy:=
  (if (decide (a3<a2))=true then ((idx a1 a3).bind fun x1=>(if x1.1=true then ((zL O x1.2.1 x1.2.2.1).bind fun r2=>(if r2.1.1=true then (some (.inr ((true,()),()))) else ((zE O a0 ((x1.1,x1.2.1,x1.2.2.1,()),())).bind fun r3=>(if r3.1.1=true then (some (.inr ((true,()),()))) else (zdx O a0 a1 a2 (i64.wrap (a3+1))))))) else ((zE O a0 ((x1.1,x1.2.1,x1.2.2.1,()),())).bind fun r4=>(if r4.1.1=true then (some (.inr ((true,()),()))) else (zdx O a0 a1 a2 (i64.wrap (a3+1))))))) else (some (.inl ())))
theorem zpE:tM4 zdx zhf:=eM4
def zob (a0:Ye):Option Yd:=
  ((zdx O a0 a0 (a0.length:Int) (0:Int)).bind (Sum.elim (fun y1=>(some ((false,()),()))) (fun r2=>(some r2))))
theorem zyK:tM1 zk3 zob:=eM1
def zrB (O:Oracle E1) (a0:Ya) (a1:Int):Option ((Yb×Yb×Unit)×(Unit)):=
  (if (a1==0)=true then (some ((a0.2.1,a0.2.2.1,()),())) else (some ((a0.2.2.1,a0.2.1,()),())))
theorem zBh:tM2 zaE zrB:=eM2
def zj7 (a0:Yb) (a1:Int) (a2:Yg) (a3:Int):Option (YA⊕Yh):=
  (if (decide (a3>0))=true then ((idx a0 a1).bind fun x1=>((ze5 O (a2.1,()) x1).bind fun r2=>(zhI O a0 (i64.wrap (a1+1)) (a2.1,()) (i64.wrap (a3+(i64.wrap (r2.1.1-1))))))) else (some (.inl (a1,()))))
theorem zsd:tM4 zhI zj7:=eM4
def zkK (a0:Yg) (a1:Yb) (a2:Int):Option Yh:=
  ((zhI O a1 a2 (a0.1,()) (1:Int)).bind (Sum.elim (fun y1=>(some ((y1.1,()),()))) (fun r2=>(some r2))))
theorem zrj:tM3 zes zkK:=eM3
def zaz (a0:Yj) (a1:Yb) (a2:Yg) (a3:Int) (a4:Yb) (a5 a6:Int):Option ((Yj×Yb×Int×Unit)⊕Yk):=
  (if (decide (a6<a5))=true then ((((idx a4 a6).bind fun x2=>(if (decide (a3>=(a1.length:Int)))=true then ((some (.inr (([],false,()),()))).map .inr) else (if (decide (x2>=0))=true then ((idx a1 a3).bind fun x3=>(if (x3 !=x2)=true then ((some (.inr (([],false,()),()))).map .inr) else (some (.inl (a0,a1,(a2.1,()),(i64.wrap (a3+1)),a4,a5,a6,()))))) else ((zes O (a2.1,()) a1 a3).bind fun r4=>(if 0<=a3∧a3<=r4.1.1∧r4.1.1<=(a1.length:Int) then (((if 0<=(i64.wrap ((-1:Int)-x2))∧(i64.wrap ((-1:Int)-x2))<(a0.length:Int) then ((a0[(Int.toNat (i64.wrap ((-1:Int)-x2)))]?).bind fun x6=>(if ((x6.length:Int)==(0:Int))=true then (if List.length ((a1.take r4.1.1.toNat).drop a3.toNat)*8<=140737488355328 then (if 0<=(i64.wrap ((-1:Int)-x2))∧(i64.wrap ((-1:Int)-x2))<(a0.length:Int) then ((a0[(Int.toNat (i64.wrap ((-1:Int)-x2)))]?).bind fun x7=>(some (.inl ((a0.set (Int.toNat (i64.wrap ((-1:Int)-x2))) ((a1.take r4.1.1.toNat).drop a3.toNat)),a1,(a2.1,()),r4.1.1,a4,a5,a6,())))) else none) else none) else ((zL O x6 ((a1.take r4.1.1.toNat).drop a3.toNat)).bind fun r8=>(if (!r8.1.1)=true then (((some (.inr (([],false,()),()))).map .inr).map .inr) else (some (.inl (a0,a1,(a2.1,()),r4.1.1,a4,a5,a6,()))))))) else none):Option ((Yj×Yb×Yg×Int×Yb×Int×Int×Unit)⊕((Yj×Yb×Yg×Int×Yb×Int×Int×Unit)⊕((Yj×Yb×Int×Unit)⊕(Yk))))).bind (Sum.elim (fun q5=>(some (.inl (q5.1,q5.2.1,(q5.2.2.1.1,()),q5.2.2.2.1,q5.2.2.2.2.1,q5.2.2.2.2.2.1,q5.2.2.2.2.2.2.1,())))) (fun r=>some r))) else none))))):Option ((Yj×Yb×Yg×Int×Yb×Int×Int×Unit)⊕((Yj×Yb×Int×Unit)⊕(Yk)))).bind (Sum.elim (fun q1=>(zbv O q1.1 q1.2.1 (q1.2.2.1.1,()) q1.2.2.2.1 q1.2.2.2.2.1 q1.2.2.2.2.2.1 (i64.wrap (q1.2.2.2.2.2.2.1+1)))) (fun r=>some r))) else (some (.inl (a0,a1,a3,()))))
theorem zbi:tM7 zbv zaz:=eM7
def zln (a0:Yg) (a1:Yj) (a2 a3:Yb):Option Yk:=
  (if List.length a1*24<=140737488355328 then ((zbv O a1 a3 (a0.1,()) (0:Int) a2 (a2.length:Int) (0:Int)).bind (Sum.elim (fun y1=>(some ((y1.1,(y1.2.2.1==(y1.2.1.length:Int)),()),()))) (fun r2=>(some r2)))) else none)
theorem zur:tM4 zcy zln:=eM4
def zby (a0:Yj) (a1 a2:Ye) (a3:Yg) (a4:Ye) (a5 a6:Int):Option ((Unit)⊕Yk):=
  (if (decide (a6<a5))=true then ((((idx a4 a6).bind fun x2=>((idx a1 (0:Int)).bind fun x3=>(if (!(x2.1==x3.1))=true then (some (.inl (a0,a1,a2,(a3.1,()),a4,a5,a6,()))) else ((zaO O a0 a1 a2 (a3.1,()) (x2.1,x2.2.1,x2.2.2.1,()) a4 a5 a6 (0:Int)).bind (Sum.elim (fun y4=>(some (.inl (y4.1,y4.2.1,y4.2.2.1,(y4.2.2.2.1.1,()),y4.2.2.2.2.1,y4.2.2.2.2.2.1,y4.2.2.2.2.2.2.1,())))) (fun r5=>((some (.inr r5)).map .inr))))))):Option ((Yj×Ye×Ye×Yg×Ye×Int×Int×Unit)⊕((Unit)⊕(Yk)))).bind (Sum.elim (fun q1=>(zbM O q1.1 q1.2.1 q1.2.2.1 (q1.2.2.2.1.1,()) q1.2.2.2.2.1 q1.2.2.2.2.2.1 (i64.wrap (q1.2.2.2.2.2.2.1+1)))) (fun r=>some r))) else (some (.inl ())))
theorem zcR:tM7 zbM zby:=eM7
def za6 (a0:Yj) (a1 a2:Ye) (a3:Yg) (a4:Ya) (a5:Ye) (a6 a7 a8:Int):Option ((Yj×Ye×Ye×Yg×Ye×Int×Int×Unit)⊕Yk):=
  (if (decide (a8<2))=true then ((((zaE O (a4.1,a4.2.1,a4.2.2.1,()) a8).bind fun r2=>((idx a1 (0:Int)).bind fun x3=>((zcy O (a3.1,()) a0 x3.2.1 r2.1.1).bind fun r4=>(((if r4.1.2.1=true then ((idx a1 (0:Int)).bind fun x6=>((zcy O (a3.1,()) r4.1.1 x6.2.2.1 r2.1.2.1).bind fun r7=>(some (.inl (a0,a1,a2,(a3.1,()),(a4.1,a4.2.1,a4.2.2.1,()),r7.1.1,r7.1.2.1,a5,a6,a7,a8,()))))) else (some (.inl (a0,a1,a2,(a3.1,()),(a4.1,a4.2.1,a4.2.2.1,()),r4.1.1,r4.1.2.1,a5,a6,a7,a8,())))):Option ((Yj×Ye×Ye×Yg×Ya×Yj×Bool×Ye×Int×Int×Int×Unit)⊕((Yj×Ye×Ye×Yg×Ya×Ye×Int×Int×Int×Unit)⊕((Yj×Ye×Ye×Yg×Ye×Int×Int×Unit)⊕(Yk))))).bind (Sum.elim (fun q5=>(if (!q5.2.2.2.2.2.2.1)=true then (some (.inl (q5.1,q5.2.1,q5.2.2.1,(q5.2.2.2.1.1,()),(q5.2.2.2.2.1.1,q5.2.2.2.2.1.2.1,q5.2.2.2.2.1.2.2.1,()),q5.2.2.2.2.2.2.2.1,q5.2.2.2.2.2.2.2.2.1,q5.2.2.2.2.2.2.2.2.2.1,q5.2.2.2.2.2.2.2.2.2.2.1,()))) else (if 0<=(1:Int)∧(1:Int)<=(q5.2.1.length:Int)∧(q5.2.1.length:Int)<=(q5.2.1.length:Int) then ((zeC O (q5.2.2.2.1.1,()) q5.2.2.2.2.2.1 ((q5.2.1.take (Int.toNat (q5.2.1.length:Int))).drop (Int.toNat (1:Int))) q5.2.2.1).bind fun r8=>(if r8.1.2.1=true then ((some (.inr ((r8.1.1,true,()),()))).map .inr) else (some (.inl (q5.1,q5.2.1,q5.2.2.1,(q5.2.2.2.1.1,()),(q5.2.2.2.2.1.1,q5.2.2.2.2.1.2.1,q5.2.2.2.2.1.2.2.1,()),q5.2.2.2.2.2.2.2.1,q5.2.2.2.2.2.2.2.2.1,q5.2.2.2.2.2.2.2.2.2.1,q5.2.2.2.2.2.2.2.2.2.2.1,()))))) else none))) (fun r=>some r)))))):Option ((Yj×Ye×Ye×Yg×Ya×Ye×Int×Int×Int×Unit)⊕((Yj×Ye×Ye×Yg×Ye×Int×Int×Unit)⊕(Yk)))).bind (Sum.elim (fun q1=>(zaO O q1.1 q1.2.1 q1.2.2.1 (q1.2.2.2.1.1,()) (q1.2.2.2.2.1.1,q1.2.2.2.2.1.2.1,q1.2.2.2.2.1.2.2.1,()) q1.2.2.2.2.2.1 q1.2.2.2.2.2.2.1 q1.2.2.2.2.2.2.2.1 (i64.wrap (q1.2.2.2.2.2.2.2.2.1+1)))) (fun r=>some r))) else (some (.inl (a0,a1,a2,(a3.1,()),a5,a6,a7,()))))
theorem zeZ:tM9 zaO za6:=eM9
def zgX (a0:Yg) (a1:Yj) (a2 a3:Ye):Option Yk:=
  (if ((a2.length:Int)==(0:Int))=true then (some ((a1,true,()),())) else ((zbM O a1 a2 a3 (a0.1,()) a3 (a3.length:Int) (0:Int)).bind (Sum.elim (fun y1=>(some (([],false,()),()))) (fun r2=>(some r2)))))
theorem znj:tM4 zeC zgX:=eM4
end
end Go.Proofs.YtchkojfhcdcnmaaGreatMd.Ev
