/- A text of its own: Eq9; no condition but those that each theorem names. -/
import Derived.Test.YtchkojfhcdcnmaaGreatMdNm
import Derived.KernelRfl
namespace Go.Proofs.YtchkojfhcdcnmaaGreatMd.Ev
open Go Go.IntKind
set_option maxRecDepth 100000
set_option autoImplicit false
set_option linter.unusedVariables false
noncomputable section
variable (O : Oracle E1)
def zje (a0:Yg) (a1:Yt) (a2:Yq) (a3:Int) (a4 a5:Yb):Option ((Yc×Bool×Unit)×(Unit)):=
  ((zmq O (a0.1,()) a1 a2 a3 a4 a5).bind fun r1=>(if (!r1.1.2.1)=true then (some ((((0:Int),[],[],[],()),false,()),())) else (if List.length a4*8<=140737488355328 then (if List.length a5*8<=140737488355328 then (some (((a3,a4,a5,r1.1.1,()),true,()),())) else none) else none)))
theorem zrP:tM6 zgq zje:=eM6
def zem (a0:Yg) (a1:Yt) (a2:Yq) (a3:Int) (a4 a5:Yb):Option ((Yc×Bool×Unit)×(Unit)):=
  ((zen O (a0.1,())).bind fun r1=>(if (!r1.1.1)=true then (some ((((0:Int),[],[],[],()),false,()),())) else ((zh3 O (a0.1,()) a1).bind fun r2=>(if (!r2.1.1)=true then (some ((((0:Int),[],[],[],()),false,()),())) else ((zd6 O (a0.1,()) a2).bind fun r3=>(if (!r3.1.1)=true then (some ((((0:Int),[],[],[],()),false,()),())) else ((zlQ O a2 a4).bind fun r4=>(if (!r4.1.1)=true then (some ((((0:Int),[],[],[],()),false,()),())) else ((zgq O (a0.1,()) a1 a2 a3 a4 a5).bind fun r5=>(some (((r5.1.1.1,r5.1.1.2.1,r5.1.1.2.2.1,r5.1.1.2.2.2.1,()),r5.1.2.1,()),())))))))))))
theorem zh2:tM6 zkQ zem:=eM6
def zdD (a0:Yq) (a1:Yg) (a2:Yq) (a3 a4:Int):Option ((Yq×Yg×Unit)⊕Yd):=
  (if (decide (a4<a3))=true then ((idx a2 a4).bind fun x1=>((zaG O (a1.1,()) x1.2.2.2.1).bind fun r2=>(if (!r2.1.1)=true then (some (.inr ((false,()),()))) else (zc9 O a0 (a1.1,()) a2 a3 (i64.wrap (a4+1)))))) else (some (.inl (a0,(a1.1,()),()))))
theorem zfD:tM5 zc9 zdD:=eM5
def zl3 (a0:Yg) (a1:Yq):Option Yd:=
  ((zc9 O a1 (a0.1,()) a1 (a1.length:Int) (0:Int)).bind (Sum.elim (fun y1=>((zfW O (y1.2.1.1,())).bind fun r3=>(if r3.1.1=true then (some (((decide ((y1.1.length:Int)<=(200:Int))),()),())) else (some ((false,()),()))))) (fun r2=>(some r2))))
theorem zwH:tM2 zg8 zl3:=eM2
def zej (a0:Yg) (a1:Yt) (a2:Yq) (a3:Int) (a4 a5:Yb):Option ((Yc×Bool×Unit)×(Unit)):=
  ((zhR O (a0.1,()) a1).bind fun r1=>(if (!r1.1.1)=true then (some ((((0:Int),[],[],[],()),false,()),())) else ((zg8 O (a0.1,()) a2).bind fun r2=>(if (!r2.1.1)=true then (some ((((0:Int),[],[],[],()),false,()),())) else ((zeU O (a0.1,()) a1 a2 a3 a4 a5).bind fun r3=>(some (((r3.1.1.1,r3.1.1.2.1,r3.1.1.2.2.1,r3.1.1.2.2.2.1,()),r3.1.2.1,()),())))))))
theorem zhZ:tM6 zkY zej:=eM6
def zf5 (a0:Yg) (a1:Yj) (a2 a3:Int):Option Yy:=
  (if (decide (a3<a2))=true then ((idx a1 a3).bind fun x1=>(if (decide ((x1.length:Int)>(0:Int)))=true then ((zdV O (a0.1,()) x1).bind fun r2=>(if (!r2.1.1)=true then (some (.inr ((false,()),()))) else (zbW O (a0.1,()) a1 a2 (i64.wrap (a3+1))))) else (zbW O (a0.1,()) a1 a2 (i64.wrap (a3+1))))) else (some (.inl ())))
theorem zmE:tM4 zbW zf5:=eM4
def zg9 (a0:Yg) (a1:Yj):Option Yd:=
  ((zfW O (a0.1,())).bind fun r1=>(if (!r1.1.1)=true then (some ((false,()),())) else (if ((a1.length:Int) !=(12:Int))=true then (some ((false,()),())) else ((zbW O (a0.1,()) a1 (a1.length:Int) (0:Int)).bind (Sum.elim (fun y2=>(some ((true,()),()))) (fun r3=>(some r3)))))))
theorem zmo:tM2 ze4 zg9:=eM2
def zmD (a0:Yg) (a1:Ye):Option YG:=
  ((zaG O (a0.1,()) a1).bind fun r1=>(if (!r1.1.1)=true then (some (([],false,()),())) else (some ((a1,true,()),()))))
theorem zvv:tM2 zjE zmD:=eM2
def zci (a0:Yg) (a1:Yj) (a2:Ye):Option YG:=
  ((ze4 O (a0.1,()) a1).bind fun r1=>(if (!r1.1.1)=true then (some (([],false,()),())) else ((zaG O (a0.1,()) a2).bind fun r2=>(if (!r2.1.1)=true then (some (([],false,()),())) else ((zfp O a1 a2).bind fun r3=>((zjE O (a0.1,()) r3.1.1).bind fun r4=>(some ((r4.1.1,r4.1.2.1,()),()))))))))
theorem ztw:tM3 zhL zci:=eM3
def zhw (a0:Yi) (a1:Yg) (a2:Yj) (a3:Int):Option ((Yi×Yj×Unit)⊕(YL×Yx)):=
  (if (decide (a3>0))=true then ((ze O (a0.1,a0.2.1,a0.2.2.1,()) (4:Int)).bind fun r1=>((ze O (r1.2.1.1,r1.2.1.2.1,r1.2.1.2.2.1,()) (2:Int)).bind fun r2=>((zb3 O (r2.2.1.1,r2.2.1.2.1,r2.2.1.2.2.1,()) (a1.1,()) (i64.wrap ((1:Int)+r2.1.1)) (4:Int)).bind fun r3=>(if 0<=r1.1.1∧r1.1.1<(a2.length:Int) then ((a2[r1.1.1.toNat]?).bind fun x4=>(zfH O (r3.2.1.1,r3.2.1.2.1,r3.2.1.2.2.1,()) (a1.1,()) (a2.set r1.1.1.toNat r3.1.1) (i64.wrap (a3-1)))) else none)))) else (some (.inl ((a0.1,a0.2.1,a0.2.2.1,()),a2,()))))
theorem zpf:tM4 zfH zhw:=eM4
def znY (a0:Yi) (a1:Yg):Option (YL×Yx):=
  (if 0<=(12:Int)∧((24:Nat):Int)*(12:Int)<=140737488355328∧(12:Int)=(12:Int) then ((ze O (a0.1,a0.2.1,a0.2.2.1,()) (5:Int)).bind fun r1=>((zfH O (r1.2.1.1,r1.2.1.2.1,r1.2.1.2.2.1,()) (a1.1,()) (List.replicate (Int.toNat (12:Int)) ([]:Yb)) r1.1.1).bind (Sum.elim (fun y2=>((((zJ O (y2.1.1,y2.1.2.1,y2.1.2.2.1,()) (40:Int)).bind fun r5=>(if r5.1.1=true then (if 0<=(1:Int)∧(1:Int)<=(y2.2.1.length:Int)∧(y2.2.1.length:Int)<=(y2.2.1.length:Int) then (some (.inl ((r5.2.1.1,r5.2.1.2.1,r5.2.1.2.2.1,()),((y2.2.1.take (Int.toNat (y2.2.1.length:Int))).drop (Int.toNat (1:Int))),()))) else none) else (some (.inl ((r5.2.1.1,r5.2.1.2.1,r5.2.1.2.2.1,()),y2.2.1,()))))):Option ((Yi×Yj×Unit)⊕YL×Yx)).bind (Sum.elim (fun q4=>(some ((q4.2.1,()),((q4.1.1,q4.1.2.1,q4.1.2.2.1,()),())))) (fun r=>some r)))) (fun r3=>(some r3))))) else none)
theorem zyU:tM2 zk0 znY:=eM2
def zni (a0:Yb):Option ((Yg×Ye×Ye×Unit)×(Unit)):=
  ((zix O (a0,(0:Int),(0:Int),())).bind fun r1=>((zcx O (r1.2.1.1,r1.2.1.2.1,r1.2.1.2.2.1,()) (r1.1.1.1,())).bind fun r2=>((zk0 O (r2.2.1.1,r2.2.1.2.1,r2.2.1.2.2.1,()) (r1.1.1.1,())).bind fun r3=>((zhL O (r1.1.1.1,()) r3.1.1 r2.1.1).bind fun r4=>(if r4.1.2.1=true then ((zJ O (r3.2.1.1,r3.2.1.2.1,r3.2.1.2.2.1,()) (2:Int)).bind fun r5=>(if r5.1.1=true then ((zg4 O (r5.2.1.1,r5.2.1.2.1,r5.2.1.2.2.1,()) (r1.1.1.1,())).bind fun r6=>(if (List.length r4.1.1+List.length ([(r6.1.1.1,r6.1.1.2.1,r6.1.1.2.2.1,())]:Ye))*56<=140737488355328 then (((if (decide ((List.length (r4.1.1++([(r6.1.1.1,r6.1.1.2.1,r6.1.1.2.2.1,())]:Ye)):Int)>(1:Int)))=true then ((zJ O (r6.2.1.1,r6.2.1.2.1,r6.2.1.2.2.1,()) (2:Int)).bind fun r8=>(if r8.1.1=true then (if 0<=(0:Int)∧(0:Int)<(List.length (r4.1.1++([(r6.1.1.1,r6.1.1.2.1,r6.1.1.2.2.1,())]:Ye)):Int) then (((r4.1.1++([(r6.1.1.1,r6.1.1.2.1,r6.1.1.2.2.1,())]:Ye))[(Int.toNat (0:Int))]?).bind fun x9=>(if 0<=(1:Int)∧(1:Int)<(List.length (r4.1.1++([(r6.1.1.1,r6.1.1.2.1,r6.1.1.2.2.1,())]:Ye)):Int) then (((r4.1.1++([(r6.1.1.1,r6.1.1.2.1,r6.1.1.2.2.1,())]:Ye))[(Int.toNat (1:Int))]?).bind fun x10=>(if 0<=(0:Int)∧(0:Int)<(List.length (r4.1.1++([(r6.1.1.1,r6.1.1.2.1,r6.1.1.2.2.1,())]:Ye)):Int) then (((r4.1.1++([(r6.1.1.1,r6.1.1.2.1,r6.1.1.2.2.1,())]:Ye))[(Int.toNat (0:Int))]?).bind fun x11=>(if 0<=(1:Int)∧(1:Int)<(List.length ((r4.1.1++([(r6.1.1.1,r6.1.1.2.1,r6.1.1.2.2.1,())]:Ye)).set (Int.toNat (0:Int)) (x10.1,x10.2.1,x10.2.2.1,())):Int) then ((((r4.1.1++([(r6.1.1.1,r6.1.1.2.1,r6.1.1.2.2.1,())]:Ye)).set (Int.toNat (0:Int)) (x10.1,x10.2.1,x10.2.2.1,()))[(Int.toNat (1:Int))]?).bind fun x12=>(some (.inl (([],()),(r1.1.1.1,()),r2.1.1,(((r4.1.1++([(r6.1.1.1,r6.1.1.2.1,r6.1.1.2.2.1,())]:Ye)).set (Int.toNat (0:Int)) (x10.1,x10.2.1,x10.2.2.1,())).set (Int.toNat (1:Int)) (x9.1,x9.2.1,x9.2.2.1,())),())))) else none)) else none)) else none)) else none) else (some (.inl (([],()),(r1.1.1.1,()),r2.1.1,(r4.1.1++([(r6.1.1.1,r6.1.1.2.1,r6.1.1.2.2.1,())]:Ye)),()))))) else (some (.inl (([],()),(r1.1.1.1,()),r2.1.1,(r4.1.1++([(r6.1.1.1,r6.1.1.2.1,r6.1.1.2.2.1,())]:Ye)),())))):Option ((Yg×Yg×Ye×Ye×Unit)⊕(Yg×Ye×Ye×Unit)×(Unit))).bind (Sum.elim (fun q7=>(some (((q7.2.1.1,()),q7.2.2.1,q7.2.2.2.1,()),()))) (fun r=>some r))) else none)) else ((zcx O (r5.2.1.1,r5.2.1.2.1,r5.2.1.2.2.1,()) (r1.1.1.1,())).bind fun r13=>(some (((r1.1.1.1,()),r2.1.1,r13.1.1,()),()))))) else ((zcx O (r3.2.1.1,r3.2.1.2.1,r3.2.1.2.2.1,()) (r1.1.1.1,())).bind fun r14=>(some (((r1.1.1.1,()),r2.1.1,r14.1.1,()),()))))))))
theorem zx2:tM1 zjR zni:=eM1
def zlb (a0:Yb):Option ((Yg×Ye×Yt×Unit)×(Unit)):=
  ((zjR O a0).bind fun r1=>((zdZ O (a0,(0:Int),(0:Int),()) (r1.1.1.1,()) (2:Int)).bind fun r2=>((((zJ O (r2.2.1.1,r2.2.1.2.1,r2.2.1.2.2.1,()) (2:Int)).bind fun r4=>(if r4.1.1=true then (if (List.length r2.1.1+List.length ([r1.1.2.1]:Yt))*24<=140737488355328 then (some (.inl (([],()),(r1.1.1.1,()),r1.1.2.2.1,(r2.1.1++([r1.1.2.1]:Yt)),()))) else none) else (some (.inl (([],()),(r1.1.1.1,()),r1.1.2.2.1,r2.1.1,()))))):Option ((Yg×Yg×Ye×Yt×Unit)⊕(Yg×Ye×Yt×Unit)×(Unit))).bind (Sum.elim (fun q3=>(some (((q3.2.1.1,()),q3.2.2.1,q3.2.2.2.1,()),()))) (fun r=>some r)))))
theorem zwp:tM1 zeO zlb:=eM1
def zoX (a0:Yg) (a1:Ye):Option Yd:=
  ((zfW O (a0.1,())).bind fun r1=>(if r1.1.1=true then ((zaG O (a0.1,()) a1).bind fun r2=>(some ((r2.1.1,()),()))) else (some ((false,()),()))))
theorem zz4:tM2 zlt zoX:=eM2
def zhd (a0:Ye) (a1:Yt) (a2:Yg) (a3:Yt) (a4 a5:Int):Option ((Ye×Yt×Yg×Unit)⊕YD):=
  (if (decide (a5<a4))=true then ((idx a3 a5).bind fun x1=>((zaG O (a2.1,()) x1).bind fun r2=>(if (!r2.1.1)=true then (some (.inr ((false,false,()),()))) else (zfe O a0 a1 (a2.1,()) a3 a4 (i64.wrap (a5+1)))))) else (some (.inl (a0,a1,(a2.1,()),()))))
theorem zpI:tM6 zfe zhd:=eM6
def zff (a0:Yg) (a1:Ye) (a2:Yt):Option YD:=
  ((zlt O (a0.1,()) a1).bind fun r1=>(if (!r1.1.1)=true then (some ((false,false,()),())) else (if (decide ((a2.length:Int)>(200:Int)))=true then (some ((false,false,()),())) else ((zfe O a1 a2 (a0.1,()) a2 (a2.length:Int) (0:Int)).bind (Sum.elim (fun y2=>((zdK O (y2.2.2.1.1,()) y2.1 y2.2.1).bind fun r4=>(some ((r4.1.1,true,()),())))) (fun r3=>(some r3)))))))
theorem zkL:tM3 zhN zff:=eM3
def zgk (a0:Yg) (a1:Yi) (a2:Yg) (a3:Yq) (a4:Yb) (a5:Int):Option ((Yg×Yi×Yg×Yq×Yb×Unit)⊕((Yg×Yq×Yb×Int×Unit)×(Unit))):=
  (if (decide (a5>0))=true then ((ze O (a1.1,a1.2.1,a1.2.2.1,()) (i64.wrap ((a3.length:Int)+(1:Int)))).bind fun r1=>(if (List.length a4+List.length ([r1.1.1]:Yb))*8<=140737488355328 then (zd8 O (a0.1,()) (r1.2.1.1,r1.2.1.2.1,r1.2.1.2.2.1,()) (a2.1,()) a3 (a4++([r1.1.1]:Yb)) (i64.wrap (a5-1))) else none)) else (some (.inl ((a0.1,()),(a1.1,a1.2.1,a1.2.2.1,()),(a2.1,()),a3,a4,()))))
theorem znX:tN6 zd8 zgk:=eN6
def znd (a0:Yb):Option ((Yg×Yq×Yb×Int×Unit)×(Unit)):=
  ((zjI O (a0,(0:Int),(0:Int),())).bind fun r1=>((ze O (r1.2.1.1,r1.2.1.2.1,r1.2.1.2.2.1,()) (6:Int)).bind fun r2=>((zd8 O ([],()) (r2.2.1.1,r2.2.1.2.1,r2.2.1.2.2.1,()) (r1.1.1.1,()) r1.1.2.2.1 [] r2.1.1).bind (Sum.elim (fun y3=>((ze O (y3.2.1.1,y3.2.1.2.1,y3.2.1.2.2.1,()) (10:Int)).bind fun r5=>(some (((y3.2.2.1.1,()),y3.2.2.2.1,y3.2.2.2.2.1,r5.1.1,()),())))) (fun r4=>(some r4))))))
theorem zyf:tN1 zgS znd:=eN1
def zlA (a0:Int) (a1:Yj) (a2 a3:Int):Option (YA⊕Yh):=
  (if (decide (a3<a2))=true then (if 0<=a3∧a3<(a1.length:Int) then ((a1[a3.toNat]?).bind fun x1=>(zjo O (i64.wrap (a0+(x1.length:Int))) a1 a2 (i64.wrap (a3+1)))) else none) else (some (.inl (a0,()))))
theorem zum:tM4 zjo zlA:=eM4
def ztI (a0:Ye):Option Yh:=
  ((zbO O a0).bind fun r1=>((zjo O (0:Int) r1.1.1 (r1.1.1.length:Int) (0:Int)).bind (Sum.elim (fun y2=>(some ((y2.1,()),()))) (fun r3=>(some r3)))))
theorem zDH:tM1 zm0 ztI:=eM1
def zeh (a0:Yq) (a1:Yb) (a2 a3:Int) (a4:Yb) (a5 a6:Int):Option (YA⊕Yh):=
  (if (decide (a6<a5))=true then ((((idx a4 a6).bind fun x2=>(if (4:Int)=0 then none else (if ((Int.tmod a2 (4:Int)) !=(0:Int))=true then ((idx a0 x2).bind fun x3=>((zm0 O x3.2.2.2.1).bind fun r4=>((idx a1 a3).bind fun x5=>((idx a0 x5).bind fun x6=>((zm0 O x6.2.2.2.1).bind fun r7=>(if (decide (r4.1.1<r7.1.1))=true then (some (.inl (a0,a1,a2,a6,a4,a5,a6,()))) else (some (.inl (a0,a1,a2,a3,a4,a5,a6,()))))))))) else (some (.inl (a0,a1,a2,a3,a4,a5,a6,())))))):Option ((Yq×Yb×Int×Int×Yb×Int×Int×Unit)⊕(YA⊕(Yh)))).bind (Sum.elim (fun q1=>(zgZ O q1.1 q1.2.1 q1.2.2.1 q1.2.2.2.1 q1.2.2.2.2.1 q1.2.2.2.2.2.1 (i64.wrap (q1.2.2.2.2.2.2.1+1)))) (fun r=>some r))) else (some (.inl (a3,()))))
theorem ziH:tM7 zgZ zeh:=eM7
def zp3 (a0:Yq) (a1:Yb) (a2:Int):Option Yh:=
  ((zgZ O a0 a1 a2 (0:Int) a1 (a1.length:Int) (0:Int)).bind (Sum.elim (fun y1=>(some ((y1.1,()),()))) (fun r2=>(some r2))))
theorem zxV:tM3 zpQ zp3:=eM3
def zif (a0:Yg) (a1:Yq) (a2:Yb) (a3:Int):Option ((Int×Bool×Unit)×(Unit)):=
  ((zen O (a0.1,())).bind fun r1=>(if (!r1.1.1)=true then (some (((0:Int),false,()),())) else ((zd6 O (a0.1,()) a1).bind fun r2=>(if (!r2.1.1)=true then (some (((0:Int),false,()),())) else ((zlQ O a1 a2).bind fun r3=>(if (!r3.1.1)=true then (some (((0:Int),false,()),())) else (if ((a2.length:Int)==(0:Int))=true then (some (((0:Int),false,()),())) else (if (decide (a3<1))=true then (some (((0:Int),false,()),())) else ((zpQ O a1 a2 a3).bind fun r4=>((idx a2 r4.1.1).bind fun x5=>(some ((x5,true,()),()))))))))))))
theorem znK:tM4 zk5 zif:=eM4
def zib (a0:Yg) (a1:Yq) (a2:Yb) (a3:Int):Option ((Int×Bool×Unit)×(Unit)):=
  ((zg8 O (a0.1,()) a1).bind fun r1=>(if (!r1.1.1)=true then (some (((0:Int),false,()),())) else (if ((a2.length:Int)==(0:Int))=true then (some (((0:Int),false,()),())) else ((zjH O a2 (0:Int) (i64.wrap ((a1.length:Int)-(1:Int)))).bind fun r2=>(if (!r2.1.1)=true then (some (((0:Int),false,()),())) else (if (decide (a3<1))=true then (some (((0:Int),false,()),())) else ((zgi O a1 a2 a3).bind fun r3=>(some ((r3.1.1,true,()),())))))))))
theorem znF:tM4 zkB zib:=eM4
def zoo (a0:Yb):Option ((Yg×Yq×Yb×Unit)×(Unit)):=
  ((zgS O a0).bind fun r1=>(some (((r1.1.1.1,()),r1.1.2.1,r1.1.2.2.1,()),())))
theorem zyR:tN1 zkG zoo:=eN1
def zfc (a0:Yq) (a1 a2:Yb) (a3 a4:Int):Option (Yg⊕Ys):=
  (if (decide (a4<a3))=true then ((((idx a2 a4).bind fun x2=>(if (decide ((a1.length:Int)<(10:Int)))=true then ((idx a0 x2).bind fun x3=>((zmN O x3.2.2.2.1).bind fun r4=>(if r4.1.1=true then (if (List.length a1+List.length ([x2]:Yb))*8<=140737488355328 then (some (.inl (a0,(a1++([x2]:Yb)),a2,a3,a4,()))) else none) else (some (.inl (a0,a1,a2,a3,a4,())))))) else (some (.inl (a0,a1,a2,a3,a4,()))))):Option ((Yq×Yb×Yb×Int×Int×Unit)⊕(Yg⊕(Ys)))).bind (Sum.elim (fun q1=>(ziK O q1.1 q1.2.1 q1.2.2.1 q1.2.2.2.1 (i64.wrap (q1.2.2.2.2.1+1)))) (fun r=>some r))) else (some (.inl (a1,()))))
theorem zk6:tM5 ziK zfc:=eM5
def zsp (a0:Yq) (a1:Yb):Option Ys:=
  ((ziK O a0 [] a1 (a1.length:Int) (0:Int)).bind (Sum.elim (fun y1=>(some ((y1.1,()),()))) (fun r2=>(some r2))))
theorem zCC:tM2 zoE zsp:=eM2
def zjk (a0:Yg) (a1:Yq) (a2:Yb):Option Yv:=
  ((zen O (a0.1,())).bind fun r1=>(if (!r1.1.1)=true then (some (([],false,()),())) else ((zd6 O (a0.1,()) a1).bind fun r2=>(if (!r2.1.1)=true then (some (([],false,()),())) else ((zlQ O a1 a2).bind fun r3=>(if (!r3.1.1)=true then (some (([],false,()),())) else ((zoE O a1 a2).bind fun r4=>(some ((r4.1.1,true,()),())))))))))
theorem zov:tM3 zlN zjk:=eM3
def zjl (a0:Yg) (a1:Yq) (a2:Yb):Option Yv:=
  ((zg8 O (a0.1,()) a1).bind fun r1=>(if (!r1.1.1)=true then (some (([],false,()),())) else ((zjH O a2 (0:Int) (i64.wrap ((a1.length:Int)-(1:Int)))).bind fun r2=>(if (!r2.1.1)=true then (some (([],false,()),())) else ((zha O a1 a2).bind fun r3=>(some ((r3.1.1,true,()),())))))))
theorem zou:tM3 zlZ zjl:=eM3
def zsg (a0:Int) (a1:Yb) (a2 a3:Int):Option Yy:=
  (if (decide (a3<a2))=true then ((idx a1 a3).bind fun x1=>(if (x1==a0)=true then (some (.inr ((true,()),()))) else (zmQ O a0 a1 a2 (i64.wrap (a3+1))))) else (some (.inl ())))
theorem zCI:tM4 zmQ zsg:=eM4
def zxg (a0:Yb) (a1:Int):Option Yd:=
  ((zmQ O a1 a0 (a0.length:Int) (0:Int)).bind (Sum.elim (fun y1=>(some ((false,()),()))) (fun r2=>(some r2))))
theorem zHe:tM2 zrl zxg:=eM2
def zfX (a0 a1:Yb) (a2:Yg) (a3:Yq) (a4:Yc) (a5:Yw) (a6 a7:Bool) (a8:Yb) (a9 a10:Int):Option ((Yb×Yb×Yg×Yc×Yw×Bool×Bool×Unit)⊕Yd):=
  (if (decide (a10<a9))=true then ((idx a8 a10).bind fun x1=>((idx a3 x1).bind fun x2=>((zcG O (a2.1,()) (a5.1,a5.2.1,()) x2.2.2.2.1).bind fun r3=>(if a7=true then (if a6=true then (zbw O a0 a1 (a2.1,()) a3 (a4.1,a4.2.1,a4.2.2.1,a4.2.2.2.1,()) (a5.1,a5.2.1,()) r3.1.1 r3.1.2.1 a8 a9 (i64.wrap (a10+1))) else (zbw O a0 a1 (a2.1,()) a3 (a4.1,a4.2.1,a4.2.2.1,a4.2.2.2.1,()) (a5.1,a5.2.1,()) false r3.1.2.1 a8 a9 (i64.wrap (a10+1)))) else (if a6=true then (zbw O a0 a1 (a2.1,()) a3 (a4.1,a4.2.1,a4.2.2.1,a4.2.2.2.1,()) (a5.1,a5.2.1,()) r3.1.1 false a8 a9 (i64.wrap (a10+1))) else (zbw O a0 a1 (a2.1,()) a3 (a4.1,a4.2.1,a4.2.2.1,a4.2.2.2.1,()) (a5.1,a5.2.1,()) false false a8 a9 (i64.wrap (a10+1)))))))) else (some (.inl (a0,a1,(a2.1,()),(a4.1,a4.2.1,a4.2.2.1,a4.2.2.2.1,()),(a5.1,a5.2.1,()),a6,a7,()))))
theorem zry:tN11 zbw zfX:=eN11
def zt6 (a0 a1:Yb):Option Yd:=
  ((zqR O a0 a1).bind fun r1=>(if r1.1.1=true then (some ((true,()),())) else ((zj6 O a0).bind fun r2=>((zkQ O (r2.1.1.1,()) r2.1.2.1 r2.1.2.2.1 r2.1.2.2.2.1 r2.1.2.2.2.2.1 r2.1.2.2.2.2.2.1).bind fun r3=>((zkY O (r2.1.1.1,()) r2.1.2.1 r2.1.2.2.1 r2.1.2.2.2.1 r2.1.2.2.2.2.1 r2.1.2.2.2.2.2.1).bind fun r4=>(if (!(r3.1.2.1==r4.1.2.1))=true then (some ((false,()),())) else ((zjB O ([(r3.1.1.1,r3.1.1.2.1,r3.1.1.2.2.1,r3.1.1.2.2.2.1,())]:Yq) ([(r4.1.1.1,r4.1.1.2.1,r4.1.1.2.2.1,r4.1.1.2.2.2.1,())]:Yq)).bind fun r5=>(if (!r5.1.1)=true then (some ((false,()),())) else (((if r3.1.2.1=true then ((zg1 O (r2.1.1.1,()) a1).bind fun r7=>((zg6 O (r2.1.1.1,()) (r7.1.1.1,r7.1.1.2.1,()) r2.1.2.1).bind fun r8=>((zbw O a0 a1 (r2.1.1.1,()) r2.1.2.2.1 (r3.1.1.1,r3.1.1.2.1,r3.1.1.2.2.1,r3.1.1.2.2.2.1,()) (r7.1.1.1,r7.1.1.2.1,()) r8.1.1 r8.1.2.1 r2.1.2.2.2.2.1 (r2.1.2.2.2.2.1.length:Int) (0:Int)).bind (Sum.elim (fun y9=>((zcG O (y9.2.2.1.1,()) (y9.2.2.2.2.1.1,y9.2.2.2.2.1.2.1,()) y9.2.2.2.1.2.2.2.1).bind fun r11=>(if y9.2.2.2.2.2.2.1=true then (if r11.1.2.1=true then (if y9.2.2.2.2.2.1=true then (if (!r11.1.1)=true then ((some ((false,()),())).map .inr) else (some (.inl (y9.1,y9.2.1,())))) else (some (.inl (y9.1,y9.2.1,())))) else (some (.inl (y9.1,y9.2.1,())))) else (some (.inl (y9.1,y9.2.1,())))))) (fun r10=>((some r10).map .inr)))))) else (some (.inl (a0,a1,())))):Option ((Yb×Yb×Unit)⊕YK×(Unit))).bind (Sum.elim (fun q6=>((zeO O q6.2.1).bind fun r12=>((zhB O (r12.1.1.1,()) r12.1.2.1 r12.1.2.2.1).bind fun r13=>((zhN O (r12.1.1.1,()) r12.1.2.1 r12.1.2.2.1).bind fun r14=>(if (!(r13.1.2.1==r14.1.2.1))=true then (some ((false,()),())) else (if (!(r13.1.1==r14.1.1))=true then (some ((false,()),())) else (((if r13.1.2.1=true then (if r13.1.1=true then ((zg1 O (r12.1.1.1,()) q6.1).bind fun r16=>((zg6 O (r12.1.1.1,()) (r16.1.1.1,r16.1.1.2.1,()) r12.1.2.2.1).bind fun r17=>((zcG O (r12.1.1.1,()) (r16.1.1.1,r16.1.1.2.1,()) r12.1.2.1).bind fun r18=>(if r17.1.2.1=true then (if r18.1.2.1=true then (if r17.1.1=true then (if (!r18.1.1)=true then ((some ((false,()),())).map .inr) else (some (.inl (q6.2.1,())))) else (some (.inl (q6.2.1,())))) else (some (.inl (q6.2.1,())))) else (some (.inl (q6.2.1,()))))))) else (some (.inl (q6.2.1,())))) else (some (.inl (q6.2.1,())))):Option (Yg⊕YK×(Unit))).bind (Sum.elim (fun q15=>((zgS O q15.1).bind fun r19=>((zk5 O (r19.1.1.1,()) r19.1.2.1 r19.1.2.2.1 r19.1.2.2.2.1).bind fun r20=>((zkB O (r19.1.1.1,()) r19.1.2.1 r19.1.2.2.1 r19.1.2.2.2.1).bind fun r21=>((zkG O q15.1).bind fun r22=>((zlN O (r22.1.1.1,()) r22.1.2.1 r22.1.2.2.1).bind fun r23=>((zlZ O (r22.1.1.1,()) r22.1.2.1 r22.1.2.2.1).bind fun r24=>(if (r20.1.2.1==r21.1.2.1)=true then (if (r20.1.1==r21.1.1)=true then (if (r23.1.2.1==r24.1.2.1)=true then ((zeq O r23.1.1 r24.1.1).bind fun r25=>(if r25.1.1=true then (if (!r20.1.2.1)=true then (some ((true,()),())) else ((zrl O r19.1.2.2.1 r20.1.1).bind fun r26=>(some ((r26.1.1,()),())))) else (some ((false,()),())))) else (some ((false,()),()))) else (some ((false,()),()))) else (some ((false,()),())))))))))) (fun r=>some r))))))))) (fun r=>some r)))))))))))
theorem zDI:tN2 zpU zt6:=eN2
end
end Go.Proofs.YtchkojfhcdcnmaaGreatMd.Ev
