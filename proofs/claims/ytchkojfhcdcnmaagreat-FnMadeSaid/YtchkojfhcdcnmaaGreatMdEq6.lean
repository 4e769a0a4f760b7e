/- A text of its own: Eq6; no condition but those that each theorem names. -/
import Derived.Test.YtchkojfhcdcnmaaGreatMdNm
import Derived.KernelRfl
namespace Go.Proofs.YtchkojfhcdcnmaaGreatMd.Ev
open Go Go.IntKind
set_option maxRecDepth 100000
set_option autoImplicit false
set_option linter.unusedVariables false
noncomputable section
variable (O : Oracle E1)
def zfJ (a0:Yz) (a1:Int) (a2:Ye) (a3:Yt) (a4 a5:Int):Option ((Yz×Int×Ye×Yt×Unit)⊕(YK×Yl)):=
  (if (decide (a5<a4))=true then (if 0<=a5∧a5<(a0.2.2.2.2.1.length:Int) then ((a0.2.2.2.2.1[a5.toNat]?).bind fun x1=>(if 0<=x1∧x1<(a0.2.2.2.1.length:Int) then ((a0.2.2.2.1[x1.toNat]?).bind fun x2=>(if (List.length a3+List.length ([x2.2.2.2.1]:Yt))*24<=140737488355328 then (zdE O (a0.1,a0.2.1,a0.2.2.1,a0.2.2.2.1,a0.2.2.2.2.1,a0.2.2.2.2.2.1,()) a1 a2 (a3++([x2.2.2.2.1]:Yt)) a4 (i64.wrap (a5+1))) else none)) else none)) else none) else (some (.inl ((a0.1,a0.2.1,a0.2.2.1,a0.2.2.2.1,a0.2.2.2.2.1,a0.2.2.2.2.2.1,()),a1,a2,a3,()))))
theorem znL:tN6 zdE zfJ:=eN6
def zew (a0:Yg×Yt×YF×Yb×Unit) (a1:Int):Option (YK×Yl):=
  ((zhS O ((a0.1.1,()),a0.2.1,(a0.2.2.1.1,a0.2.2.1.2.1,a0.2.2.1.2.2.1,()),a0.2.2.2.1,()) a1).bind fun r1=>(if (decide (r1.1.1<0))=true then (some ((false,()),(((r1.2.1.1.1,()),r1.2.1.2.1,(r1.2.1.2.2.1.1,r1.2.1.2.2.1.2.1,r1.2.1.2.2.1.2.2.1,()),r1.2.1.2.2.2.1,()),()))) else (if 0<=r1.1.1∧r1.1.1<(r1.2.1.2.2.1.2.1.length:Int) then ((r1.2.1.2.2.1.2.1[r1.1.1.toNat]?).bind fun x2=>(if ((x2.2.2.2.1.length:Int)==(0:Int))=true then (some ((false,()),(((r1.2.1.1.1,()),r1.2.1.2.1,((1:Int),r1.2.1.2.2.1.2.1,r1.2.1.2.2.1.2.2.1,()),r1.2.1.2.2.2.1,()),()))) else ((zdE O (r1.2.1.1.1,r1.2.1.2.1,r1.2.1.2.2.1.1,r1.2.1.2.2.1.2.1,r1.2.1.2.2.1.2.2.1,r1.2.1.2.2.2.1,()) r1.1.1 x2.2.2.2.1 [] (r1.2.1.2.2.1.2.2.1.length:Int) (0:Int)).bind (Sum.elim (fun y3=>((zdK O (y3.1.1,()) y3.2.2.1 y3.2.2.2.1).bind fun r5=>(if r5.1.1=true then (some ((true,()),(((y3.1.1,()),y3.1.2.1,(y3.1.2.2.1,y3.1.2.2.2.1,y3.1.2.2.2.2.1,()),y3.1.2.2.2.2.2.1,()),()))) else ((zlm O ((y3.1.1,()),y3.1.2.1,(y3.1.2.2.1,y3.1.2.2.2.1,y3.1.2.2.2.2.1,()),y3.1.2.2.2.2.2.1,()) y3.2.1).bind fun r6=>(some ((r6.1.1,()),(((r6.2.1.1.1,()),r6.2.1.2.1,(r6.2.1.2.2.1.1,r6.2.1.2.2.1.2.1,r6.2.1.2.2.1.2.2.1,()),r6.2.1.2.2.2.1,()),()))))))) (fun r4=>(some r4)))))) else none)))
theorem zj8:tN2 zjW zew:=eN2
def zks (a0:Yt) (a1:Int) (a2:Yg) (a3:YF) (a4:Yz) (a5 a6:Int):Option ((Int×YF×Yz×Unit)⊕((YF×Unit)×(Unit))):=
  (if (decide (a6<a5))=true then ((zeU O (a2.1,()) a0 [] (1:Int) [] ([a6]:Yb)).bind fun r1=>(if (List.length a4.2.2.2.1+List.length ([(r1.1.1.1,r1.1.1.2.1,r1.1.1.2.2.1,r1.1.1.2.2.2.1,())]:Yq))*80<=140737488355328 then (if (List.length a4.2.2.2.2.2.1+List.length ([a6]:Yb))*8<=140737488355328 then (ziE O a0 a1 (a2.1,()) (a3.1,a3.2.1,a3.2.2.1,()) (a4.1,a4.2.1,a4.2.2.1,(a4.2.2.2.1++([(r1.1.1.1,r1.1.1.2.1,r1.1.1.2.2.1,r1.1.1.2.2.2.1,())]:Yq)),a4.2.2.2.2.1,(a4.2.2.2.2.2.1++([a6]:Yb)),()) a5 (i64.wrap (a6+1))) else none) else none)) else (some (.inl (a1,(a3.1,a3.2.1,a3.2.2.1,()),(a4.1,a4.2.1,a4.2.2.1,a4.2.2.2.1,a4.2.2.2.2.1,a4.2.2.2.2.2.1,()),()))))
theorem zta:tN7 ziE zks:=eN7
def zcO (a0:Int) (a1:YF) (a2:Yz) (a3:Int):Option ((Unit)⊕((YF×Unit)×(Unit))):=
  (if ((a2.2.2.2.2.2.1.length:Int)==(0:Int))=true then (some (.inr ((((2:Int),a2.2.2.2.1,a2.2.2.2.2.1,()),()),()))) else (if (decide (a3>a0))=true then (some (.inr ((((3:Int),a2.2.2.2.1,a2.2.2.2.2.1,()),()),()))) else ((zgi O a2.2.2.2.1 a2.2.2.2.2.2.1 a3).bind fun r1=>((zmW O a2.2.2.2.2.2.1 r1.1.1).bind fun r2=>((zjW O ((a2.1,()),a2.2.1,(a2.2.2.1,a2.2.2.2.1,a2.2.2.2.2.1,()),r2.1.1,()) r1.1.1).bind fun r3=>(if (!r3.1.1)=true then (some (.inr (((r3.2.1.2.2.1.1,r3.2.1.2.2.1.2.1,r3.2.1.2.2.1.2.2.1,()),()),()))) else (ziM O a0 (a1.1,a1.2.1,a1.2.2.1,()) (r3.2.1.1.1,r3.2.1.2.1,r3.2.1.2.2.1.1,r3.2.1.2.2.1.2.1,r3.2.1.2.2.1.2.2.1,r3.2.1.2.2.2.1,()) (i64.wrap (a3+1)))))))))
theorem zfF:tN4 ziM zcO:=eN4
def zsH (a0:Yg) (a1:Yt) (a2:Int):Option ((YF×Unit)×(Unit)):=
  ((ziE O a1 a2 (a0.1,()) ((0:Int),[],[],()) (a0.1,a1,(0:Int),[],[],[],()) (a1.length:Int) (0:Int)).bind (Sum.elim (fun y1=>((ziM O y1.1 (y1.2.1.1,y1.2.1.2.1,y1.2.1.2.2.1,()) (y1.2.2.1.1,y1.2.2.1.2.1,y1.2.2.1.2.2.1,y1.2.2.1.2.2.2.1,y1.2.2.1.2.2.2.2.1,y1.2.2.1.2.2.2.2.2.1,()) (1:Int)).bind (Sum.elim (fun y3=>none) (fun r4=>(some r4))))) (fun r2=>(some r2))))
theorem zCs:tN3 zoy zsH:=eN3
def znW (a0:Yg) (a1:Yt) (a2:Int):Option ((YF×Bool×Unit)×(Unit)):=
  ((zhR O (a0.1,()) a1).bind fun r1=>(if (!r1.1.1)=true then (some ((((0:Int),[],[],()),false,()),())) else ((z6 O a2 (0:Int) (40:Int)).bind fun r2=>(if (!r2.1.1)=true then (some ((((0:Int),[],[],()),false,()),())) else ((zoy O (a0.1,()) a1 a2).bind fun r3=>(some (((r3.1.1.1,r3.1.1.2.1,r3.1.1.2.2.1,()),true,()),())))))))
theorem zu9:tN3 zq1 znW:=eN3
def zlB (O:Oracle E1) (a0:Yi):Option (YA×Yx):=
  (((if (decide (a0.2.1<(a0.1.length:Int)))=true then ((idx a0.1 a0.2.1).bind fun x2=>(some (.inl ((a0.1,a0.2.1,a0.2.2.1,()),(i64.wrap x2),())))) else (some (.inl ((a0.1,a0.2.1,a0.2.2.1,()),(0:Int),())))):Option ((Yi×Int×Unit)⊕YA×Yx)).bind (Sum.elim (fun q1=>(if (decide ((i64.wrap (q1.1.2.1+1))<=(q1.1.1.length:Int)))=true then (some ((q1.2.1,()),((q1.1.1,(i64.wrap (q1.1.2.1+1)),(IntKind.u64.wrap ((IntKind.u64.wrap ((IntKind.u64.wrap (q1.1.2.2.1*6364136223846793005))+(IntKind.u64.wrap q1.2.1)))+(1442695040888963407:Int))),()),()))) else (if (40:Int)<0 then none else (some (((i64.wrap (bitsI .and .u64 (shrI .u64 (IntKind.u64.wrap ((IntKind.u64.wrap ((IntKind.u64.wrap (q1.1.2.2.1*6364136223846793005))+(IntKind.u64.wrap q1.2.1)))+(1442695040888963407:Int))) (40:Int)) (255:Int))),()),((q1.1.1,(i64.wrap (q1.1.2.1+1)),(IntKind.u64.wrap ((IntKind.u64.wrap ((IntKind.u64.wrap (q1.1.2.2.1*6364136223846793005))+(IntKind.u64.wrap q1.2.1)))+(1442695040888963407:Int))),()),())))))) (fun r=>some r)))
theorem zuz:tM1 ziL zlB:=eM1
def ziG (a0:Yi) (a1:Int):Option (YA×Yx):=
  (if (decide (a1<=1))=true then (some (((0:Int),()),((a0.1,a0.2.1,a0.2.2.1,()),()))) else ((ziL O (a0.1,a0.2.1,a0.2.2.1,())).bind fun r1=>(((if (decide (a1>200))=true then ((ziL O (r1.2.1.1,r1.2.1.2.1,r1.2.1.2.2.1,())).bind fun r3=>(some (.inl ((r3.2.1.1,r3.2.1.2.1,r3.2.1.2.2.1,()),a1,(i64.wrap ((i64.wrap (r1.1.1*256))+r3.1.1)),())))) else (some (.inl ((r1.2.1.1,r1.2.1.2.1,r1.2.1.2.2.1,()),a1,r1.1.1,())))):Option ((Yi×Int×Int×Unit)⊕YA×Yx)).bind (Sum.elim (fun q2=>(if q2.2.1=0 then none else (some (((Int.tmod q2.2.2.1 q2.2.1),()),((q2.1.1,q2.1.2.1,q2.1.2.2.1,()),()))))) (fun r=>some r)))))
theorem zo0:tM2 ze ziG:=eM2
def zp6 (a0:Yi) (a1:Int):Option (YK×Yx):=
  ((ze O (a0.1,a0.2.1,a0.2.2.1,()) a1).bind fun r1=>(some (((r1.1.1==0),()),((r1.2.1.1,r1.2.1.2.1,r1.2.1.2.2.1,()),()))))
theorem zAy:tM2 zJ zp6:=eM2
def zod (a0:Yi) (a1:Yb):Option (YA×Yx):=
  ((ze O (a0.1,a0.2.1,a0.2.2.1,()) (a1.length:Int)).bind fun r1=>((idx a1 r1.1.1).bind fun x2=>(some ((x2,()),((r1.2.1.1,r1.2.1.2.1,r1.2.1.2.2.1,()),())))))
theorem zy2:tM2 zcj zod:=eM2
def zec (a0:Yi) (a1 a2:Int) (a3:Yg) (a4:Yb) (a5:Int):Option ((Yi×Yb×Unit)⊕(Yg×Yx)):=
  (if (decide (a5>0))=true then ((zb3 O (a0.1,a0.2.1,a0.2.2.1,()) (a3.1,()) (i64.wrap (a1-1)) a2).bind fun r1=>(if (List.length a4+List.length r1.1.1)*8<=140737488355328 then (zal O (r1.2.1.1,r1.2.1.2.1,r1.2.1.2.2.1,()) a1 a2 (a3.1,()) (a4++r1.1.1) (i64.wrap (a5-1))) else none)) else (some (.inl ((a0.1,a0.2.1,a0.2.2.1,()),a4,()))))
theorem zkc:tM6 zal zec:=eM6
def zoT (a0:Yi) (a1:Yg) (a2 a3:Int):Option (Yg×Yx):=
  (if ((a1.1.length:Int)==(0:Int))=true then (some ((([(0:Int)]:Yb),()),((a0.1,a0.2.1,a0.2.2.1,()),()))) else (if (decide (a3>0))=true then ((zJ O (a0.1,a0.2.1,a0.2.2.1,()) (3:Int)).bind fun r1=>(if r1.1.1=true then ((ze O (r1.2.1.1,r1.2.1.2.1,r1.2.1.2.2.1,()) a3).bind fun r2=>(some ((([(i64.wrap ((-1:Int)-r2.1.1))]:Yb),()),((r2.2.1.1,r2.2.1.2.1,r2.2.1.2.2.1,()),())))) else ((ze O (r1.2.1.1,r1.2.1.2.1,r1.2.1.2.2.1,()) (a1.1.length:Int)).bind fun r3=>((((idx a1.1 r3.1.1).bind fun x5=>(if (decide (x5>0))=true then (if (decide (a2<=1))=true then ((ze O (r3.2.1.1,r3.2.1.2.1,r3.2.1.2.2.1,()) (a1.1.length:Int)).bind fun r6=>(if (2:Int)=0 then none else (some (.inl ((r6.2.1.1,r6.2.1.2.1,r6.2.1.2.2.1,()),a2,a3,(a1.1,()),(i64.wrap (Int.tdiv r6.1.1 (2:Int))),()))))) else (some (.inl ((r3.2.1.1,r3.2.1.2.1,r3.2.1.2.2.1,()),a2,a3,(a1.1,()),r3.1.1,())))) else (some (.inl ((r3.2.1.1,r3.2.1.2.1,r3.2.1.2.2.1,()),a2,a3,(a1.1,()),r3.1.1,()))))):Option ((Yi×Int×Int×Yg×Int×Unit)⊕Yg×Yx)).bind (Sum.elim (fun q4=>((idx q4.2.2.2.1.1 q4.2.2.2.2.1).bind fun x7=>(if (decide (x7>0))=true then (if (decide (q4.2.1<=1))=true then (some ((([(0:Int)]:Yb),()),((q4.1.1,q4.1.2.1,q4.1.2.2.1,()),()))) else ((idx q4.2.2.2.1.1 q4.2.2.2.2.1).bind fun x8=>((zal O (q4.1.1,q4.1.2.1,q4.1.2.2.1,()) q4.2.1 q4.2.2.1 (q4.2.2.2.1.1,()) ([q4.2.2.2.2.1]:Yb) x8).bind (Sum.elim (fun y9=>(some ((y9.2.1,()),((y9.1.1,y9.1.2.1,y9.1.2.2.1,()),())))) (fun r10=>(some r10)))))) else ((idx q4.2.2.2.1.1 q4.2.2.2.2.1).bind fun x11=>((zal O (q4.1.1,q4.1.2.1,q4.1.2.2.1,()) q4.2.1 q4.2.2.1 (q4.2.2.2.1.1,()) ([q4.2.2.2.2.1]:Yb) x11).bind (Sum.elim (fun y12=>(some ((y12.2.1,()),((y12.1.1,y12.1.2.1,y12.1.2.2.1,()),())))) (fun r13=>(some r13)))))))) (fun r=>some r)))))) else ((ze O (a0.1,a0.2.1,a0.2.2.1,()) (a1.1.length:Int)).bind fun r14=>((((idx a1.1 r14.1.1).bind fun x16=>(if (decide (x16>0))=true then (if (decide (a2<=1))=true then ((ze O (r14.2.1.1,r14.2.1.2.1,r14.2.1.2.2.1,()) (a1.1.length:Int)).bind fun r17=>(if (2:Int)=0 then none else (some (.inl ((r17.2.1.1,r17.2.1.2.1,r17.2.1.2.2.1,()),a2,a3,(a1.1,()),(i64.wrap (Int.tdiv r17.1.1 (2:Int))),()))))) else (some (.inl ((r14.2.1.1,r14.2.1.2.1,r14.2.1.2.2.1,()),a2,a3,(a1.1,()),r14.1.1,())))) else (some (.inl ((r14.2.1.1,r14.2.1.2.1,r14.2.1.2.2.1,()),a2,a3,(a1.1,()),r14.1.1,()))))):Option ((Yi×Int×Int×Yg×Int×Unit)⊕Yg×Yx)).bind (Sum.elim (fun q15=>((idx q15.2.2.2.1.1 q15.2.2.2.2.1).bind fun x18=>(if (decide (x18>0))=true then (if (decide (q15.2.1<=1))=true then (some ((([(0:Int)]:Yb),()),((q15.1.1,q15.1.2.1,q15.1.2.2.1,()),()))) else ((idx q15.2.2.2.1.1 q15.2.2.2.2.1).bind fun x19=>((zal O (q15.1.1,q15.1.2.1,q15.1.2.2.1,()) q15.2.1 q15.2.2.1 (q15.2.2.2.1.1,()) ([q15.2.2.2.2.1]:Yb) x19).bind (Sum.elim (fun y20=>(some ((y20.2.1,()),((y20.1.1,y20.1.2.1,y20.1.2.2.1,()),())))) (fun r21=>(some r21)))))) else ((idx q15.2.2.2.1.1 q15.2.2.2.2.1).bind fun x22=>((zal O (q15.1.1,q15.1.2.1,q15.1.2.2.1,()) q15.2.1 q15.2.2.1 (q15.2.2.2.1.1,()) ([q15.2.2.2.2.1]:Yb) x22).bind (Sum.elim (fun y23=>(some ((y23.2.1,()),((y23.1.1,y23.1.2.1,y23.1.2.2.1,()),())))) (fun r24=>(some r24)))))))) (fun r=>some r))))))
theorem zzR:tM4 zb3 zoT:=eM4
def zqf (a0:Yi) (a1:Yg):Option ((Ya×Unit)×Yx):=
  ((zJ O (a0.1,a0.2.1,a0.2.2.1,()) (3:Int)).bind fun r1=>((ze O (r1.2.1.1,r1.2.1.2.1,r1.2.1.2.2.1,()) (3:Int)).bind fun r2=>((zb3 O (r2.2.1.1,r2.2.1.2.1,r2.2.1.2.2.1,()) (a1.1,()) (i64.wrap ((1:Int)+r2.1.1)) (3:Int)).bind fun r3=>((ze O (r3.2.1.1,r3.2.1.2.1,r3.2.1.2.2.1,()) (2:Int)).bind fun r4=>((zb3 O (r4.2.1.1,r4.2.1.2.1,r4.2.1.2.2.1,()) (a1.1,()) (i64.wrap ((1:Int)+r4.1.1)) (3:Int)).bind fun r5=>((((zJ O (r5.2.1.1,r5.2.1.2.1,r5.2.1.2.2.1,()) (3:Int)).bind fun r7=>(if r7.1.1=true then (some (.inl ((r7.2.1.1,r7.2.1.2.1,r7.2.1.2.2.1,()),(false,[],[],()),((!r1.1.1),r3.1.1,([(0:Int)]:Yb),()),()))) else (some (.inl ((r7.2.1.1,r7.2.1.2.1,r7.2.1.2.2.1,()),(false,[],[],()),((!r1.1.1),r3.1.1,r5.1.1,()),()))))):Option ((Yi×Ya×Ya×Unit)⊕(Ya×Unit)×Yx)).bind (Sum.elim (fun q6=>(some (((q6.2.2.1.1,q6.2.2.1.2.1,q6.2.2.1.2.2.1,()),()),((q6.1.1,q6.1.2.1,q6.1.2.2.1,()),())))) (fun r=>some r))))))))
theorem zA3:tM2 zg4 zqf:=eM2
def zgE (a0:Yi) (a1:Yg) (a2:Ye) (a3:Int):Option ((Yi×Yg×Ye×Unit)⊕(YN×Yx)):=
  (if (decide (a3>0))=true then ((zg4 O (a0.1,a0.2.1,a0.2.2.1,()) (a1.1,())).bind fun r1=>(if (List.length a2+List.length ([(r1.1.1.1,r1.1.1.2.1,r1.1.1.2.2.1,())]:Ye))*56<=140737488355328 then (zeH O (r1.2.1.1,r1.2.1.2.1,r1.2.1.2.2.1,()) (a1.1,()) (a2++([(r1.1.1.1,r1.1.1.2.1,r1.1.1.2.2.1,())]:Ye)) (i64.wrap (a3-1))) else none)) else (some (.inl ((a0.1,a0.2.1,a0.2.2.1,()),(a1.1,()),a2,()))))
theorem zoN:tM4 zeH zgE:=eM4
def zfM (a0:Yi) (a1:Yg) (a2:Ye):Option ((Yi×Ye×Unit)⊕(YN×Yx)):=
  ((ze O (a0.1,a0.2.1,a0.2.2.1,()) (2:Int)).bind fun r1=>(if (decide ((a2.length:Int)<(i64.wrap ((8:Int)+r1.1.1))))=true then ((zg4 O (r1.2.1.1,r1.2.1.2.1,r1.2.1.2.2.1,()) (a1.1,())).bind fun r2=>(if (List.length a2+List.length ([(r2.1.1.1,r2.1.1.2.1,r2.1.1.2.2.1,())]:Ye))*56<=140737488355328 then (zdO O (r2.2.1.1,r2.2.1.2.1,r2.2.1.2.2.1,()) (a1.1,()) (a2++([(r2.1.1.1,r2.1.1.2.1,r2.1.1.2.2.1,())]:Ye))) else none)) else (some (.inl ((r1.2.1.1,r1.2.1.2.1,r1.2.1.2.2.1,()),a2,())))))
theorem znE:tM3 zdO zfM:=eM3
def zne (a0:Yi) (a1:Yg):Option (YN×Yx):=
  ((zcj O (a0.1,a0.2.1,a0.2.2.1,()) ([(0:Int),(1:Int),(1:Int),(1:Int),(2:Int),(2:Int),(3:Int)]:Yb)).bind fun r1=>((zeH O (r1.2.1.1,r1.2.1.2.1,r1.2.1.2.2.1,()) (a1.1,()) [] r1.1.1).bind (Sum.elim (fun y2=>(((if (decide ((y2.2.2.1.length:Int)>(0:Int)))=true then ((zJ O (y2.1.1,y2.1.2.1,y2.1.2.2.1,()) (6:Int)).bind fun r5=>(if r5.1.1=true then ((ze O (r5.2.1.1,r5.2.1.2.1,r5.2.1.2.2.1,()) (y2.2.2.1.length:Int)).bind fun r6=>(if 0<=r6.1.1∧r6.1.1<(y2.2.2.1.length:Int) then ((y2.2.2.1[r6.1.1.toNat]?).bind fun x7=>((zJ O (r6.2.1.1,r6.2.1.2.1,r6.2.1.2.2.1,()) (3:Int)).bind fun r8=>(if (List.length y2.2.2.1+List.length ([((!(x7.1==r8.1.1)),x7.2.2.1,x7.2.1,())]:Ye))*56<=140737488355328 then (some (.inl ((r8.2.1.1,r8.2.1.2.1,r8.2.1.2.2.1,()),(y2.2.1.1,()),(y2.2.2.1++([((!(x7.1==r8.1.1)),x7.2.2.1,x7.2.1,())]:Ye)),()))) else none))) else none)) else (some (.inl ((r5.2.1.1,r5.2.1.2.1,r5.2.1.2.2.1,()),(y2.2.1.1,()),y2.2.2.1,()))))) else (some (.inl ((y2.1.1,y2.1.2.1,y2.1.2.2.1,()),(y2.2.1.1,()),y2.2.2.1,())))):Option ((Yi×Yg×Ye×Unit)⊕YN×Yx)).bind (Sum.elim (fun q4=>(((if (decide ((q4.2.2.1.length:Int)>(0:Int)))=true then ((zJ O (q4.1.1,q4.1.2.1,q4.1.2.2.1,()) (12:Int)).bind fun r10=>(if r10.1.1=true then (if 0<=(0:Int)∧(0:Int)<(q4.2.2.1.length:Int) then ((q4.2.2.1[(Int.toNat (0:Int))]?).bind fun x11=>(if 0<=(0:Int)∧(0:Int)<(q4.2.2.1.length:Int) then ((q4.2.2.1[(Int.toNat (0:Int))]?).bind fun x12=>(some (.inl ((r10.2.1.1,r10.2.1.2.1,r10.2.1.2.2.1,()),(q4.2.1.1,()),(q4.2.2.1.set (Int.toNat (0:Int)) (x12.1,x12.2.1,x11.2.1,())),())))) else none)) else none) else (some (.inl ((r10.2.1.1,r10.2.1.2.1,r10.2.1.2.2.1,()),(q4.2.1.1,()),q4.2.2.1,()))))) else (some (.inl ((q4.1.1,q4.1.2.1,q4.1.2.2.1,()),(q4.2.1.1,()),q4.2.2.1,())))):Option ((Yi×Yg×Ye×Unit)⊕YN×Yx)).bind (Sum.elim (fun q9=>((((ze O (q9.1.1,q9.1.2.1,q9.1.2.2.1,()) (60:Int)).bind fun r14=>(if (r14.1.1==0)=true then ((zdO O (r14.2.1.1,r14.2.1.2.1,r14.2.1.2.2.1,()) (q9.2.1.1,()) q9.2.2.1).bind (Sum.elim (fun y15=>(some (.inl ((y15.1.1,y15.1.2.1,y15.1.2.2.1,()),y15.2.1,())))) (fun r16=>((some r16).map .inr)))) else (if (r14.1.1==1)=true then (if (List.length q9.2.2.1+List.length ([(false,([(0:Int)]:Yb),[],())]:Ye))*56<=140737488355328 then (some (.inl ((r14.2.1.1,r14.2.1.2.1,r14.2.1.2.2.1,()),(q9.2.2.1++([(false,([(0:Int)]:Yb),[],())]:Ye)),()))) else none) else (some (.inl ((r14.2.1.1,r14.2.1.2.1,r14.2.1.2.2.1,()),q9.2.2.1,())))))):Option ((Yi×Ye×Unit)⊕YN×Yx)).bind (Sum.elim (fun q13=>(some ((q13.2.1,()),((q13.1.1,q13.1.2.1,q13.1.2.2.1,()),())))) (fun r=>some r)))) (fun r=>some r)))) (fun r=>some r)))) (fun r3=>(some r3)))))
theorem zyi:tM2 zcx zne:=eM2
def zgh (a0:Yi) (a1:Yg) (a2:Yt) (a3:Int):Option ((Yi×Yt×Unit)⊕((Yt×Unit)×Yx)):=
  (if (decide (a3>0))=true then ((zcx O (a0.1,a0.2.1,a0.2.2.1,()) (a1.1,())).bind fun r1=>(if (List.length a2+List.length ([r1.1.1]:Yt))*24<=140737488355328 then (zeb O (r1.2.1.1,r1.2.1.2.1,r1.2.1.2.2.1,()) (a1.1,()) (a2++([r1.1.1]:Yt)) (i64.wrap (a3-1))) else none)) else (some (.inl ((a0.1,a0.2.1,a0.2.2.1,()),a2,()))))
theorem znS:tM4 zeb zgh:=eM4
def zi3 (a0:Yi) (a1:Yg) (a2:Int):Option ((Yt×Unit)×Yx):=
  ((ze O (a0.1,a0.2.1,a0.2.2.1,()) (i64.wrap (a2+1))).bind fun r1=>((zeb O (r1.2.1.1,r1.2.1.2.1,r1.2.1.2.2.1,()) (a1.1,()) [] r1.1.1).bind (Sum.elim (fun y2=>(some ((y2.2.1,()),((y2.1.1,y2.1.2.1,y2.1.2.2.1,()),())))) (fun r3=>(some r3)))))
theorem zrd:tM3 zdZ zi3:=eM3
def zoY (a0:Yi):Option ((Yg×Unit)×Yx):=
  ((((ze O (a0.1,a0.2.1,a0.2.2.1,()) (40:Int)).bind fun r2=>(if (r2.1.1==0)=true then (some (.inl ((r2.2.1.1,r2.2.1.2.1,r2.2.1.2.2.1,()),([],()),(([(0:Int),(1:Int),(2:Int),(3:Int),(0:Int)]:Yb),()),()))) else (if (r2.1.1==1)=true then (some (.inl ((r2.2.1.1,r2.2.1.2.1,r2.2.1.2.2.1,()),([],()),([],()),()))) else (if (r2.1.1==2)=true then (some (.inl ((r2.2.1.1,r2.2.1.2.1,r2.2.1.2.2.1,()),([],()),(([(1:Int),(0:Int)]:Yb),()),()))) else (some (.inl ((r2.2.1.1,r2.2.1.2.1,r2.2.1.2.2.1,()),([],()),(([(0:Int),(0:Int),(0:Int),(1:Int),(1:Int),(2:Int)]:Yb),()),()))))))):Option ((Yi×Yg×Yg×Unit)⊕(Yg×Unit)×Yx)).bind (Sum.elim (fun q1=>(some (((q1.2.2.1.1,()),()),((q1.1.1,q1.1.2.1,q1.1.2.2.1,()),())))) (fun r=>some r)))
theorem zzI:tM1 zix zoY:=eM1
def zlV (a0:Yi) (a1:Int):Option ((Ya×Unit)×Yx):=
  ((zJ O (a0.1,a0.2.1,a0.2.2.1,()) (3:Int)).bind fun r1=>((ze O (r1.2.1.1,r1.2.1.2.1,r1.2.1.2.2.1,()) (2:Int)).bind fun r2=>((zb3 O (r2.2.1.1,r2.2.1.2.1,r2.2.1.2.2.1,()) (([(0:Int),(0:Int),(0:Int),(1:Int),(1:Int)]:Yb),()) (i64.wrap ((1:Int)+r2.1.1)) a1).bind fun r3=>((zb3 O (r3.2.1.1,r3.2.1.2.1,r3.2.1.2.2.1,()) (([(0:Int),(0:Int),(0:Int),(1:Int),(1:Int)]:Yb),()) (1:Int) a1).bind fun r4=>((((zJ O (r4.2.1.1,r4.2.1.2.1,r4.2.1.2.2.1,()) (2:Int)).bind fun r6=>(if r6.1.1=true then ((ze O (r6.2.1.1,r6.2.1.2.1,r6.2.1.2.2.1,()) (2:Int)).bind fun r7=>((zcj O (r7.2.1.1,r7.2.1.2.1,r7.2.1.2.2.1,()) ([(1:Int),(2:Int),(-1:Int)]:Yb)).bind fun r8=>((zcj O (r8.2.1.1,r8.2.1.2.1,r8.2.1.2.2.1,()) ([(0:Int),(0:Int),(1:Int),(2:Int)]:Yb)).bind fun r9=>(some (.inl ((r9.2.1.1,r9.2.1.2.1,r9.2.1.2.2.1,()),(false,[],[],()),((!r1.1.1),([(i64.wrap ((3:Int)+r7.1.1)),r8.1.1]:Yb),([r9.1.1]:Yb),()),())))))) else (some (.inl ((r6.2.1.1,r6.2.1.2.1,r6.2.1.2.2.1,()),(false,[],[],()),((!r1.1.1),r3.1.1,r4.1.1,()),()))))):Option ((Yi×Ya×Ya×Unit)⊕(Ya×Unit)×Yx)).bind (Sum.elim (fun q5=>(some (((q5.2.2.1.1,q5.2.2.1.2.1,q5.2.2.1.2.2.1,()),()),((q5.1.1,q5.1.2.1,q5.1.2.2.1,()),())))) (fun r=>some r)))))))
theorem zw4:tM2 zh9 zlV:=eM2
def zfK (a0:Yi) (a1 a2:Yg) (a3:Yt) (a4:Int):Option ((Yi×Yg×Yg×Yt×Unit)⊕((Yg×Yt×Unit)×Yx)):=
  (if (decide (a4>0))=true then ((zcj O (a0.1,a0.2.1,a0.2.2.1,()) ([(1:Int),(1:Int),(1:Int),(2:Int),(2:Int)]:Yb)).bind fun r1=>((zcZ O (r1.2.1.1,r1.2.1.2.1,r1.2.1.2.2.1,()) (a1.1,()) (a2.1,()) a3 a4 [] r1.1.1).bind (Sum.elim (fun y2=>(if (List.length y2.2.2.2.1+List.length ([y2.2.2.2.2.2.1]:Yt))*24<=140737488355328 then (zdM O (y2.1.1,y2.1.2.1,y2.1.2.2.1,()) (y2.2.1.1,()) (y2.2.2.1.1,()) (y2.2.2.2.1++([y2.2.2.2.2.2.1]:Yt)) (i64.wrap (y2.2.2.2.2.1-1))) else none)) (fun r3=>(some (.inr r3)))))) else (some (.inl ((a0.1,a0.2.1,a0.2.2.1,()),(a1.1,()),(a2.1,()),a3,()))))
theorem znu:tM5 zdM zfK:=eM5
def zel (a0:Yi) (a1 a2:Yg) (a3:Yt) (a4:Int) (a5:Ye) (a6:Int):Option ((Yi×Yg×Yg×Yt×Int×Ye×Unit)⊕((Yg×Yt×Unit)×Yx)):=
  (if (decide (a6>0))=true then ((ze O (a0.1,a0.2.1,a0.2.2.1,()) (2:Int)).bind fun r1=>((zh9 O (r1.2.1.1,r1.2.1.2.1,r1.2.1.2.2.1,()) r1.1.1).bind fun r2=>(if (List.length a5+List.length ([(r2.1.1.1,r2.1.1.2.1,r2.1.1.2.2.1,())]:Ye))*56<=140737488355328 then (zcZ O (r2.2.1.1,r2.2.1.2.1,r2.2.1.2.2.1,()) (a1.1,()) (a2.1,()) a3 a4 (a5++([(r2.1.1.1,r2.1.1.2.1,r2.1.1.2.2.1,())]:Ye)) (i64.wrap (a6-1))) else none))) else (some (.inl ((a0.1,a0.2.1,a0.2.2.1,()),(a1.1,()),(a2.1,()),a3,a4,a5,()))))
theorem zma:tM7 zcZ zel:=eM7
def zmC (a0:Yi):Option ((Yg×Yt×Unit)×Yx):=
  ((zJ O (a0.1,a0.2.1,a0.2.2.1,()) (20:Int)).bind fun r1=>(if r1.1.1=true then ((zix O (r1.2.1.1,r1.2.1.2.1,r1.2.1.2.2.1,())).bind fun r2=>((zdZ O (r2.2.1.1,r2.2.1.2.1,r2.2.1.2.2.1,()) (r2.1.1.1,()) (4:Int)).bind fun r3=>(some (((r2.1.1.1,()),r3.1.1,()),((r3.2.1.1,r3.2.1.2.1,r3.2.1.2.2.1,()),()))))) else ((ze O (r1.2.1.1,r1.2.1.2.1,r1.2.1.2.2.1,()) (4:Int)).bind fun r4=>((zdM O (r4.2.1.1,r4.2.1.2.1,r4.2.1.2.2.1,()) ([],()) (([(0:Int),(0:Int),(0:Int),(1:Int),(1:Int)]:Yb),()) [] (i64.wrap ((1:Int)+r4.1.1))).bind (Sum.elim (fun y5=>((((zJ O (y5.1.1,y5.1.2.1,y5.1.2.2.1,()) (3:Int)).bind fun r8=>(if r8.1.1=true then (if 0<=(0:Int)∧(0:Int)<(y5.2.2.2.1.length:Int) then ((y5.2.2.2.1[(Int.toNat (0:Int))]?).bind fun x9=>((idx x9 (0:Int)).bind fun x10=>(if (List.length y5.2.2.2.1+List.length ([([((!x10.1),x10.2.1,x10.2.2.1,())]:Ye)]:Yt))*24<=140737488355328 then (some (.inl ((r8.2.1.1,r8.2.1.2.1,r8.2.1.2.2.1,()),(y5.2.1.1,()),(y5.2.2.1.1,()),(y5.2.2.2.1++([([((!x10.1),x10.2.1,x10.2.2.1,())]:Ye)]:Yt)),()))) else none))) else none) else (some (.inl ((r8.2.1.1,r8.2.1.2.1,r8.2.1.2.2.1,()),(y5.2.1.1,()),(y5.2.2.1.1,()),y5.2.2.2.1,()))))):Option ((Yi×Yg×Yg×Yt×Unit)⊕(Yg×Yt×Unit)×Yx)).bind (Sum.elim (fun q7=>(some (((q7.2.2.1.1,()),q7.2.2.2.1,()),((q7.1.1,q7.1.2.1,q7.1.2.2.1,()),())))) (fun r=>some r)))) (fun r6=>(some r6)))))))
theorem zxA:tM1 zjg zmC:=eM1
def zqk (a0:Yi):Option ((Yg×Yt×Yq×Unit)×Yx):=
  ((zjg O (a0.1,a0.2.1,a0.2.2.1,())).bind fun r1=>((zcj O (r1.2.1.1,r1.2.1.2.1,r1.2.1.2.2.1,()) ([(2:Int),(4:Int),(6:Int),(8:Int)]:Yb)).bind fun r2=>((zq1 O (r1.1.1.1,()) r1.1.2.1 r2.1.1).bind fun r3=>(((if (decide ((r3.1.1.2.1.length:Int)>(30:Int)))=true then (if 0<=(0:Int)∧(0:Int)<=(30:Int)∧(30:Int)<=(r3.1.1.2.1.length:Int) then (some (.inl ((r2.2.1.1,r2.2.1.2.1,r2.2.1.2.2.1,()),([],()),(r1.1.1.1,()),r1.1.2.1,((r3.1.1.2.1.take (Int.toNat (30:Int))).drop (Int.toNat (0:Int))),()))) else none) else (some (.inl ((r2.2.1.1,r2.2.1.2.1,r2.2.1.2.2.1,()),([],()),(r1.1.1.1,()),r1.1.2.1,r3.1.1.2.1,())))):Option ((Yi×Yg×Yg×Yt×Yq×Unit)⊕(Yg×Yt×Yq×Unit)×Yx)).bind (Sum.elim (fun q4=>(some (((q4.2.2.1.1,()),q4.2.2.2.1,q4.2.2.2.2.1,()),((q4.1.1,q4.1.2.1,q4.1.2.2.1,()),())))) (fun r=>some r))))))
theorem zA0:tN1 zjI zqk:=eN1
def znc (a0:Yb):Option ((Yg×Yt×Yq×Int×Yb×Yb×Unit)×(Unit)):=
  ((zjI O (a0,(0:Int),(0:Int),())).bind fun r1=>(if (decide ((r1.1.2.2.1.length:Int)>(0:Int)))=true then ((zJ O (r1.2.1.1,r1.2.1.2.1,r1.2.1.2.2.1,()) (3:Int)).bind fun r2=>(if (!r2.1.1)=true then ((ze O (r2.2.1.1,r2.2.1.2.1,r2.2.1.2.2.1,()) (r1.1.2.2.1.length:Int)).bind fun r3=>((idx r1.1.2.2.1 r3.1.1).bind fun x4=>((zaI O x4.2.2.1).bind fun r5=>(((if (decide ((r5.1.1.length:Int)>(0:Int)))=true then ((zJ O (r3.2.1.1,r3.2.1.2.1,r3.2.1.2.2.1,()) (4:Int)).bind fun r7=>(if r7.1.1=true then ((ze O (r7.2.1.1,r7.2.1.2.1,r7.2.1.2.2.1,()) (r5.1.1.length:Int)).bind fun r8=>((ze O (r8.2.1.1,r8.2.1.2.1,r8.2.1.2.2.1,()) (3:Int)).bind fun r9=>(if 0<=r8.1.1∧r8.1.1<(r5.1.1.length:Int) then ((r5.1.1[r8.1.1.toNat]?).bind fun x10=>(some (.inl (([],()),(r1.1.1.1,()),r1.1.2.1,r1.1.2.2.1,(x4.1,x4.2.1,x4.2.2.1,x4.2.2.2.1,()),(r5.1.1.set r8.1.1.toNat r9.1.1),())))) else none))) else (some (.inl (([],()),(r1.1.1.1,()),r1.1.2.1,r1.1.2.2.1,(x4.1,x4.2.1,x4.2.2.1,x4.2.2.2.1,()),r5.1.1,()))))) else (some (.inl (([],()),(r1.1.1.1,()),r1.1.2.1,r1.1.2.2.1,(x4.1,x4.2.1,x4.2.2.1,x4.2.2.2.1,()),r5.1.1,())))):Option ((Yg×Yg×Yt×Yq×Yc×Yb×Unit)⊕(Yg×Yt×Yq×Int×Yb×Yb×Unit)×(Unit))).bind (Sum.elim (fun q6=>(some (((q6.2.1.1,()),q6.2.2.1,q6.2.2.2.1,q6.2.2.2.2.1.1,q6.2.2.2.2.1.2.1,q6.2.2.2.2.2.1,()),()))) (fun r=>some r)))))) else ((ze O (r2.2.1.1,r2.2.1.2.1,r2.2.1.2.2.1,()) (7:Int)).bind fun r11=>((ze O (r11.2.1.1,r11.2.1.2.1,r11.2.1.2.2.1,()) (i64.wrap ((r1.1.2.2.1.length:Int)+(1:Int)))).bind fun r12=>((ze O (r12.2.1.1,r12.2.1.2.1,r12.2.1.2.2.1,()) (3:Int)).bind fun r13=>(some (((r1.1.1.1,()),r1.1.2.1,r1.1.2.2.1,r11.1.1,([r12.1.1]:Yb),([r13.1.1]:Yb),()),()))))))) else ((ze O (r1.2.1.1,r1.2.1.2.1,r1.2.1.2.2.1,()) (7:Int)).bind fun r14=>((ze O (r14.2.1.1,r14.2.1.2.1,r14.2.1.2.2.1,()) (i64.wrap ((r1.1.2.2.1.length:Int)+(1:Int)))).bind fun r15=>((ze O (r15.2.1.1,r15.2.1.2.1,r15.2.1.2.2.1,()) (3:Int)).bind fun r16=>(some (((r1.1.1.1,()),r1.1.2.1,r1.1.2.2.1,r14.1.1,([r15.1.1]:Yb),([r16.1.1]:Yb),()),())))))))
theorem zyh:tN1 zj6 znc:=eN1
def zkh (a0:Ye) (a1:Yg):Option Yd:=
  ((zcf O (a1.1,()) a0).bind fun r1=>(some (((!r1.1.1),()),())))
theorem zvY:tM2 zgB zkh:=eM2
def zl (a0:Yt) (a1:Yg×Unit) (a2 a3:Int):Option YC:=
  (if (decide (a3<a2))=true then ((idx a0 a3).bind fun x1=>((zgB O x1 a1.1).bind fun r2=>(if r2.1.1=true then (some (.inr ((a3,()),()))) else (zn O a0 a1 a2 (i64.wrap (a3+1)))))) else (some (.inl ())))
theorem zay:tM4 zn zl:=eM4
def z5 (a0:Yt) (a1:Yg×Unit):Option Yh:=
  ((zn O a0 a1 (a0.length:Int) (0:Int)).bind (Sum.elim (fun y1=>(some (((-1:Int),()),()))) (fun r2=>(some r2))))
theorem zb5:tM2 zaP z5:=eM2
def zaA (a0:Yt) (a1:Yg×Unit):Option Yd:=
  ((zaP O a0 a1).bind fun r1=>(some (((decide (r1.1.1>=0)),()),())))
theorem zeY:tM2 zN zaA:=eM2
def zl0 (a0:Yg) (a1:Yt):Option Yd:=
  (if (decide ((a1.length:Int)<=(12:Int)))=true then ((zN O a1 ((a0.1,()),())).bind fun r1=>(some (((!r1.1.1),()),()))) else (some ((false,()),())))
theorem zxa:tM2 zh3 zl0:=eM2
def zlc (a0:Yc) (a1:Yg):Option Yd:=
  ((zcf O (a1.1,()) a0.2.2.2.1).bind fun r1=>(some (((!r1.1.1),()),())))
theorem zwl:tM2 zhl zlc:=eM2
def zo (a0:Yq) (a1:Yg×Unit) (a2 a3:Int):Option YC:=
  (if (decide (a3<a2))=true then ((idx a0 a3).bind fun x1=>((zhl O (x1.1,x1.2.1,x1.2.2.1,x1.2.2.2.1,()) a1.1).bind fun r2=>(if r2.1.1=true then (some (.inr ((a3,()),()))) else (zq O a0 a1 a2 (i64.wrap (a3+1)))))) else (some (.inl ())))
theorem zaD:tM4 zq zo:=eM4
def zab (a0:Yq) (a1:Yg×Unit):Option Yh:=
  ((zq O a0 a1 (a0.length:Int) (0:Int)).bind (Sum.elim (fun y1=>(some (((-1:Int),()),()))) (fun r2=>(some r2))))
theorem zce:tM2 za0 zab:=eM2
def zaK (a0:Yq) (a1:Yg×Unit):Option Yd:=
  ((za0 O a0 a1).bind fun r1=>(some (((decide (r1.1.1>=0)),()),())))
theorem zfq:tM2 zW zaK:=eM2
def zmg (a0:Yg) (a1:Yq):Option Yd:=
  (if (decide ((a1.length:Int)<=(200:Int)))=true then ((zW O a1 ((a0.1,()),())).bind fun r1=>(some (((!r1.1.1),()),()))) else (some ((false,()),())))
theorem zxH:tM2 zd6 zmg:=eM2
def zsG (O:Oracle E1) (a0:Int) (a1:Yq):Option Yd:=
  (if (decide (a0<0))=true then (some ((true,()),())) else (some (((decide (a0>=(a1.length:Int))),()),())))
theorem zB8:tM2 zoC zsG:=eM2
def zaw (a0:Yb) (a1:Yq×Unit) (a2 a3:Int):Option YC:=
  (if (decide (a3<a2))=true then ((idx a0 a3).bind fun x1=>((zoC O x1 a1.1).bind fun r2=>(if r2.1.1=true then (some (.inr ((a3,()),()))) else (zaB O a0 a1 a2 (i64.wrap (a3+1)))))) else (some (.inl ())))
theorem zcr:tM4 zaB zaw:=eM4
def zbH (a0:Yb) (a1:Yq×Unit):Option Yh:=
  ((zaB O a0 a1 (a0.length:Int) (0:Int)).bind (Sum.elim (fun y1=>(some (((-1:Int),()),()))) (fun r2=>(some r2))))
theorem zgc:tM2 zcV zbH:=eM2
def zcu (a0:Yb) (a1:Yq×Unit):Option Yd:=
  ((zcV O a0 a1).bind fun r1=>(some (((decide (r1.1.1>=0)),()),())))
theorem zli:tM2 zbq zcu:=eM2
def zvm (a0:Yq) (a1:Yb):Option Yd:=
  ((zbq O a1 (a0,())).bind fun r1=>(some (((!r1.1.1),()),())))
theorem zEW:tM2 zlQ zvm:=eM2
def zt2 (O:Oracle E1) (a0:Ye):Option Yd:=
  (if ((a0.length:Int)==(1:Int))=true then ((idx a0 (0:Int)).bind fun x1=>(some ((x1.1,()),()))) else (some ((false,()),())))
theorem ztZ:tM1 zmN zt2:=eM1
end
end Go.Proofs.YtchkojfhcdcnmaaGreatMd.Ev
