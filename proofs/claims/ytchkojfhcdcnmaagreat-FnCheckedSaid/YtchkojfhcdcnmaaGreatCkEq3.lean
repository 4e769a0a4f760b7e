/- A text of its own: Eq3; no condition but those that each theorem names. -/
import Derived.Test.YtchkojfhcdcnmaaGreatCkNm
import Derived.KernelRfl
namespace Go.Proofs.YtchkojfhcdcnmaaGreatCk.Ev
open Go Go.IntKind
set_option maxRecDepth 100000
set_option autoImplicit false
set_option linter.unusedVariables false
noncomputable section
variable (O : Oracle E1)
def zm7 (a0 a1:Ya):Option Yh:=
  ((zhQ O (a0.1,a0.2.1,a0.2.2.1,())).bind fun r1=>((zhQ O (a1.1,a1.2.1,a1.2.2.1,())).bind fun r2=>((zi2 O r1.1.1 r2.1.1).bind fun r3=>(some ((r3.1.1,()),())))))
theorem zxL (a0 a1) {r} (h:zm7 M a0 a1=some r):zjv M a0 a1=some r:=fxC (fun O=>(by kernel_rfl:zjv (Φ E1 O) a0 a1=zm7 O a0 a1)) h
def zfu (a0:Yf) (a1:Int) (a2:Yf) (a3 a4:Int):Option Yz:=
  (if (decide (a4<a3))=true then ((idx a2 a4).bind fun x1=>(if (a4 !=a1)=true then ((idx a0 a1).bind fun x2=>((zjv O (x1.1,x1.2.1,x1.2.2.1,()) (x2.1,x2.2.1,x2.2.2.1,())).bind fun r3=>(if (r3.1.1==1)=true then (some (.inr ((false,()),()))) else (zd5 O a0 a1 a2 a3 (i64.wrap (a4+1)))))) else (zd5 O a0 a1 a2 a3 (i64.wrap (a4+1))))) else (some (.inl ())))
theorem zlK (a0 a1 a2 a3 a4) {r} (h:zfu M a0 a1 a2 a3 a4=some r):zd5 M a0 a1 a2 a3 a4=some r:=fxL (fun O=>(by kernel_rfl:zd5 (Φ E1 O) a0 a1 a2 a3 a4=zfu O a0 a1 a2 a3 a4)) h
def zly (a0:Yf) (a1:Int):Option Yd:=
  ((zd5 O a0 a1 a0 (a0.length:Int) (0:Int)).bind (Sum.elim (fun y1=>(some ((true,()),()))) (fun r2=>(some r2))))
theorem zum (a0 a1) {r} (h:zly M a0 a1=some r):zcw M a0 a1=some r:=fxC (fun O=>(by kernel_rfl:zcw (Φ E1 O) a0 a1=zly O a0 a1)) h
def zac (a0:Yg) (a1 a2:Yf) (a3:Ye):Option Yr:=
  ((zdx O a1 a3.1 true).bind fun r1=>(if (!r1.1.1)=true then (some (([],(1:Int),()),())) else ((zhu O a3.2.1).bind fun r2=>(if (!r2.1.1)=true then (some (([],(1:Int),()),())) else (if (decide (a3.2.2.1<0))=true then (some (([],(1:Int),()),())) else (if (decide (a3.2.2.1>=(a2.length:Int)))=true then (some (([],(1:Int),()),())) else ((zhu O a3.2.2.2.1).bind fun r3=>(if (!r3.1.1)=true then (some (([],(1:Int),()),())) else ((idx a2 a3.2.2.1).bind fun x4=>((zaO O (x4.1,x4.2.1,x4.2.2.1,()) a3.2.2.2.1).bind fun r5=>(if (decide (a3.2.2.2.2.1<0))=true then (some (([],(1:Int),()),())) else (if (decide (a3.2.2.2.2.1>=(r5.1.1.length:Int)))=true then (some (([],(1:Int),()),())) else ((idx r5.1.1 a3.2.2.2.2.1).bind fun x6=>(if (decide (x6<0))=true then (some (([],(1:Int),()),())) else ((zkw O (a0.1,()) a1 a2).bind fun r7=>(if (!r7.1.2.1)=true then (some (([],(2:Int),()),())) else ((idx a1 a3.1).bind fun x8=>((zaO O (x8.1,x8.2.1,x8.2.2.1,()) a3.2.1).bind fun r9=>((idx r7.1.1 a3.2.2.1).bind fun x10=>((zaO O (x10.1,x10.2.1,x10.2.2.1,()) a3.2.2.2.1).bind fun r11=>((za1 O (a0.1,()) r11.1.1 a3.2.2.2.2.1).bind fun r12=>((zfN O (a0.1,()) r9.1.1 r12.1.1).bind fun r13=>(if (!r13.1.2.1)=true then (some (([],(3:Int),()),())) else ((zdj O r13.1.1 a1).bind fun r14=>((zdj O r13.1.1 r7.1.1).bind fun r15=>((zf7 O (a0.1,()) r11.1.1 a3.2.2.2.2.1 r9.1.2.1).bind fun r16=>((zck O r13.1.1 r16.1.1).bind fun r17=>(if (!r14.1.2.1)=true then (some (([],(4:Int),()),())) else (if (!r15.1.2.1)=true then (some (([],(4:Int),()),())) else (if (!r17.1.2.1)=true then (some (([],(4:Int),()),())) else (if (decide ((i64.wrap ((i64.wrap ((a1.length:Int)+(r7.1.1.length:Int)))-(1:Int)))>(8:Int)))=true then (some (([],(4:Int),()),())) else (if 0<=(0:Int)∧(0:Int)<=a3.1∧a3.1<=(r14.1.1.length:Int) then (if 0<=(i64.wrap (a3.1+1))∧(i64.wrap (a3.1+1))<=(r14.1.1.length:Int)∧(r14.1.1.length:Int)<=(r14.1.1.length:Int) then ((zbv O ([((r14.1.1.take a3.1.toNat).drop (Int.toNat (0:Int))),((r14.1.1.take (Int.toNat (r14.1.1.length:Int))).drop (Int.toNat (i64.wrap (a3.1+1)))),r15.1.1]:Yu)).bind fun r18=>(((if (a3.2.2.2.1==0)=true then (if 0<=(i64.wrap ((i64.wrap ((r14.1.1.length:Int)-(1:Int)))+a3.2.2.1))∧(i64.wrap ((i64.wrap ((r14.1.1.length:Int)-(1:Int)))+a3.2.2.1))<(r18.1.1.length:Int) then ((r18.1.1[(Int.toNat (i64.wrap ((i64.wrap ((r14.1.1.length:Int)-(1:Int)))+a3.2.2.1)))]?).bind fun x20=>(some (.inl ((a3.1,a3.2.1,a3.2.2.1,a3.2.2.2.1,a3.2.2.2.2.1,()),r14.1.1,r15.1.1,(r18.1.1.set (Int.toNat (i64.wrap ((i64.wrap ((r14.1.1.length:Int)-(1:Int)))+a3.2.2.1))) (x20.1,r17.1.1,x20.2.2.1,())),())))) else none) else (if 0<=(i64.wrap ((i64.wrap ((r14.1.1.length:Int)-(1:Int)))+a3.2.2.1))∧(i64.wrap ((i64.wrap ((r14.1.1.length:Int)-(1:Int)))+a3.2.2.1))<(r18.1.1.length:Int) then ((r18.1.1[(Int.toNat (i64.wrap ((i64.wrap ((r14.1.1.length:Int)-(1:Int)))+a3.2.2.1)))]?).bind fun x21=>(some (.inl ((a3.1,a3.2.1,a3.2.2.1,a3.2.2.2.1,a3.2.2.2.2.1,()),r14.1.1,r15.1.1,(r18.1.1.set (Int.toNat (i64.wrap ((i64.wrap ((r14.1.1.length:Int)-(1:Int)))+a3.2.2.1))) (x21.1,x21.2.1,r17.1.1,())),())))) else none)):Option ((Ye×Yf×Yf×Yf×Unit)⊕(Yf×Int×Unit)×(Unit))).bind (Sum.elim (fun q19=>((idx q19.2.1 q19.1.1).bind fun x22=>((zaO O (x22.1,x22.2.1,x22.2.2.1,()) q19.1.2.1).bind fun r23=>((idx q19.2.2.1 q19.1.2.2.1).bind fun x24=>((zaO O (x24.1,x24.2.1,x24.2.2.1,()) q19.1.2.2.2.1).bind fun r25=>((zeK O r23.1.1 r23.1.2.1).bind fun r26=>(if (!r26.1.1)=true then ((zeK O r25.1.1 r25.1.2.1).bind fun r27=>(if (!r27.1.1)=true then ((zcw O q19.2.1 q19.1.1).bind fun r28=>(if r28.1.1=true then ((zcw O q19.2.2.1 q19.1.2.2.1).bind fun r29=>((zbg O q19.2.2.2.1 r29.1.1).bind fun r30=>(some ((r30.1.1,r30.1.2.1,()),())))) else ((zbg O q19.2.2.2.1 false).bind fun r31=>(some ((r31.1.1,r31.1.2.1,()),()))))) else ((zbg O q19.2.2.2.1 false).bind fun r32=>(some ((r32.1.1,r32.1.2.1,()),()))))) else ((zbg O q19.2.2.2.1 false).bind fun r33=>(some ((r33.1.1,r33.1.2.1,()),())))))))))) (fun r=>some r)))) else none) else none))))))))))))))))))))))))))))))))
theorem zaC (a0 a1 a2 a3) {r} (h:zac M a0 a1 a2 a3=some r):zbG M a0 a1 a2 a3=some r:=fxC (fun O=>(by kernel_rfl:zbG (Φ E1 O) a0 a1 a2 a3=zac O a0 a1 a2 a3)) h
def zcW (a0:Yg) (a1:Yf) (a2:Int):Option Yr:=
  ((zdx O a1 a2 false).bind fun r1=>(if (!r1.1.1)=true then (some (([],(1:Int),()),())) else ((idx a1 a2).bind fun x2=>((idx a1 a2).bind fun x3=>((zfN O (a0.1,()) x2.2.1 x3.2.2.1).bind fun r4=>(if (!r4.1.2.1)=true then (some (([],(3:Int),()),())) else ((zdj O r4.1.1 a1).bind fun r5=>(if (!r5.1.2.1)=true then (some (([],(4:Int),()),())) else (if 0<=(0:Int)∧(0:Int)<=a2∧a2<=(r5.1.1.length:Int) then (if 0<=(i64.wrap (a2+1))∧(i64.wrap (a2+1))<=(r5.1.1.length:Int)∧(r5.1.1.length:Int)<=(r5.1.1.length:Int) then ((zbv O ([((r5.1.1.take a2.toNat).drop (Int.toNat (0:Int))),((r5.1.1.take (Int.toNat (r5.1.1.length:Int))).drop (Int.toNat (i64.wrap (a2+1))))]:Yu)).bind fun r6=>((zcw O r5.1.1 a2).bind fun r7=>((zbg O r6.1.1 r7.1.1).bind fun r8=>(some ((r8.1.1,r8.1.2.1,()),()))))) else none) else none)))))))))
theorem zf0 (a0 a1 a2) {r} (h:zcW M a0 a1 a2=some r):zd6 M a0 a1 a2=some r:=fxC (fun O=>(by kernel_rfl:zd6 (Φ E1 O) a0 a1 a2=zcW O a0 a1 a2)) h
def zct (a0:Yg) (a1:Yf) (a2:Ye):Option Yr:=
  ((zdx O a1 a2.1 true).bind fun r1=>(if (!r1.1.1)=true then (some (([],(1:Int),()),())) else ((zdx O a1 a2.2.2.1 true).bind fun r2=>(if (!r2.1.1)=true then (some (([],(1:Int),()),())) else (if (a2.1==a2.2.2.1)=true then (some (([],(1:Int),()),())) else ((zhu O a2.2.1).bind fun r3=>(if (!r3.1.1)=true then (some (([],(1:Int),()),())) else ((zhu O a2.2.2.2.1).bind fun r4=>(if (!r4.1.1)=true then (some (([],(1:Int),()),())) else (if (a2.2.2.2.2.1 !=0)=true then (some (([],(1:Int),()),())) else ((idx a1 a2.1).bind fun x5=>((zaO O (x5.1,x5.2.1,x5.2.2.1,()) a2.2.1).bind fun r6=>((idx a1 a2.2.2.1).bind fun x7=>((zaO O (x7.1,x7.2.1,x7.2.2.1,()) a2.2.2.2.1).bind fun r8=>((zfN O (a0.1,()) r6.1.1 r8.1.1).bind fun r9=>(if (!r9.1.2.1)=true then (some (([],(3:Int),()),())) else ((zdj O r9.1.1 a1).bind fun r10=>(if (!r10.1.2.1)=true then (some (([],(4:Int),()),())) else ((idx r10.1.1 a2.1).bind fun x11=>((zaO O (x11.1,x11.2.1,x11.2.2.1,()) a2.2.1).bind fun r12=>((idx r10.1.1 a2.2.2.1).bind fun x13=>((zaO O (x13.1,x13.2.1,x13.2.2.1,()) a2.2.2.2.1).bind fun r14=>(if List.length r10.1.1*56<=140737488355328 then (if 0<=a2.1∧a2.1<(r10.1.1.length:Int) then ((r10.1.1[a2.1.toNat]?).bind fun x15=>((zeK O r12.1.1 r12.1.2.1).bind fun r16=>(if (!r16.1.1)=true then ((zcw O r10.1.1 a2.1).bind fun r17=>((zbg O (r10.1.1.set a2.1.toNat (false,r12.1.2.1,r14.1.2.1,())) r17.1.1).bind fun r18=>(some ((r18.1.1,r18.1.2.1,()),())))) else ((zbg O (r10.1.1.set a2.1.toNat (false,r12.1.2.1,r14.1.2.1,())) false).bind fun r19=>(some ((r19.1.1,r19.1.2.1,()),())))))) else none) else none)))))))))))))))))))))))
theorem zeQ (a0 a1 a2) {r} (h:zct M a0 a1 a2=some r):zeV M a0 a1 a2=some r:=fxC (fun O=>(by kernel_rfl:zeV (Φ E1 O) a0 a1 a2=zct O a0 a1 a2)) h
def ze2 (a0:Yg) (a1:Yb) (a2:Yq×Yb×Unit) (a3:Yf) (a4:Int):Option ((Yg×(Yq×Yb×Unit)×Yf×Unit)⊕YI):=
  (if (decide (a4<(a1.length:Int)))=true then ((zF O a4 a2.1 a2.2.1).bind fun r1=>((zoC O r1.1.1).bind fun r2=>(if (!r2.1.1)=true then (some (.inr (([],false,()),()))) else ((zF O a4 a2.1 a2.2.1).bind fun r3=>((idx r3.1.1 (0:Int)).bind fun x4=>(if (List.length a3+List.length ([(x4.1,x4.2.1,x4.2.2.1,())]:Yf))*56<=140737488355328 then (zdl O (a0.1,()) a1 a2 (a3++([(x4.1,x4.2.1,x4.2.2.1,())]:Yf)) (i64.wrap (a4+1))) else none)))))) else (some (.inl ((a0.1,()),a2,a3,()))))
theorem zmB (a0 a1 a2 a3 a4) {r} (h:ze2 M a0 a1 a2 a3 a4=some r):zdl M a0 a1 a2 a3 a4=some r:=fxL (fun O=>(by kernel_rfl:zdl (Φ E1 O) a0 a1 a2 a3 a4=ze2 O a0 a1 a2 a3 a4)) h
def zE (a0:Yg) (a1:Yu) (a2:Yq) (a3:Int) (a4 a5:Yb):Option YI:=
  (((if (a3==1)=true then ((((zdn O (0:Int) (1:Int) (a4,a5,()).1 (a4,a5,()).2.1).bind fun r3=>(if r3.1.1=true then ((idx a5 (0:Int)).bind fun x4=>(if (decide (x4>=0))=true then ((idx a5 (0:Int)).bind fun x5=>(some (.inl (a1,a5,(decide (x5<(a1.length:Int))),())))) else (some (.inl (a1,a5,false,()))))) else (some (.inl (a1,a5,false,()))))):Option ((Yu×Yb×Bool×Unit)⊕(Unit⊕Yo×(Unit)))).bind (Sum.elim (fun q2=>(if q2.2.2.1=true then ((idx q2.2.1 (0:Int)).bind fun x6=>((idx q2.1 x6).bind fun x7=>((zdv O x7).bind fun r8=>((some ((r8.1.1,true,()),())).map .inr)))) else (some (.inl ())))) (fun r=>some r))) else (if (a3==2)=true then ((zdn O (2:Int) (5:Int) (a4,a5,()).1 (a4,a5,()).2.1).bind fun r9=>(if r9.1.1=true then ((zF O (0:Int) (a2,a4,()).1 (a2,a4,()).2.1).bind fun r10=>((zF O (1:Int) (a2,a4,()).1 (a2,a4,()).2.1).bind fun r11=>((idx a5 (0:Int)).bind fun x12=>((idx a5 (1:Int)).bind fun x13=>((idx a5 (2:Int)).bind fun x14=>((idx a5 (3:Int)).bind fun x15=>((idx a5 (4:Int)).bind fun x16=>((zbG O (a0.1,()) r10.1.1 r11.1.1 (x12,x13,x14,x15,x16,())).bind fun r17=>((zhf O r17.1.1 r17.1.2.1).bind fun r18=>((some ((r18.1.1,r18.1.2.1,()),())).map .inr)))))))))) else (some (.inl ())))) else (if (a3==3)=true then ((zdn O (1:Int) (1:Int) (a4,a5,()).1 (a4,a5,()).2.1).bind fun r19=>(if r19.1.1=true then ((zF O (0:Int) (a2,a4,()).1 (a2,a4,()).2.1).bind fun r20=>((idx a5 (0:Int)).bind fun x21=>((zd6 O (a0.1,()) r20.1.1 x21).bind fun r22=>((zhf O r22.1.1 r22.1.2.1).bind fun r23=>((some ((r23.1.1,r23.1.2.1,()),())).map .inr))))) else (some (.inl ())))) else (if (a3==4)=true then ((zdn O (1:Int) (4:Int) (a4,a5,()).1 (a4,a5,()).2.1).bind fun r24=>(if r24.1.1=true then ((zF O (0:Int) (a2,a4,()).1 (a2,a4,()).2.1).bind fun r25=>((idx a5 (0:Int)).bind fun x26=>((idx a5 (1:Int)).bind fun x27=>((idx a5 (2:Int)).bind fun x28=>((idx a5 (3:Int)).bind fun x29=>((zeV O (a0.1,()) r25.1.1 (x26,x27,x28,x29,(0:Int),())).bind fun r30=>((zhf O r30.1.1 r30.1.2.1).bind fun r31=>((some ((r31.1.1,r31.1.2.1,()),())).map .inr)))))))) else (some (.inl ())))) else (if (a3==5)=true then (((if (decide ((a4.length:Int)<(1:Int)))=true then (some (.inl ((a0.1,()),a4,(a2,a4,()),true,()))) else (if (decide ((a4.length:Int)>(11:Int)))=true then (some (.inl ((a0.1,()),a4,(a2,a4,()),true,()))) else (some (.inl ((a0.1,()),a4,(a2,a4,()),(decide ((a5.length:Int)>(0:Int))),()))))):Option ((Yg×Yb×(Yq×Yb×Unit)×Bool×Unit)⊕(Unit⊕Yo×(Unit)))).bind (Sum.elim (fun q32=>(if q32.2.2.2.1=true then ((some (([],false,()),())).map .inr) else ((zdl O (q32.1.1,()) q32.2.1 q32.2.2.1 [] (1:Int)).bind (Sum.elim (fun y33=>((zF O (0:Int) y33.2.1.1 y33.2.1.2.1).bind fun r35=>((zfl O (y33.1.1,()) r35.1.1 y33.2.2.1).bind fun r36=>((some ((r36.1.1,true,()),())).map .inr)))) (fun r34=>((some r34).map .inr)))))) (fun r=>some r))) else (some (.inl ()))))))):Option (Unit⊕Yo×(Unit))).bind (Sum.elim (fun q1=>(some (([],false,()),()))) (fun r=>some r)))
theorem zO (a0 a1 a2 a3 a4 a5) {r} (h:zE M a0 a1 a2 a3 a4 a5=some r):zlz M a0 a1 a2 a3 a4 a5=some r:=fxC (fun O=>(by kernel_rfl:zlz (Φ E1 O) a0 a1 a2 a3 a4 a5=zE O a0 a1 a2 a3 a4 a5)) h
def zkF (a0 a1:Ya):Option Yd:=
  (if (a0.1==a1.1)=true then ((zD O a0.2.1 a1.2.1).bind fun r1=>(if r1.1.1=true then ((zD O a0.2.2.1 a1.2.2.1).bind fun r2=>(some ((r2.1.1,()),()))) else (some ((false,()),())))) else (some ((false,()),())))
theorem zvy (a0 a1) {r} (h:zkF M a0 a1=some r):zhi M a0 a1=some r:=fxC (fun O=>(by kernel_rfl:zhi (Φ E1 O) a0 a1=zkF O a0 a1)) h
def zm (a0:Yf) (a1:Unit) (a2:Yf) (a3 a4:Int):Option Yz:=
  (if (decide (a4<a3))=true then ((idx a2 a4).bind fun x1=>((idx a0 a4).bind fun x2=>((zhi O (x1.1,x1.2.1,x1.2.2.1,()) (x2.1,x2.2.1,x2.2.2.1,())).bind fun r3=>(if (!r3.1.1)=true then (some (.inr ((false,()),()))) else (zj O a0 a1 a2 a3 (i64.wrap (a4+1))))))) else (some (.inl ())))
theorem zaR (a0 a1 a2 a3 a4) {r} (h:zm M a0 a1 a2 a3 a4=some r):zj M a0 a1 a2 a3 a4=some r:=fxL (fun O=>(by kernel_rfl:zj (Φ E1 O) a0 a1 a2 a3 a4=zm O a0 a1 a2 a3 a4)) h
def z5 (a0 a1:Yf) (a2:Unit):Option Yd:=
  (if ((a0.length:Int) !=(a1.length:Int))=true then (some ((false,()),())) else ((zj O a1 a2 a0 (a0.length:Int) (0:Int)).bind (Sum.elim (fun y1=>(some ((true,()),()))) (fun r2=>(some r2)))))
theorem zc3 (a0 a1 a2) {r} (h:z5 M a0 a1 a2=some r):zt M a0 a1 a2=some r:=fxC (fun O=>(by kernel_rfl:zt (Φ E1 O) a0 a1 a2=z5 O a0 a1 a2)) h
def zmd (a0 a1:Yf):Option Yd:=
  ((zt O a0 a1 ()).bind fun r1=>(some ((r1.1.1,()),())))
theorem zwL (a0 a1) {r} (h:zmd M a0 a1=some r):zi1 M a0 a1=some r:=fxC (fun O=>(by kernel_rfl:zi1 (Φ E1 O) a0 a1=zmd O a0 a1)) h
def zc7 (a0:Yg) (a1:Yu) (a2:Yq) (a3:Yc):Option Yh:=
  ((zmQ O a2 a3.2.1).bind fun r1=>(if (!r1.1.1)=true then (some (((2:Int),()),())) else ((zlz O (a0.1,()) a1 a2 a3.1 a3.2.1 a3.2.2.1).bind fun r2=>(if (!r2.1.2.1)=true then (some (((3:Int),()),())) else ((zi1 O r2.1.1 a3.2.2.2.1).bind fun r3=>(if (!r3.1.1)=true then (some (((4:Int),()),())) else (some (((0:Int),()),()))))))))
theorem zgZ (a0 a1 a2 a3) {r} (h:zc7 M a0 a1 a2 a3=some r):zgY M a0 a1 a2 a3=some r:=fxC (fun O=>(by kernel_rfl:zgY (Φ E1 O) a0 a1 a2 a3=zc7 O a0 a1 a2 a3)) h
def zcI (a0:Yu) (a1:Yq) (a2:Yg) (a3:Yq) (a4 a5:Int):Option ((Unit)⊕((Int×Int×Bool×Unit)×(Unit))):=
  (if (decide (a5<a4))=true then ((idx a3 a5).bind fun x1=>(if 0<=(0:Int)∧(0:Int)<=a5∧a5<=(a1.length:Int) then ((zgY O (a2.1,()) a0 ((a1.take a5.toNat).drop (Int.toNat (0:Int))) (x1.1,x1.2.1,x1.2.2.1,x1.2.2.2.1,())).bind fun r2=>(if (r2.1.1 !=0)=true then (some (.inr ((r2.1.1,a5,true,()),()))) else (zcj O a0 a1 (a2.1,()) a3 a4 (i64.wrap (a5+1))))) else none)) else (some (.inl ())))
theorem zgy (a0 a1 a2 a3 a4 a5) {r} (h:zcI M a0 a1 a2 a3 a4 a5=some r):zcj M a0 a1 a2 a3 a4 a5=some r:=fxL (fun O=>(by kernel_rfl:zcj (Φ E1 O) a0 a1 a2 a3 a4 a5=zcI O a0 a1 a2 a3 a4 a5)) h
def zfI (a0:Yg) (a1:Yu) (a2:Yq):Option ((Int×Int×Bool×Unit)×(Unit)):=
  ((zg8 O (a0.1,())).bind fun r1=>(if (!r1.1.1)=true then (some (((0:Int),(0:Int),false,()),())) else ((zg0 O (a0.1,()) a1).bind fun r2=>(if (!r2.1.1)=true then (some (((0:Int),(0:Int),false,()),())) else (if (decide ((a2.length:Int)>(200:Int)))=true then (some (((1:Int),(0:Int),true,()),())) else ((zcj O a1 a2 (a0.1,()) a2 (a2.length:Int) (0:Int)).bind (Sum.elim (fun y3=>(some (((0:Int),(0:Int),true,()),()))) (fun r4=>(some r4)))))))))
theorem zkv (a0 a1 a2) {r} (h:zfI M a0 a1 a2=some r):zbJ M a0 a1 a2=some r:=fxC (fun O=>(by kernel_rfl:zbJ (Φ E1 O) a0 a1 a2=zfI O a0 a1 a2)) h
def ziU (a0:Int) (a1:Yb) (a2 a3:Int):Option (YE⊕Yh):=
  (if (decide (a3<a2))=true then ((idx a1 a3).bind fun x1=>(if (1000003:Int)=0 then none else (zgM O (Int.tmod (i64.wrap ((i64.wrap ((31:Int)*a0))+(i64.wrap x1))) (1000003:Int)) a1 a2 (i64.wrap (a3+1))))) else (some (.inl (a0,()))))
theorem zqA (a0 a1 a2 a3) {r} (h:ziU M a0 a1 a2 a3=some r):zgM M a0 a1 a2 a3=some r:=fxL (fun O=>(by kernel_rfl:zgM (Φ E1 O) a0 a1 a2 a3=ziU O a0 a1 a2 a3)) h
def zqt (a0:Yb):Option Yh:=
  ((zgM O (0:Int) a0 (a0.length:Int) (0:Int)).bind (Sum.elim (fun y1=>(some ((y1.1,()),()))) (fun r2=>(some r2))))
theorem zzu (a0) {r} (h:zqt M a0=some r):zmn M a0=some r:=fxC (fun O=>(by kernel_rfl:zmn (Φ E1 O) a0=zqt O a0)) h
def zi5 (a0:Yw) (a1:Int) (a2:Yw) (a3:Yb) (a4 a5:Int):Option ((Yw×Yw×Unit)⊕((Yw×Unit)×(Unit))):=
  (if (decide (a5<a4))=true then ((idx a3 a5).bind fun x1=>((zfj O (a0.1,a0.2.1,()) a1 (a2.1,a2.2.1,()) x1 (1:Int) a3 a4 a5).bind (Sum.elim (fun y2=>((zeF O (y2.1.1,y2.1.2.1,()) y2.2.1 (y2.2.2.1.1,y2.2.2.1.2.1,()) y2.2.2.2.1 [] y2.2.2.2.2.1 y2.2.2.2.2.2.1 y2.2.2.2.2.2.2.1).bind (Sum.elim (fun y4=>(if (List.length y4.2.2.1.2.1+List.length ([y4.2.2.2.1]:Yi))*24<=140737488355328 then (zgJ O (y4.1.1,y4.1.2.1,()) y4.2.1 (y4.2.2.1.1,(y4.2.2.1.2.1++([y4.2.2.2.1]:Yi)),()) y4.2.2.2.2.1 y4.2.2.2.2.2.1 (i64.wrap (y4.2.2.2.2.2.2.1+1))) else none)) (fun r5=>(some (.inr r5)))))) (fun r3=>(some (.inr r3)))))) else (some (.inl ((a0.1,a0.2.1,()),(a2.1,a2.2.1,()),()))))
theorem zqF (a0 a1 a2 a3 a4 a5) {r} (h:zi5 M a0 a1 a2 a3 a4 a5=some r):zgJ M a0 a1 a2 a3 a4 a5=some r:=fxL (fun O=>(by kernel_rfl:zgJ (Φ E1 O) a0 a1 a2 a3 a4 a5=zi5 O a0 a1 a2 a3 a4 a5)) h
def zhc (a0:Yw) (a1:Int) (a2:Yw) (a3 a4:Int) (a5:Yb) (a6 a7:Int):Option ((Yw×Int×Yw×Int×Yb×Int×Int×Unit)⊕((Yw×Unit)×(Unit))):=
  (if (decide (a3>0))=true then (zfj O (a0.1,a0.2.1,()) a1 (a2.1,a2.2.1,()) (i64.wrap (a3-1)) (i64.wrap (a4*a2.1)) a5 a6 a7) else (some (.inl ((a0.1,a0.2.1,()),a1,(a2.1,a2.2.1,()),a4,a5,a6,a7,()))))
theorem zpr (a0 a1 a2 a3 a4 a5 a6 a7) {r} (h:zhc M a0 a1 a2 a3 a4 a5 a6 a7=some r):zfj M a0 a1 a2 a3 a4 a5 a6 a7=some r:=fxL (fun O=>(by kernel_rfl:zfj (Φ E1 O) a0 a1 a2 a3 a4 a5 a6 a7=zhc O a0 a1 a2 a3 a4 a5 a6 a7)) h
def zgr (a0:Yw) (a1:Int) (a2:Yw) (a3:Int) (a4 a5:Yb) (a6 a7:Int):Option ((Yw×Int×Yw×Yb×Yb×Int×Int×Unit)⊕((Yw×Unit)×(Unit))):=
  (if (decide (a3>0))=true then (if (40:Int)<0 then none else (if a2.1=0 then none else (if (List.length a4+List.length ([(Int.tmod (i64.wrap (shrI .u64 (IntKind.u64.wrap ((IntKind.u64.wrap (a1*6364136223846793005))+(1442695040888963407:Int))) (40:Int))) a2.1)]:Yb))*8<=140737488355328 then (zeF O (a0.1,a0.2.1,()) (IntKind.u64.wrap ((IntKind.u64.wrap (a1*6364136223846793005))+(1442695040888963407:Int))) (a2.1,a2.2.1,()) (i64.wrap (a3-1)) (a4++([(Int.tmod (i64.wrap (shrI .u64 (IntKind.u64.wrap ((IntKind.u64.wrap (a1*6364136223846793005))+(1442695040888963407:Int))) (40:Int))) a2.1)]:Yb)) a5 a6 a7) else none))) else (some (.inl ((a0.1,a0.2.1,()),a1,(a2.1,a2.2.1,()),a4,a5,a6,a7,()))))
theorem zoh (a0 a1 a2 a3 a4 a5 a6 a7) {r} (h:zgr M a0 a1 a2 a3 a4 a5 a6 a7=some r):zeF M a0 a1 a2 a3 a4 a5 a6 a7=some r:=fxL (fun O=>(by kernel_rfl:zeF (Φ E1 O) a0 a1 a2 a3 a4 a5 a6 a7=zgr O a0 a1 a2 a3 a4 a5 a6 a7)) h
def zqX (a0:Yg) (a1:Yb):Option ((Yw×Unit)×(Unit)):=
  ((zmn O a1).bind fun r1=>(if (3:Int)=0 then none else ((zgJ O ((0:Int),[],()) (IntKind.u64.wrap ((IntKind.u64.wrap r1.1.1)+(7:Int))) ((i64.wrap ((1:Int)+(i64.wrap (Int.tmod (IntKind.u64.wrap ((IntKind.u64.wrap r1.1.1)+(7:Int))) (3:Int))))),[],()) a0.1 (a0.1.length:Int) (0:Int)).bind (Sum.elim (fun y2=>(some (((y2.2.1.1,y2.2.1.2.1,()),()),()))) (fun r3=>(some r3))))))
theorem zAM (a0 a1) {r} (h:zqX M a0 a1=some r):zk2 M a0 a1=some r:=fxC (fun O=>(by kernel_rfl:zk2 (Φ E1 O) a0 a1=zqX O a0 a1)) h
def zso (O:Oracle E1) (a0:Int):Option Yd:=
  (if (decide (a0>=1))=true then (some (((decide (a0<=3)),()),())) else (some ((false,()),())))
theorem zBV (a0) {r} (h:zso M a0=some r):zov M a0=some r:=fxC (fun O=>(by kernel_rfl:zov (Φ E1 O) a0=zso O a0)) h
def zjU (a0 a1 a2 a3:Int):Option (YE⊕Yh):=
  (if (decide (a3<a2))=true then (zhL O a0 (i64.wrap (a1*a0)) a2 (i64.wrap (a3+1))) else (some (.inl (a1,()))))
theorem zrB (a0 a1 a2 a3) {r} (h:zjU M a0 a1 a2 a3=some r):zhL M a0 a1 a2 a3=some r:=fxL (fun O=>(by kernel_rfl:zhL (Φ E1 O) a0 a1 a2 a3=zjU O a0 a1 a2 a3)) h
def zrg (a0 a1:Int):Option Yh:=
  ((zhL O a0 (1:Int) a1 (0:Int)).bind (Sum.elim (fun y1=>(some ((y1.1,()),()))) (fun r2=>(some r2))))
theorem zAI (a0 a1) {r} (h:zrg M a0 a1=some r):znr M a0 a1=some r:=fxC (fun O=>(by kernel_rfl:znr (Φ E1 O) a0 a1=zrg O a0 a1)) h
def zlp (O:Oracle E1) (a0 a1:Int):Option Yd:=
  (if (decide (a0<0))=true then (some ((true,()),())) else (some (((decide (a0>=a1)),()),())))
theorem zvZ (a0 a1) {r} (h:zlp M a0 a1=some r):zh0 M a0 a1=some r:=fxC (fun O=>(by kernel_rfl:zh0 (Φ E1 O) a0 a1=zlp O a0 a1)) h
def zaa (a0:Yb) (a1:YE) (a2 a3:Int):Option YB:=
  (if (decide (a3<a2))=true then ((idx a0 a3).bind fun x1=>((zh0 O x1 a1.1).bind fun r2=>(if r2.1.1=true then (some (.inr ((a3,()),()))) else (zab O a0 a1 a2 (i64.wrap (a3+1)))))) else (some (.inl ())))
theorem zbt (a0 a1 a2 a3) {r} (h:zaa M a0 a1 a2 a3=some r):zab M a0 a1 a2 a3=some r:=fxL (fun O=>(by kernel_rfl:zab (Φ E1 O) a0 a1 a2 a3=zaa O a0 a1 a2 a3)) h
def zaX (a0:Yb) (a1:YE):Option Yh:=
  ((zab O a0 a1 (a0.length:Int) (0:Int)).bind (Sum.elim (fun y1=>(some (((-1:Int),()),()))) (fun r2=>(some r2))))
theorem zdJ (a0 a1) {r} (h:zaX M a0 a1=some r):zbN M a0 a1=some r:=fxC (fun O=>(by kernel_rfl:zbN (Φ E1 O) a0 a1=zaX O a0 a1)) h
def zbz (a0:Yb) (a1:YE):Option Yd:=
  ((zbN O a0 a1).bind fun r1=>(some (((decide (r1.1.1>=0)),()),())))
theorem zii (a0 a1) {r} (h:zbz M a0 a1=some r):zaJ M a0 a1=some r:=fxC (fun O=>(by kernel_rfl:zaJ (Φ E1 O) a0 a1=zbz O a0 a1)) h
def zmK (a0:Int) (a1:Yb):Option Yd:=
  ((zaJ O a1 (a0,())).bind fun r1=>(some (((!r1.1.1),()),())))
theorem zw0 (a0 a1) {r} (h:zmK M a0 a1=some r):zjr M a0 a1=some r:=fxC (fun O=>(by kernel_rfl:zjr (Φ E1 O) a0 a1=zmK O a0 a1)) h
def zfT (a0:Yg) (a1:Yw) (a2:Yi) (a3 a4:Int):Option Yz:=
  (if (decide (a4<a3))=true then ((idx a2 a4).bind fun x1=>((idx a0.1 a4).bind fun x2=>((znr O a1.1 x2).bind fun r3=>(if ((x1.length:Int) !=r3.1.1)=true then (some (.inr ((false,()),()))) else ((zjr O a1.1 x1).bind fun r4=>(if (!r4.1.1)=true then (some (.inr ((false,()),()))) else (zed O (a0.1,()) (a1.1,a1.2.1,()) a2 a3 (i64.wrap (a4+1))))))))) else (some (.inl ())))
theorem znE (a0 a1 a2 a3 a4) {r} (h:zfT M a0 a1 a2 a3 a4=some r):zed M a0 a1 a2 a3 a4=some r:=fxL (fun O=>(by kernel_rfl:zed (Φ E1 O) a0 a1 a2 a3 a4=zfT O a0 a1 a2 a3 a4)) h
def zme (a0:Yg) (a1:Yw):Option Yd:=
  ((zov O a1.1).bind fun r1=>(if (!r1.1.1)=true then (some ((false,()),())) else (if ((a1.2.1.length:Int) !=(a0.1.length:Int))=true then (some ((false,()),())) else ((zed O (a0.1,()) (a1.1,a1.2.1,()) a1.2.1 (a1.2.1.length:Int) (0:Int)).bind (Sum.elim (fun y2=>(some ((true,()),()))) (fun r3=>(some r3)))))))
theorem zwv (a0 a1) {r} (h:zme M a0 a1=some r):ziQ M a0 a1=some r:=fxC (fun O=>(by kernel_rfl:ziQ (Φ E1 O) a0 a1=zme O a0 a1)) h
def zo2 (a0:Yg) (a1:Yw):Option Yd:=
  ((zg8 O (a0.1,())).bind fun r1=>(if r1.1.1=true then ((ziQ O (a0.1,()) (a1.1,a1.2.1,())).bind fun r2=>(some ((r2.1.1,()),()))) else (some ((false,()),()))))
theorem zzc (a0 a1) {r} (h:zo2 M a0 a1=some r):zlv M a0 a1=some r:=fxC (fun O=>(by kernel_rfl:zlv (Φ E1 O) a0 a1=zo2 O a0 a1)) h
def zmk (a0:Yg) (a1:Yf):Option Yd:=
  ((zdD O (a0.1,()) a1).bind fun r1=>(if r1.1.1=true then ((zbS O a1).bind fun r2=>((zhp O r2.1.1).bind fun r3=>(some (((decide ((r3.1.1.length:Int)<=(6:Int))),()),())))) else (some ((false,()),()))))
theorem zwC (a0 a1) {r} (h:zmk M a0 a1=some r):ziM M a0 a1=some r:=fxC (fun O=>(by kernel_rfl:ziM (Φ E1 O) a0 a1=zmk O a0 a1)) h
def zhd (a0 a1:Yb) (a2:Yg) (a3:Yw) (a4 a5 a6 a7 a8:Int):Option ((Yw×Int×Int×Int×Unit)⊕((Int×Int×Unit)×(Unit))):=
  (if (decide (a8<a7))=true then ((ziK O (a2.1,()) (a3.1,a3.2.1,()) a0 a6 a1).bind fun r1=>(zfc O a0 a1 (a2.1,()) (a3.1,a3.2.1,()) a4 (i64.wrap ((i64.wrap (a5*a3.1))+r1.1.1)) r1.1.2.1 a7 (i64.wrap (a8+1)))) else (some (.inl ((a3.1,a3.2.1,()),a4,a5,a6,()))))
theorem zpv (a0 a1 a2 a3 a4 a5 a6 a7 a8) {r} (h:zhd M a0 a1 a2 a3 a4 a5 a6 a7 a8=some r):zfc M a0 a1 a2 a3 a4 a5 a6 a7 a8=some r:=fxL (fun O=>(by kernel_rfl:zfc (Φ E1 O) a0 a1 a2 a3 a4 a5 a6 a7 a8=zhd O a0 a1 a2 a3 a4 a5 a6 a7 a8)) h
def zoN (a0:Yg) (a1:Yw) (a2:Yb) (a3:Int) (a4:Yb):Option ((Int×Int×Unit)×(Unit)):=
  ((idx a2 a3).bind fun x1=>(if (decide (x1<0))=true then ((idx a4 (i64.wrap ((-1:Int)-x1))).bind fun x2=>(some ((x2,(i64.wrap (a3+1)),()),()))) else ((zeu O (a0.1,()) x1).bind fun r3=>((zfc O a2 a4 (a0.1,()) (a1.1,a1.2.1,()) x1 (0:Int) (i64.wrap (a3+1)) r3.1.1 (0:Int)).bind (Sum.elim (fun y4=>((idx y4.1.2.1 y4.2.1).bind fun x6=>((idx x6 y4.2.2.1).bind fun x7=>(some ((x7,y4.2.2.2.1,()),()))))) (fun r5=>(some r5)))))))
theorem zza (a0 a1 a2 a3 a4) {r} (h:zoN M a0 a1 a2 a3 a4=some r):ziK M a0 a1 a2 a3 a4=some r:=fxC (fun O=>(by kernel_rfl:ziK (Φ E1 O) a0 a1 a2 a3 a4=zoN O a0 a1 a2 a3 a4)) h
def znO (a0:Yg) (a1:Yw) (a2 a3:Yb):Option Yh:=
  ((ziK O (a0.1,()) (a1.1,a1.2.1,()) a2 (0:Int) a3).bind fun r1=>(some ((r1.1.1,()),())))
theorem zyo (a0 a1 a2 a3) {r} (h:znO M a0 a1 a2 a3=some r):zhR M a0 a1 a2 a3=some r:=fxC (fun O=>(by kernel_rfl:zhR (Φ E1 O) a0 a1 a2 a3=znO O a0 a1 a2 a3)) h
def zkX (a0:Ya) (a1:Yg) (a2:Yw) (a3:Yb):Option Yd:=
  ((zhR O (a1.1,()) (a2.1,a2.2.1,()) a0.2.1 a3).bind fun r1=>((zhR O (a1.1,()) (a2.1,a2.2.1,()) a0.2.2.1 a3).bind fun r2=>(some ((((r1.1.1==r2.1.1)==a0.1),()),()))))
theorem zvc (a0 a1 a2 a3) {r} (h:zkX M a0 a1 a2 a3=some r):zha M a0 a1 a2 a3=some r:=fxC (fun O=>(by kernel_rfl:zha (Φ E1 O) a0 a1 a2 a3=zkX O a0 a1 a2 a3)) h
def zw (a0:Yf) (a1:Yg×Yw×Yb×Unit) (a2 a3:Int):Option YB:=
  (if (decide (a3<a2))=true then ((idx a0 a3).bind fun x1=>((zha O (x1.1,x1.2.1,x1.2.2.1,()) a1.1 a1.2.1 a1.2.2.1).bind fun r2=>(if r2.1.1=true then (some (.inr ((a3,()),()))) else (zB O a0 a1 a2 (i64.wrap (a3+1)))))) else (some (.inl ())))
theorem zaM (a0 a1 a2 a3) {r} (h:zw M a0 a1 a2 a3=some r):zB M a0 a1 a2 a3=some r:=fxL (fun O=>(by kernel_rfl:zB (Φ E1 O) a0 a1 a2 a3=zw O a0 a1 a2 a3)) h
def zaj (a0:Yf) (a1:Yg×Yw×Yb×Unit):Option Yh:=
  ((zB O a0 a1 (a0.length:Int) (0:Int)).bind (Sum.elim (fun y1=>(some (((-1:Int),()),()))) (fun r2=>(some r2))))
theorem zb9 (a0 a1) {r} (h:zaj M a0 a1=some r):zaY M a0 a1=some r:=fxC (fun O=>(by kernel_rfl:zaY (Φ E1 O) a0 a1=zaj O a0 a1)) h
def zaN (a0:Yf) (a1:Yg×Yw×Yb×Unit):Option Yd:=
  ((zaY O a0 a1).bind fun r1=>(some (((decide (r1.1.1>=0)),()),())))
theorem zfH (a0 a1) {r} (h:zaN M a0 a1=some r):z6 M a0 a1=some r:=fxC (fun O=>(by kernel_rfl:z6 (Φ E1 O) a0 a1=zaN O a0 a1)) h
def zl9 (a0:Yg) (a1:Yw) (a2:Yf) (a3:Yb):Option Yd:=
  ((z6 O a2 ((a0.1,()),(a1.1,a1.2.1,()),a3,())).bind fun r1=>(some ((r1.1.1,()),())))
theorem zwK (a0 a1 a2 a3) {r} (h:zl9 M a0 a1 a2 a3=some r):ziT M a0 a1 a2 a3=some r:=fxC (fun O=>(by kernel_rfl:ziT (Φ E1 O) a0 a1 a2 a3=zl9 O a0 a1 a2 a3)) h
end
end Go.Proofs.YtchkojfhcdcnmaaGreatCk.Ev
