/- A text of its own: Eq0; no condition but those that each theorem names. -/
import Derived.Test.YtchkojfhcdcnmaaGreatMdNm
import Derived.KernelRfl
namespace Go.Proofs.YtchkojfhcdcnmaaGreatMd.Ev
open Go Go.IntKind
set_option maxRecDepth 100000
set_option autoImplicit false
set_option linter.unusedVariables false
noncomputable section
variable (O : Oracle E1)
def zxJ (O:Oracle E1) (a0 a1:Yb):Option Yd:=
  (if (decide ((a0.length:Int)>(1048576:Int)))=true then (some ((true,()),())) else (some (((decide ((a1.length:Int)>(i64.wrap ((1048576:Int)-(a0.length:Int))))),()),())))
theorem zHp:tM2 zqR zxJ:=eM2
def zj0 (a0 a1:Yb) (a2 a3:Int):Option Yy:=
  (if (decide (a3<a2))=true then ((idx a0 a3).bind fun x1=>((idx a1 a3).bind fun x2=>(if (x1 !=x2)=true then (some (.inr ((false,()),()))) else (zhC O a0 a1 a2 (i64.wrap (a3+1)))))) else (some (.inl ())))
theorem zr9:tM4 zhC zj0:=eM4
def zqV (a0 a1:Yb):Option Yd:=
  (if ((a0.length:Int) !=(a1.length:Int))=true then (some ((false,()),())) else ((zhC O a0 a1 (a0.length:Int) (0:Int)).bind (Sum.elim (fun y1=>(some ((true,()),()))) (fun r2=>(some r2)))))
theorem zBz:tM2 zeq zqV:=eM2
def zrn (a0 a1:Yb):Option Yd:=
  ((zeq O a0 a1).bind fun r1=>(some ((r1.1.1,()),())))
theorem zBv:tM2 zkZ zrn:=eM2
def zjQ (a0 a1:Ye) (a2 a3:Int):Option Yy:=
  (if (decide (a3<a2))=true then ((idx a0 a3).bind fun x1=>((idx a1 a3).bind fun x2=>(if (!(x1.1==x2.1))=true then (some (.inr ((false,()),()))) else ((idx a0 a3).bind fun x3=>((idx a1 a3).bind fun x4=>((zkZ O x3.2.1 x4.2.1).bind fun r5=>(if (!r5.1.1)=true then (some (.inr ((false,()),()))) else ((idx a0 a3).bind fun x6=>((idx a1 a3).bind fun x7=>((zkZ O x6.2.2.1 x7.2.2.1).bind fun r8=>(if (!r8.1.1)=true then (some (.inr ((false,()),()))) else (zhz O a0 a1 a2 (i64.wrap (a3+1)))))))))))))) else (some (.inl ())))
theorem zr8:tM4 zhz zjQ:=eM4
def zrN (a0 a1:Ye):Option Yd:=
  (if ((a0.length:Int) !=(a1.length:Int))=true then (some ((false,()),())) else ((zhz O a0 a1 (a0.length:Int) (0:Int)).bind (Sum.elim (fun y1=>(some ((true,()),()))) (fun r2=>(some r2)))))
theorem zBr:tM2 zny zrN:=eM2
def ziZ (a0 a1:Yq) (a2 a3:Int):Option Yy:=
  (if (decide (a3<a2))=true then ((idx a0 a3).bind fun x1=>((idx a1 a3).bind fun x2=>(if (x1.1 !=x2.1)=true then (some (.inr ((false,()),()))) else ((idx a0 a3).bind fun x3=>((idx a1 a3).bind fun x4=>((zeq O x3.2.1 x4.2.1).bind fun r5=>(if (!r5.1.1)=true then (some (.inr ((false,()),()))) else ((idx a0 a3).bind fun x6=>((idx a1 a3).bind fun x7=>((zeq O x6.2.2.1 x7.2.2.1).bind fun r8=>(if (!r8.1.1)=true then (some (.inr ((false,()),()))) else ((idx a0 a3).bind fun x9=>((idx a1 a3).bind fun x10=>((zny O x9.2.2.2.1 x10.2.2.2.1).bind fun r11=>(if (!r11.1.1)=true then (some (.inr ((false,()),()))) else (zdd O a0 a1 a2 (i64.wrap (a3+1)))))))))))))))))) else (some (.inl ())))
theorem zrb:tM4 zdd ziZ:=eM4
def zqa (a0 a1:Yq):Option Yd:=
  (if ((a0.length:Int) !=(a1.length:Int))=true then (some ((false,()),())) else ((zdd O a0 a1 (a0.length:Int) (0:Int)).bind (Sum.elim (fun y1=>(some ((true,()),()))) (fun r2=>(some r2)))))
theorem zAO:tM2 zjB zqa:=eM2
def zj4 (a0:Int) (a1:Yb) (a2 a3:Int):Option (YA⊕Yh):=
  (if (decide (a3<a2))=true then ((idx a1 a3).bind fun x1=>(if (1000003:Int)=0 then none else (zhH O (Int.tmod (i64.wrap ((i64.wrap ((31:Int)*a0))+(i64.wrap x1))) (1000003:Int)) a1 a2 (i64.wrap (a3+1))))) else (some (.inl (a0,()))))
theorem zrZ:tM4 zhH zj4:=eM4
def zq8 (a0:Yb):Option Yh:=
  ((zhH O (0:Int) a0 (a0.length:Int) (0:Int)).bind (Sum.elim (fun y1=>(some ((y1.1,()),()))) (fun r2=>(some r2))))
theorem zBd:tM1 znO zq8:=eM1
def zjO (a0:Yw) (a1:Int) (a2:Yw) (a3:Yb) (a4 a5:Int):Option ((Yw×Yw×Unit)⊕((Yw×Unit)×(Unit))):=
  (if (decide (a5<a4))=true then ((idx a3 a5).bind fun x1=>((zgp O (a0.1,a0.2.1,()) a1 (a2.1,a2.2.1,()) x1 (1:Int) a3 a4 a5).bind (Sum.elim (fun y2=>((zfo O (y2.1.1,y2.1.2.1,()) y2.2.1 (y2.2.2.1.1,y2.2.2.1.2.1,()) y2.2.2.2.1 [] y2.2.2.2.2.1 y2.2.2.2.2.2.1 y2.2.2.2.2.2.2.1).bind (Sum.elim (fun y4=>(if (List.length y4.2.2.1.2.1+List.length ([y4.2.2.2.1]:Yj))*24<=140737488355328 then (zhK O (y4.1.1,y4.1.2.1,()) y4.2.1 (y4.2.2.1.1,(y4.2.2.1.2.1++([y4.2.2.2.1]:Yj)),()) y4.2.2.2.2.1 y4.2.2.2.2.2.1 (i64.wrap (y4.2.2.2.2.2.2.1+1))) else none)) (fun r5=>(some (.inr r5)))))) (fun r3=>(some (.inr r3)))))) else (some (.inl ((a0.1,a0.2.1,()),(a2.1,a2.2.1,()),()))))
theorem zrU:tM6 zhK zjO:=eM6
def zh8 (a0:Yw) (a1:Int) (a2:Yw) (a3 a4:Int) (a5:Yb) (a6 a7:Int):Option ((Yw×Int×Yw×Int×Yb×Int×Int×Unit)⊕((Yw×Unit)×(Unit))):=
  (if (decide (a3>0))=true then (zgp O (a0.1,a0.2.1,()) a1 (a2.1,a2.2.1,()) (i64.wrap (a3-1)) (i64.wrap (a4*a2.1)) a5 a6 a7) else (some (.inl ((a0.1,a0.2.1,()),a1,(a2.1,a2.2.1,()),a4,a5,a6,a7,()))))
theorem zqD:tM8 zgp zh8:=eM8
def zhi (a0:Yw) (a1:Int) (a2:Yw) (a3:Int) (a4 a5:Yb) (a6 a7:Int):Option ((Yw×Int×Yw×Yb×Yb×Int×Int×Unit)⊕((Yw×Unit)×(Unit))):=
  (if (decide (a3>0))=true then (if (40:Int)<0 then none else (if a2.1=0 then none else (if (List.length a4+List.length ([(Int.tmod (i64.wrap (shrI .u64 (IntKind.u64.wrap ((IntKind.u64.wrap (a1*6364136223846793005))+(1442695040888963407:Int))) (40:Int))) a2.1)]:Yb))*8<=140737488355328 then (zfo O (a0.1,a0.2.1,()) (IntKind.u64.wrap ((IntKind.u64.wrap (a1*6364136223846793005))+(1442695040888963407:Int))) (a2.1,a2.2.1,()) (i64.wrap (a3-1)) (a4++([(Int.tmod (i64.wrap (shrI .u64 (IntKind.u64.wrap ((IntKind.u64.wrap (a1*6364136223846793005))+(1442695040888963407:Int))) (40:Int))) a2.1)]:Yb)) a5 a6 a7) else none))) else (some (.inl ((a0.1,a0.2.1,()),a1,(a2.1,a2.2.1,()),a4,a5,a6,a7,()))))
theorem zpx:tM8 zfo zhi:=eM8
def zsy (a0:Yg) (a1:Yb):Option ((Yw×Unit)×(Unit)):=
  ((znO O a1).bind fun r1=>(if (3:Int)=0 then none else ((zhK O ((0:Int),[],()) (IntKind.u64.wrap ((IntKind.u64.wrap r1.1.1)+(7:Int))) ((i64.wrap ((1:Int)+(i64.wrap (Int.tmod (IntKind.u64.wrap ((IntKind.u64.wrap r1.1.1)+(7:Int))) (3:Int))))),[],()) a0.1 (a0.1.length:Int) (0:Int)).bind (Sum.elim (fun y2=>(some (((y2.2.1.1,y2.2.1.2.1,()),()),()))) (fun r3=>(some r3))))))
theorem zBV:tM2 zg1 zsy:=eM2
def zo3 (O:Oracle E1) (a0:Int):Option Yd:=
  (if (decide (a0<0))=true then (some ((true,()),())) else (some (((decide (a0>3)),()),())))
theorem zz2:tM1 zlo zo3:=eM1
def zap (a0:Yb) (a1:Unit) (a2 a3:Int):Option YC:=
  (if (decide (a3<a2))=true then ((idx a0 a3).bind fun x1=>((zlo O x1).bind fun r2=>(if r2.1.1=true then (some (.inr ((a3,()),()))) else (zar O a0 a1 a2 (i64.wrap (a3+1)))))) else (some (.inl ())))
theorem zb1:tM4 zar zap:=eM4
def zbp (a0:Yb) (a1:Unit):Option Yh:=
  ((zar O a0 a1 (a0.length:Int) (0:Int)).bind (Sum.elim (fun y1=>(some (((-1:Int),()),()))) (fun r2=>(some r2))))
theorem ze0:tM2 zcv zbp:=eM2
def zb7 (a0:Yb) (a1:Unit):Option Yd:=
  ((zcv O a0 a1).bind fun r1=>(some (((decide (r1.1.1>=0)),()),())))
theorem zkd:tM2 za9 zb7:=eM2
def zq7 (a0:Yg):Option Yd:=
  (if (decide ((a0.1.length:Int)<(1:Int)))=true then (some ((false,()),())) else (if (decide ((a0.1.length:Int)>(10:Int)))=true then (some ((false,()),())) else ((idx a0.1 (0:Int)).bind fun x1=>(if (x1 !=0)=true then (some ((false,()),())) else ((za9 O a0.1 ()).bind fun r2=>(some (((!r2.1.1),()),())))))))
theorem zBc:tM1 zen zq7:=eM1
def zt8 (O:Oracle E1) (a0:Int):Option Yd:=
  (if (decide (a0>=1))=true then (some (((decide (a0<=3)),()),())) else (some ((false,()),())))
theorem zDB:tM1 zpX zt8:=eM1
def zkU (a0 a1 a2 a3:Int):Option (YA⊕Yh):=
  (if (decide (a3<a2))=true then (ziN O a0 (i64.wrap (a1*a0)) a2 (i64.wrap (a3+1))) else (some (.inl (a1,()))))
theorem zs5:tM4 ziN zkU:=eM4
def zsk (a0 a1:Int):Option Yh:=
  ((ziN O a0 (1:Int) a1 (0:Int)).bind (Sum.elim (fun y1=>(some ((y1.1,()),()))) (fun r2=>(some r2))))
theorem zB2:tM2 zoF zsk:=eM2
def zmm (O:Oracle E1) (a0 a1:Int):Option Yd:=
  (if (decide (a0<0))=true then (some ((true,()),())) else (some (((decide (a0>=a1)),()),())))
theorem zxR:tM2 zji zmm:=eM2
def zae (a0:Yb) (a1:YA) (a2 a3:Int):Option YC:=
  (if (decide (a3<a2))=true then ((idx a0 a3).bind fun x1=>((zji O x1 a1.1).bind fun r2=>(if r2.1.1=true then (some (.inr ((a3,()),()))) else (zai O a0 a1 a2 (i64.wrap (a3+1)))))) else (some (.inl ())))
theorem zbF:tM4 zai zae:=eM4
def za8 (a0:Yb) (a1:YA):Option Yh:=
  ((zai O a0 a1 (a0.length:Int) (0:Int)).bind (Sum.elim (fun y1=>(some (((-1:Int),()),()))) (fun r2=>(some r2))))
theorem zee:tM2 zb8 za8:=eM2
def zbQ (a0:Yb) (a1:YA):Option Yd:=
  ((zb8 O a0 a1).bind fun r1=>(some (((decide (r1.1.1>=0)),()),())))
theorem zjm:tM2 zaT zbQ:=eM2
def zon (a0:Int) (a1:Yb):Option Yd:=
  ((zaT O a1 (a0,())).bind fun r1=>(some (((!r1.1.1),()),())))
theorem zyv:tM2 zkH zon:=eM2
def zgF (a0:Yg) (a1:Yw) (a2:Yj) (a3 a4:Int):Option Yy:=
  (if (decide (a4<a3))=true then ((idx a2 a4).bind fun x1=>((idx a0.1 a4).bind fun x2=>((zoF O a1.1 x2).bind fun r3=>(if ((x1.length:Int) !=r3.1.1)=true then (some (.inr ((false,()),()))) else ((zkH O a1.1 x1).bind fun r4=>(if (!r4.1.1)=true then (some (.inr ((false,()),()))) else (zeI O (a0.1,()) (a1.1,a1.2.1,()) a2 a3 (i64.wrap (a4+1))))))))) else (some (.inl ())))
theorem zoI:tM5 zeI zgF:=eM5
def zng (a0:Yg) (a1:Yw):Option Yd:=
  ((zpX O a1.1).bind fun r1=>(if (!r1.1.1)=true then (some ((false,()),())) else (if ((a1.2.1.length:Int) !=(a0.1.length:Int))=true then (some ((false,()),())) else ((zeI O (a0.1,()) (a1.1,a1.2.1,()) a1.2.1 (a1.2.1.length:Int) (0:Int)).bind (Sum.elim (fun y2=>(some ((true,()),()))) (fun r3=>(some r3)))))))
theorem zye:tM2 zj2 zng:=eM2
def zqd (a0:Yg) (a1:Yw):Option Yd:=
  ((zen O (a0.1,())).bind fun r1=>(if r1.1.1=true then ((zj2 O (a0.1,()) (a1.1,a1.2.1,())).bind fun r2=>(some ((r2.1.1,()),()))) else (some ((false,()),()))))
theorem zA2:tM2 zmh zqd:=eM2
def zp5 (O:Oracle E1) (a0:Yg) (a1:Int):Option Yh:=
  (if (decide (a1<0))=true then (some (((0:Int),()),())) else ((idx a0.1 a1).bind fun x1=>(some ((x1,()),()))))
theorem zAv:tM2 ze5 zp5:=eM2
def zgD (a0:Yg) (a1:Int) (a2:Yb) (a3 a4:Int):Option (YA⊕Yd):=
  (if (decide (a4<a3))=true then ((idx a2 a4).bind fun x1=>(if (a1==0)=true then (some (.inr ((false,()),()))) else (if (decide (x1<(-12:Int)))=true then (some (.inr ((false,()),()))) else (if (decide (x1>=(a0.1.length:Int)))=true then (some (.inr ((false,()),()))) else ((ze5 O (a0.1,()) x1).bind fun r2=>(zcq O (a0.1,()) (i64.wrap (a1+(i64.wrap (r2.1.1-1)))) a2 a3 (i64.wrap (a4+1)))))))) else (some (.inl (a1,()))))
theorem zoR:tM5 zcq zgD:=eM5
def zoq (a0:Yg) (a1:Yb):Option Yd:=
  (if (decide ((a1.length:Int)>(40:Int)))=true then (some ((false,()),())) else ((zcq O (a0.1,()) (1:Int) a1 (a1.length:Int) (0:Int)).bind (Sum.elim (fun y1=>(some (((y1.1==0),()),()))) (fun r2=>(some r2)))))
theorem zyP:tM2 zfE zoq:=eM2
def zo2 (a0:Yg) (a1:Ya):Option Yd:=
  ((zfE O (a0.1,()) a1.2.1).bind fun r1=>(if r1.1.1=true then ((zfE O (a0.1,()) a1.2.2.1).bind fun r2=>(some ((r2.1.1,()),()))) else (some ((false,()),()))))
theorem zzW:tM2 zlz zo2:=eM2
def zld (a0:Ya) (a1:Yg):Option Yd:=
  ((zlz O (a1.1,()) (a0.1,a0.2.1,a0.2.2.1,())).bind fun r1=>(some (((!r1.1.1),()),())))
theorem zwD:tM2 zhq zld:=eM2
def zu (a0:Ye) (a1:Yg×Unit) (a2 a3:Int):Option YC:=
  (if (decide (a3<a2))=true then ((idx a0 a3).bind fun x1=>((zhq O (x1.1,x1.2.1,x1.2.2.1,()) a1.1).bind fun r2=>(if r2.1.1=true then (some (.inr ((a3,()),()))) else (zz O a0 a1 a2 (i64.wrap (a3+1)))))) else (some (.inl ())))
theorem zaR:tM4 zz zu:=eM4
def zaj (a0:Ye) (a1:Yg×Unit):Option Yh:=
  ((zz O a0 a1 (a0.length:Int) (0:Int)).bind (Sum.elim (fun y1=>(some (((-1:Int),()),()))) (fun r2=>(some r2))))
theorem zct:tM2 za7 zaj:=eM2
def zaW (a0:Ye) (a1:Yg×Unit):Option Yd:=
  ((za7 O a0 a1).bind fun r1=>(some (((decide (r1.1.1>=0)),()),())))
theorem zfT:tM2 z9 zaW:=eM2
def zmB (a0:Yg) (a1:Ye):Option Yd:=
  (if (decide ((a1.length:Int)<=(8:Int)))=true then ((z9 O a1 ((a0.1,()),())).bind fun r1=>(some (((!r1.1.1),()),()))) else (some ((false,()),())))
theorem zxN:tM2 zcf zmB:=eM2
def zc0 (a0:Yb) (a1 a2 a3:Int):Option YC:=
  (if (decide (a3<a2))=true then ((idx a0 a3).bind fun x1=>(if (a1==x1)=true then (some (.inr ((a3,()),()))) else (zdo O a0 a1 a2 (i64.wrap (a3+1))))) else (some (.inl ())))
theorem zio:tM4 zdo zc0:=eM4
def zhs (a0:Yb) (a1:Int):Option Yh:=
  ((zdo O a0 a1 (a0.length:Int) (0:Int)).bind (Sum.elim (fun y1=>(some (((-1:Int),()),()))) (fun r2=>(some r2))))
theorem zpG:tM2 zk7 zhs:=eM2
end
end Go.Proofs.YtchkojfhcdcnmaaGreatMd.Ev
