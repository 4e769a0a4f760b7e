/- A text of its own: Eq9; no condition but those that each theorem names. -/
import Derived.Test.YtchkojfhcdcnmaaGreatCkNm
import Derived.KernelRfl
namespace Go.Proofs.YtchkojfhcdcnmaaGreatCk.Ev
open Go Go.IntKind
set_option maxRecDepth 100000
set_option autoImplicit false
set_option linter.unusedVariables false
noncomputable section
variable (O : Oracle E1)
def zkc (a0:Yq):Option Yh:=
  ((zG O a0 ()).bind fun r1=>(some ((r1.1.1,()),())))
theorem zsZ (a0) {r} (h:zkc M a0=some r):zky M a0=some r:=fxC (fun O=>(by kernel_rfl:zky (Φ E1 O) a0=zkc O a0)) h
def zgc (a0:Yg) (a1:Yu) (a2:Yq):Option YH:=
  ((zbJ O (a0.1,()) a1 a2).bind fun r1=>(if (!r1.1.2.2.1)=true then (some ((false,false,()),())) else ((zlG O (a0.1,()) a2).bind fun r2=>(if (!r2.1.1)=true then (some ((false,false,()),())) else (if (r1.1.1==0)=true then ((zky O a2).bind fun r3=>(some (((decide (r3.1.1>=0)),true,()),()))) else (some ((false,true,()),())))))))
theorem zlx (a0 a1 a2) {r} (h:zgc M a0 a1 a2=some r):zix M a0 a1 a2=some r:=fxC (fun O=>(by kernel_rfl:zix (Φ E1 O) a0 a1 a2=zgc O a0 a1 a2)) h
def zjL (a0:Yq) (a1:Yg) (a2:Yq) (a3 a4:Int):Option ((Yq×Yg×Unit)⊕Yd):=
  (if (decide (a4<a3))=true then ((idx a2 a4).bind fun x1=>((zbA O (a1.1,()) x1.2.2.2.1).bind fun r2=>(if (!r2.1.1)=true then (some (.inr ((false,()),()))) else (zhM O a0 (a1.1,()) a2 a3 (i64.wrap (a4+1)))))) else (some (.inl (a0,(a1.1,()),()))))
theorem zrM (a0 a1 a2 a3 a4) {r} (h:zjL M a0 a1 a2 a3 a4=some r):zhM M a0 a1 a2 a3 a4=some r:=fxL (fun O=>(by kernel_rfl:zhM (Φ E1 O) a0 a1 a2 a3 a4=zjL O a0 a1 a2 a3 a4)) h
def zra (a0:Yg) (a1:Yq):Option Yd:=
  ((zhM O a1 (a0.1,()) a1 (a1.length:Int) (0:Int)).bind (Sum.elim (fun y1=>((zjy O (y1.2.1.1,())).bind fun r3=>(if r3.1.1=true then (some (((decide ((y1.1.length:Int)<=(200:Int))),()),())) else (some ((false,()),()))))) (fun r2=>(some r2))))
theorem zz2 (a0 a1) {r} (h:zra M a0 a1=some r):znj M a0 a1=some r:=fxC (fun O=>(by kernel_rfl:znj (Φ E1 O) a0 a1=zra O a0 a1)) h
def zeG (a0:Yq) (a1:Yg) (a2:Yq) (a3 a4:Int):Option ((Yq×Yg×Unit)⊕Yd):=
  (if (decide (a4<a3))=true then ((idx a2 a4).bind fun x1=>(if (decide (a4>=200))=true then (some (.inr ((false,()),()))) else ((zik O x1.2.1 (0:Int) (i64.wrap (a4-1))).bind fun r2=>(if (!r2.1.1)=true then (some (.inr ((false,()),()))) else (zfK O a0 (a1.1,()) a2 a3 (i64.wrap (a4+1))))))) else (some (.inl (a0,(a1.1,()),()))))
theorem zjF (a0 a1 a2 a3 a4) {r} (h:zeG M a0 a1 a2 a3 a4=some r):zfK M a0 a1 a2 a3 a4=some r:=fxL (fun O=>(by kernel_rfl:zfK (Φ E1 O) a0 a1 a2 a3 a4=zeG O a0 a1 a2 a3 a4)) h
def znt (a0:Yg) (a1:Yq):Option Yd:=
  ((zfK O a1 (a0.1,()) a1 (a1.length:Int) (0:Int)).bind (Sum.elim (fun y1=>((znj O (y1.2.1.1,()) y1.1).bind fun r3=>(some ((r3.1.1,()),())))) (fun r2=>(some r2))))
theorem zva (a0 a1) {r} (h:znt M a0 a1=some r):znu M a0 a1=some r:=fxC (fun O=>(by kernel_rfl:znu (Φ E1 O) a0 a1=znt O a0 a1)) h
def zeT (a0:Yq) (a1 a2:Int):Option YB:=
  (if (decide (a2<a1))=true then ((idx a0 a2).bind fun x1=>(if ((x1.2.2.2.1.length:Int)==(0:Int))=true then (some (.inr ((a2,()),()))) else (zdP O a0 a1 (i64.wrap (a2+1))))) else (some (.inl ())))
theorem zjI (a0 a1 a2) {r} (h:zeT M a0 a1 a2=some r):zdP M a0 a1 a2=some r:=fxL (fun O=>(by kernel_rfl:zdP (Φ E1 O) a0 a1 a2=zeT O a0 a1 a2)) h
def zno (a0:Yq):Option Yh:=
  ((zdP O a0 (a0.length:Int) (0:Int)).bind (Sum.elim (fun y1=>(some (((-1:Int),()),()))) (fun r2=>(some r2))))
theorem zvi (a0) {r} (h:zno M a0=some r):znp M a0=some r:=fxC (fun O=>(by kernel_rfl:znp (Φ E1 O) a0=zno O a0)) h
def zgg (a0:Yg) (a1:Yu) (a2:Yq):Option YH:=
  ((zfn O (a0.1,()) a1).bind fun r1=>(if (!r1.1.1)=true then (some ((false,false,()),())) else ((znu O (a0.1,()) a2).bind fun r2=>(if (!r2.1.1)=true then (some ((false,false,()),())) else ((zig O (a0.1,()) a1 a2).bind fun r3=>(if (r3.1.1==0)=true then ((znp O a2).bind fun r4=>(some (((decide (r4.1.1>=0)),true,()),()))) else (some ((false,true,()),()))))))))
theorem zlJ (a0 a1 a2) {r} (h:zgg M a0 a1 a2=some r):zir M a0 a1 a2=some r:=fxC (fun O=>(by kernel_rfl:zir (Φ E1 O) a0 a1 a2=zgg O a0 a1 a2)) h
def zff (a0:Yg) (a1 a2:Bool) (a3:Yw) (a4 a5:Bool) (a6:Yq) (a7 a8:Int):Option ((Bool×Bool×Bool×Bool×Unit)⊕Yd):=
  (if (decide (a8<a7))=true then ((idx a6 a8).bind fun x1=>((zge O (a0.1,()) (a3.1,a3.2.1,()) x1.2.2.2.1).bind fun r2=>(if a5=true then (if r2.1.2.1=true then (if a4=true then (if (!r2.1.1)=true then (some (.inr ((false,()),()))) else (zbk O (a0.1,()) a1 a2 (a3.1,a3.2.1,()) a4 a5 a6 a7 (i64.wrap (a8+1)))) else (zbk O (a0.1,()) a1 a2 (a3.1,a3.2.1,()) a4 a5 a6 a7 (i64.wrap (a8+1)))) else (zbk O (a0.1,()) a1 a2 (a3.1,a3.2.1,()) a4 a5 a6 a7 (i64.wrap (a8+1)))) else (zbk O (a0.1,()) a1 a2 (a3.1,a3.2.1,()) a4 a5 a6 a7 (i64.wrap (a8+1)))))) else (some (.inl (a1,a2,a4,a5,()))))
theorem zmO (a0 a1 a2 a3 a4 a5 a6 a7 a8) {r} (h:zff M2 a0 a1 a2 a3 a4 a5 a6 a7 a8=some r):zbk M2 a0 a1 a2 a3 a4 a5 a6 a7 a8=some r:=fxLH (fun O=>(by kernel_rfl:zbk (Φ E1 O) a0 a1 a2 a3 a4 a5 a6 a7 a8=zff O a0 a1 a2 a3 a4 a5 a6 a7 a8)) h
def zoM (a0 a1:Yb):Option Yd:=
  ((zp8 O a0 a1).bind fun r1=>(if r1.1.1=true then (some ((true,()),())) else ((zg1 O a0).bind fun r2=>((zbJ O (r2.1.1.1,()) r2.1.2.1 r2.1.2.2.1).bind fun r3=>((zdL O (r2.1.1.1,()) r2.1.2.1 r2.1.2.2.1).bind fun r4=>((zix O (r2.1.1.1,()) r2.1.2.1 r2.1.2.2.1).bind fun r5=>((zir O (r2.1.1.1,()) r2.1.2.1 r2.1.2.2.1).bind fun r6=>(if (!(r3.1.2.2.1==r4.1.2.2.1))=true then (some ((false,()),())) else (if (r3.1.1 !=r4.1.1)=true then (some ((false,()),())) else (if (r3.1.2.1 !=r4.1.2.1)=true then (some ((false,()),())) else (if (!(r5.1.2.1==r6.1.2.1))=true then (some ((false,()),())) else (if (!(r5.1.1==r6.1.1))=true then (some ((false,()),())) else (((if r3.1.2.2.1=true then (if (r3.1.1==0)=true then ((zk2 O (r2.1.1.1,()) a1).bind fun r8=>((zkJ O (r2.1.1.1,()) (r8.1.1.1,r8.1.1.2.1,()) r2.1.2.1).bind fun r9=>((zbk O (r2.1.1.1,()) r5.1.1 r5.1.2.1 (r8.1.1.1,r8.1.1.2.1,()) r9.1.1 r9.1.2.1 r2.1.2.2.1 (r2.1.2.2.1.length:Int) (0:Int)).bind (Sum.elim (fun y10=>(if y10.2.2.2.1=true then (if y10.2.2.1=true then (if y10.2.1=true then (if y10.1=true then ((some ((false,()),())).map .inr) else (some (.inl ()))) else (some (.inl ()))) else (some (.inl ()))) else (some (.inl ())))) (fun r11=>((some r11).map .inr)))))) else (some (.inl ()))) else (some (.inl ()))):Option (Unit⊕YK×(Unit))).bind (Sum.elim (fun q7=>(some ((true,()),()))) (fun r=>some r)))))))))))))))
theorem zzj (a0 a1) {r} (h:zoM M2 a0 a1=some r):zle M2 a0 a1=some r:=fxCH (fun O=>(by kernel_rfl:zle (Φ E1 O) a0 a1=zoM O a0 a1)) h
end
end Go.Proofs.YtchkojfhcdcnmaaGreatCk.Ev
