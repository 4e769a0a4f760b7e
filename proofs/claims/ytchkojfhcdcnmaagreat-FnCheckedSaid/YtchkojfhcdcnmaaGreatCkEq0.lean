/- A text of its own: Eq0; no condition but those that each theorem names. -/
import Derived.Test.YtchkojfhcdcnmaaGreatCkNm
import Derived.KernelRfl
namespace Go.Proofs.YtchkojfhcdcnmaaGreatCk.Ev
open Go Go.IntKind
set_option maxRecDepth 100000
set_option autoImplicit false
set_option linter.unusedVariables false
noncomputable section
variable (O : Oracle E1)
def zv5 (O:Oracle E1) (a0 a1:Yb):Option Yd:=
  (if (decide ((a0.length:Int)>(1048576:Int)))=true then (some ((true,()),())) else (some (((decide ((a1.length:Int)>(i64.wrap ((1048576:Int)-(a0.length:Int))))),()),())))
theorem zEy (a0 a1) {r} (h:zv5 M a0 a1=some r):zp8 M a0 a1=some r:=fxC (fun O=>(by kernel_rfl:zp8 (Φ E1 O) a0 a1=zv5 O a0 a1)) h
def znH (O:Oracle E1) (a0:Int):Option Yd:=
  (if (decide (a0<0))=true then (some ((true,()),())) else (some (((decide (a0>3)),()),())))
theorem zyj (a0) {r} (h:znH M a0=some r):zkC M a0=some r:=fxC (fun O=>(by kernel_rfl:zkC (Φ E1 O) a0=znH O a0)) h
def zam (a0:Yb) (a1:Unit) (a2 a3:Int):Option YB:=
  (if (decide (a3<a2))=true then ((idx a0 a3).bind fun x1=>((zkC O x1).bind fun r2=>(if r2.1.1=true then (some (.inr ((a3,()),()))) else (zan O a0 a1 a2 (i64.wrap (a3+1)))))) else (some (.inl ())))
theorem zbI (a0 a1 a2 a3) {r} (h:zam M a0 a1 a2 a3=some r):zan M a0 a1 a2 a3=some r:=fxL (fun O=>(by kernel_rfl:zan (Φ E1 O) a0 a1 a2 a3=zam O a0 a1 a2 a3)) h
def zbd (a0:Yb) (a1:Unit):Option Yh:=
  ((zan O a0 a1 (a0.length:Int) (0:Int)).bind (Sum.elim (fun y1=>(some (((-1:Int),()),()))) (fun r2=>(some r2))))
theorem zet (a0 a1) {r} (h:zbd M a0 a1=some r):zb7 M a0 a1=some r:=fxC (fun O=>(by kernel_rfl:zb7 (Φ E1 O) a0 a1=zbd O a0 a1)) h
def zbO (a0:Yb) (a1:Unit):Option Yd:=
  ((zb7 O a0 a1).bind fun r1=>(some (((decide (r1.1.1>=0)),()),())))
theorem zjb (a0 a1) {r} (h:zbO M a0 a1=some r):zaW M a0 a1=some r:=fxC (fun O=>(by kernel_rfl:zaW (Φ E1 O) a0 a1=zbO O a0 a1)) h
def zqr (a0:Yg):Option Yd:=
  (if (decide ((a0.1.length:Int)<(1:Int)))=true then (some ((false,()),())) else (if (decide ((a0.1.length:Int)>(10:Int)))=true then (some ((false,()),())) else ((idx a0.1 (0:Int)).bind fun x1=>(if (x1 !=0)=true then (some ((false,()),())) else ((zaW O a0.1 ()).bind fun r2=>(some (((!r2.1.1),()),())))))))
theorem zzl (a0) {r} (h:zqr M a0=some r):zg8 M a0=some r:=fxC (fun O=>(by kernel_rfl:zg8 (Φ E1 O) a0=zqr O a0)) h
def zoP (O:Oracle E1) (a0:Yg) (a1:Int):Option Yh:=
  (if (decide (a1<0))=true then (some (((0:Int),()),())) else ((idx a0.1 a1).bind fun x1=>(some ((x1,()),()))))
theorem zzf (a0 a1) {r} (h:zoP M a0 a1=some r):zeu M a0 a1=some r:=fxC (fun O=>(by kernel_rfl:zeu (Φ E1 O) a0 a1=zoP O a0 a1)) h
def zfQ (a0:Yg) (a1:Int) (a2:Yb) (a3 a4:Int):Option (YE⊕Yd):=
  (if (decide (a4<a3))=true then ((idx a2 a4).bind fun x1=>(if (a1==0)=true then (some (.inr ((false,()),()))) else (if (decide (x1<(-12:Int)))=true then (some (.inr ((false,()),()))) else (if (decide (x1>=(a0.1.length:Int)))=true then (some (.inr ((false,()),()))) else ((zeu O (a0.1,()) x1).bind fun r2=>(zb1 O (a0.1,()) (i64.wrap (a1+(i64.wrap (r2.1.1-1)))) a2 a3 (i64.wrap (a4+1)))))))) else (some (.inl (a1,()))))
theorem znF (a0 a1 a2 a3 a4) {r} (h:zfQ M a0 a1 a2 a3 a4=some r):zb1 M a0 a1 a2 a3 a4=some r:=fxL (fun O=>(by kernel_rfl:zb1 (Φ E1 O) a0 a1 a2 a3 a4=zfQ O a0 a1 a2 a3 a4)) h
def znf (a0:Yg) (a1:Yb):Option Yd:=
  (if (decide ((a1.length:Int)>(40:Int)))=true then (some ((false,()),())) else ((zb1 O (a0.1,()) (1:Int) a1 (a1.length:Int) (0:Int)).bind (Sum.elim (fun y1=>(some (((y1.1==0),()),()))) (fun r2=>(some r2)))))
theorem zxp (a0 a1) {r} (h:znf M a0 a1=some r):zeR M a0 a1=some r:=fxC (fun O=>(by kernel_rfl:zeR (Φ E1 O) a0 a1=znf O a0 a1)) h
def znP (a0:Yg) (a1:Ya):Option Yd:=
  ((zeR O (a0.1,()) a1.2.1).bind fun r1=>(if r1.1.1=true then ((zeR O (a0.1,()) a1.2.2.1).bind fun r2=>(some ((r2.1.1,()),()))) else (some ((false,()),()))))
theorem zya (a0 a1) {r} (h:znP M a0 a1=some r):zke M a0 a1=some r:=fxC (fun O=>(by kernel_rfl:zke (Φ E1 O) a0 a1=znP O a0 a1)) h
def zj6 (a0:Ya) (a1:Yg):Option Yd:=
  ((zke O (a1.1,()) (a0.1,a0.2.1,a0.2.2.1,())).bind fun r1=>(some (((!r1.1.1),()),())))
theorem zuR (a0 a1) {r} (h:zj6 M a0 a1=some r):zgA M a0 a1=some r:=fxC (fun O=>(by kernel_rfl:zgA (Φ E1 O) a0 a1=zj6 O a0 a1)) h
def zu (a0:Yf) (a1:Yg×Unit) (a2 a3:Int):Option YB:=
  (if (decide (a3<a2))=true then ((idx a0 a3).bind fun x1=>((zgA O (x1.1,x1.2.1,x1.2.2.1,()) a1.1).bind fun r2=>(if r2.1.1=true then (some (.inr ((a3,()),()))) else (zz O a0 a1 a2 (i64.wrap (a3+1)))))) else (some (.inl ())))
theorem zaH (a0 a1 a2 a3) {r} (h:zu M a0 a1 a2 a3=some r):zz M a0 a1 a2 a3=some r:=fxL (fun O=>(by kernel_rfl:zz (Φ E1 O) a0 a1 a2 a3=zu O a0 a1 a2 a3)) h
def zad (a0:Yf) (a1:Yg×Unit):Option Yh:=
  ((zz O a0 a1 (a0.length:Int) (0:Int)).bind (Sum.elim (fun y1=>(some (((-1:Int),()),()))) (fun r2=>(some r2))))
theorem zb6 (a0 a1) {r} (h:zad M a0 a1=some r):zaV M a0 a1=some r:=fxC (fun O=>(by kernel_rfl:zaV (Φ E1 O) a0 a1=zad O a0 a1)) h
def zaL (a0:Yf) (a1:Yg×Unit):Option Yd:=
  ((zaV O a0 a1).bind fun r1=>(some (((decide (r1.1.1>=0)),()),())))
theorem ze9 (a0 a1) {r} (h:zaL M a0 a1=some r):zZ M a0 a1=some r:=fxC (fun O=>(by kernel_rfl:zZ (Φ E1 O) a0 a1=zaL O a0 a1)) h
def zlq (a0:Yg) (a1:Yf):Option Yd:=
  (if (decide ((a1.length:Int)<=(8:Int)))=true then ((zZ O a1 ((a0.1,()),())).bind fun r1=>(some (((!r1.1.1),()),()))) else (some ((false,()),())))
theorem zwm (a0 a1) {r} (h:zlq M a0 a1=some r):zdD M a0 a1=some r:=fxC (fun O=>(by kernel_rfl:zdD (Φ E1 O) a0 a1=zlq O a0 a1)) h
def zi9 (a0:Yf) (a1:Yg):Option Yd:=
  ((zdD O (a1.1,()) a0).bind fun r1=>(some (((!r1.1.1),()),())))
theorem zux (a0 a1) {r} (h:zi9 M a0 a1=some r):zfU M a0 a1=some r:=fxC (fun O=>(by kernel_rfl:zfU (Φ E1 O) a0 a1=zi9 O a0 a1)) h
def zl (a0:Yu) (a1:Yg×Unit) (a2 a3:Int):Option YB:=
  (if (decide (a3<a2))=true then ((idx a0 a3).bind fun x1=>((zfU O x1 a1.1).bind fun r2=>(if r2.1.1=true then (some (.inr ((a3,()),()))) else (zn O a0 a1 a2 (i64.wrap (a3+1)))))) else (some (.inl ())))
theorem zat (a0 a1 a2 a3) {r} (h:zl M a0 a1 a2 a3=some r):zn M a0 a1 a2 a3=some r:=fxL (fun O=>(by kernel_rfl:zn (Φ E1 O) a0 a1 a2 a3=zl O a0 a1 a2 a3)) h
def zU (a0:Yu) (a1:Yg×Unit):Option Yh:=
  ((zn O a0 a1 (a0.length:Int) (0:Int)).bind (Sum.elim (fun y1=>(some (((-1:Int),()),()))) (fun r2=>(some r2))))
theorem zbL (a0 a1) {r} (h:zU M a0 a1=some r):zaI M a0 a1=some r:=fxC (fun O=>(by kernel_rfl:zaI (Φ E1 O) a0 a1=zU O a0 a1)) h
def zav (a0:Yu) (a1:Yg×Unit):Option Yd:=
  ((zaI O a0 a1).bind fun r1=>(some (((decide (r1.1.1>=0)),()),())))
theorem zes (a0 a1) {r} (h:zav M a0 a1=some r):zI M a0 a1=some r:=fxC (fun O=>(by kernel_rfl:zI (Φ E1 O) a0 a1=zav O a0 a1)) h
def zkH (a0:Yg) (a1:Yu):Option Yd:=
  (if (decide ((a1.length:Int)<=(12:Int)))=true then ((zI O a1 ((a0.1,()),())).bind fun r1=>(some (((!r1.1.1),()),()))) else (some ((false,()),())))
theorem zvG (a0 a1) {r} (h:zkH M a0 a1=some r):zg0 M a0 a1=some r:=fxC (fun O=>(by kernel_rfl:zg0 (Φ E1 O) a0 a1=zkH O a0 a1)) h
def zq1 (O:Oracle E1) (a0:Int) (a1:Yq):Option Yd:=
  (if (decide (a0<0))=true then (some ((true,()),())) else (some (((decide (a0>=(a1.length:Int))),()),())))
theorem zAv (a0 a1) {r} (h:zq1 M a0 a1=some r):znk M a0 a1=some r:=fxC (fun O=>(by kernel_rfl:znk (Φ E1 O) a0 a1=zq1 O a0 a1)) h
def zar (a0:Yb) (a1:Yq×Unit) (a2 a3:Int):Option YB:=
  (if (decide (a3<a2))=true then ((idx a0 a3).bind fun x1=>((znk O x1 a1.1).bind fun r2=>(if r2.1.1=true then (some (.inr ((a3,()),()))) else (zax O a0 a1 a2 (i64.wrap (a3+1)))))) else (some (.inl ())))
theorem zb0 (a0 a1 a2 a3) {r} (h:zar M a0 a1 a2 a3=some r):zax M a0 a1 a2 a3=some r:=fxL (fun O=>(by kernel_rfl:zax (Φ E1 O) a0 a1 a2 a3=zar O a0 a1 a2 a3)) h
def zbu (a0:Yb) (a1:Yq×Unit):Option Yh:=
  ((zax O a0 a1 (a0.length:Int) (0:Int)).bind (Sum.elim (fun y1=>(some (((-1:Int),()),()))) (fun r2=>(some r2))))
theorem zfw (a0 a1) {r} (h:zbu M a0 a1=some r):zcA M a0 a1=some r:=fxC (fun O=>(by kernel_rfl:zcA (Φ E1 O) a0 a1=zbu O a0 a1)) h
def zb8 (a0:Yb) (a1:Yq×Unit):Option Yd:=
  ((zcA O a0 a1).bind fun r1=>(some (((decide (r1.1.1>=0)),()),())))
theorem zkb (a0 a1) {r} (h:zb8 M a0 a1=some r):zbe M a0 a1=some r:=fxC (fun O=>(by kernel_rfl:zbe (Φ E1 O) a0 a1=zb8 O a0 a1)) h
def zun (a0:Yq) (a1:Yb):Option Yd:=
  ((zbe O a1 (a0,())).bind fun r1=>(some (((!r1.1.1),()),())))
theorem zDd (a0 a1) {r} (h:zun M a0 a1=some r):zmQ M a0 a1=some r:=fxC (fun O=>(by kernel_rfl:zmQ (Φ E1 O) a0 a1=zun O a0 a1)) h
def zsz (O:Oracle E1) (a0:Yf):Option Yd:=
  (if ((a0.length:Int)==(1:Int))=true then ((idx a0 (0:Int)).bind fun x1=>(some ((x1.1,()),()))) else (some ((false,()),())))
theorem zsj (a0) {r} (h:zsz M a0=some r):zoC M a0=some r:=fxC (fun O=>(by kernel_rfl:zoC (Φ E1 O) a0=zsz O a0)) h
def zjn (a0:Yi) (a1:Yf) (a2 a3:Int):Option YM:=
  (if (decide (a3<a2))=true then ((idx a1 a3).bind fun x1=>(if (List.length a0+List.length ([x1.2.1,x1.2.2.1]:Yi))*24<=140737488355328 then (zhG O (a0++([x1.2.1,x1.2.2.1]:Yi)) a1 a2 (i64.wrap (a3+1))) else none)) else (some (.inl (a0,()))))
theorem zrF (a0 a1 a2 a3) {r} (h:zjn M a0 a1 a2 a3=some r):zhG M a0 a1 a2 a3=some r:=fxL (fun O=>(by kernel_rfl:zhG (Φ E1 O) a0 a1 a2 a3=zjn O a0 a1 a2 a3)) h
def zqW (a0:Yf):Option Ym:=
  ((zhG O [] a0 (a0.length:Int) (0:Int)).bind (Sum.elim (fun y1=>(some ((y1.1,()),()))) (fun r2=>(some r2))))
theorem zAA (a0) {r} (h:zqW M a0=some r):zbS M a0=some r:=fxC (fun O=>(by kernel_rfl:zbS (Φ E1 O) a0=zqW O a0)) h
def zoQ (O:Oracle E1) (a0:Yf) (a1:Yi):Option Yp:=
  (if a0.length<=1000000∧2*a0.length<=a1.length then some ((wtZ a0 a1,()),()) else none)
theorem zyV (a0 a1) {r} (h:zoQ M a0 a1=some r):zdm M a0 a1=some r:=fxC (fun O=>(by kernel_rfl:zdm (Φ E1 O) a0 a1=zoQ O a0 a1)) h
def zjP (a0:List (Int×Int)) (a1 a2:Yi) (a3 a4:Int):Option YM:=
  (if (decide (a4<a3))=true then ((idx a2 a4).bind fun x1=>(if List.length x1*8<=140737488355328 then (if 0<=a4∧a4<(a1.length:Int) then ((a1[a4.toNat]?).bind fun x2=>((zf8 O a0 (a1.set a4.toNat x1) a4 a2 a3 a4 x1 (x1.length:Int) (0:Int)).bind (Sum.elim (fun y3=>(zhO O y3.1 y3.2.1 y3.2.2.1 y3.2.2.2.1 (i64.wrap (y3.2.2.2.2.1+1)))) (fun r4=>(some (.inr r4)))))) else none) else none)) else (some (.inl (a1,()))))
theorem zrZ (a0 a1 a2 a3 a4) {r} (h:zjP M a0 a1 a2 a3 a4=some r):zhO M a0 a1 a2 a3 a4=some r:=fxL (fun O=>(by kernel_rfl:zhO (Φ E1 O) a0 a1 a2 a3 a4=zjP O a0 a1 a2 a3 a4)) h
def zh6 (a0:List (Int×Int)) (a1:Yi) (a2:Int) (a3:Yi) (a4 a5:Int) (a6:Yb) (a7 a8:Int):Option (((List (Int×Int))×Yi×Yi×Int×Int×Unit)⊕Ym):=
  (if (decide (a8<a7))=true then ((((idx a6 a8).bind fun x2=>(if (decide (x2>=0))=true then (some (.inl (a0,a1,a2,a3,a4,a5,a6,a7,a8,()))) else (((if (!(mhas a0 x2))=true then (some (.inl ((mput a0 x2 (i64.wrap ((-1:Int)-(a0.length:Int)))),a1,a2,a8,x2,a3,a4,a5,a6,a7,a8,()))) else (some (.inl (a0,a1,a2,a8,x2,a3,a4,a5,a6,a7,a8,())))):Option (((List (Int×Int))×Yi×Int×Int×Int×Yi×Int×Int×Yb×Int×Int×Unit)⊕(((List (Int×Int))×Yi×Int×Yi×Int×Int×Yb×Int×Int×Unit)⊕(((List (Int×Int))×Yi×Yi×Int×Int×Unit)⊕(Ym))))).bind (Sum.elim (fun q3=>(if 0<=q3.2.2.1∧q3.2.2.1<(q3.2.1.length:Int) then ((q3.2.1[q3.2.2.1.toNat]?).bind fun x4=>(if 0<=q3.2.2.2.1∧q3.2.2.2.1<(x4.length:Int) then ((x4[q3.2.2.2.1.toNat]?).bind fun x5=>(some (.inl (q3.1,(q3.2.1.set q3.2.2.1.toNat (x4.set q3.2.2.2.1.toNat (mget q3.1 q3.2.2.2.2.1 (0:Int)))),q3.2.2.1,q3.2.2.2.2.2.1,q3.2.2.2.2.2.2.1,q3.2.2.2.2.2.2.2.1,q3.2.2.2.2.2.2.2.2.1,q3.2.2.2.2.2.2.2.2.2.1,q3.2.2.2.2.2.2.2.2.2.2.1,())))) else none)) else none)) (fun r=>some r))))):Option (((List (Int×Int))×Yi×Int×Yi×Int×Int×Yb×Int×Int×Unit)⊕(((List (Int×Int))×Yi×Yi×Int×Int×Unit)⊕(Ym)))).bind (Sum.elim (fun q1=>(zf8 O q1.1 q1.2.1 q1.2.2.1 q1.2.2.2.1 q1.2.2.2.2.1 q1.2.2.2.2.2.1 q1.2.2.2.2.2.2.1 q1.2.2.2.2.2.2.2.1 (i64.wrap (q1.2.2.2.2.2.2.2.2.1+1)))) (fun r=>some r))) else (some (.inl (a0,a1,a3,a4,a5,()))))
theorem zqq (a0 a1 a2 a3 a4 a5 a6 a7 a8) {r} (h:zh6 M a0 a1 a2 a3 a4 a5 a6 a7 a8=some r):zf8 M a0 a1 a2 a3 a4 a5 a6 a7 a8=some r:=fxL (fun O=>(by kernel_rfl:zf8 (Φ E1 O) a0 a1 a2 a3 a4 a5 a6 a7 a8=zh6 O a0 a1 a2 a3 a4 a5 a6 a7 a8)) h
def zst (a0:Yi):Option Ym:=
  (if 0<=(a0.length:Int)∧((24:Nat):Int)*(a0.length:Int)<=140737488355328∧(a0.length:Int)=(a0.length:Int) then ((zhO O ([]:List (Int×Int)) (List.replicate (Int.toNat (a0.length:Int)) ([]:Yb)) a0 (a0.length:Int) (0:Int)).bind (Sum.elim (fun y1=>(some ((y1.1,()),()))) (fun r2=>(some r2)))) else none)
theorem zBD (a0) {r} (h:zst M a0=some r):zoB M a0=some r:=fxC (fun O=>(by kernel_rfl:zoB (Φ E1 O) a0=zst O a0)) h
def zmf (a0:Yf):Option Yp:=
  ((zbS O a0).bind fun r1=>((zoB O r1.1.1).bind fun r2=>((zdm O a0 r2.1.1).bind fun r3=>(some ((r3.1.1,()),())))))
theorem zwA (a0) {r} (h:zmf M a0=some r):ziX M a0=some r:=fxC (fun O=>(by kernel_rfl:ziX (Φ E1 O) a0=zmf O a0)) h
def zrd (O:Oracle E1) (a0:Ya):Option ((Ya×Unit)×(Unit)):=
  (if List.length a0.2.1*8<=140737488355328 then (if List.length a0.2.2.1*8<=140737488355328 then (some (((a0.1,a0.2.1,a0.2.2.1,()),()),())) else none) else none)
theorem zz7 (a0) {r} (h:zrd M a0=some r):zkT M a0=some r:=fxC (fun O=>(by kernel_rfl:zkT (Φ E1 O) a0=zrd O a0)) h
def zeq (a0 a1:Yb) (a2 a3:Int):Option Yz:=
  (if (decide (a3<a2))=true then ((idx a0 a3).bind fun x1=>((idx a1 a3).bind fun x2=>(if (x1 !=x2)=true then (some (.inr ((false,()),()))) else (zcY O a0 a1 a2 (i64.wrap (a3+1)))))) else (some (.inl ())))
theorem zlP (a0 a1 a2 a3) {r} (h:zeq M a0 a1 a2 a3=some r):zcY M a0 a1 a2 a3=some r:=fxL (fun O=>(by kernel_rfl:zcY (Φ E1 O) a0 a1 a2 a3=zeq O a0 a1 a2 a3)) h
def zj2 (a0 a1:Yb):Option Yd:=
  (if ((a0.length:Int) !=(a1.length:Int))=true then (some ((false,()),())) else ((zcY O a0 a1 (a0.length:Int) (0:Int)).bind (Sum.elim (fun y1=>(some ((true,()),()))) (fun r2=>(some r2)))))
theorem zuM (a0 a1) {r} (h:zj2 M a0 a1=some r):zD M a0 a1=some r:=fxC (fun O=>(by kernel_rfl:zD (Φ E1 O) a0 a1=zj2 O a0 a1)) h
def zoU (a0 a1:Ya):Option Yd:=
  ((zD O a0.2.1 a1.2.1).bind fun r1=>(if r1.1.1=true then ((zD O a0.2.2.1 a1.2.2.1).bind fun r2=>(if r2.1.1=true then (some ((true,()),())) else ((zD O a0.2.1 a1.2.2.1).bind fun r3=>(if r3.1.1=true then ((zD O a0.2.2.1 a1.2.1).bind fun r4=>(some ((r4.1.1,()),()))) else (some ((false,()),())))))) else ((zD O a0.2.1 a1.2.2.1).bind fun r5=>(if r5.1.1=true then ((zD O a0.2.2.1 a1.2.1).bind fun r6=>(some ((r6.1.1,()),()))) else (some ((false,()),()))))))
theorem zyM (a0 a1) {r} (h:zoU M a0 a1=some r):zlH M a0 a1=some r:=fxC (fun O=>(by kernel_rfl:zlH (Φ E1 O) a0 a1=zoU O a0 a1)) h
def zsp (a0 a1:Ya):Option Yd:=
  (if (a1.1==a0.1)=true then ((zlH O (a1.1,a1.2.1,a1.2.2.1,()) (a0.1,a0.2.1,a0.2.2.1,())).bind fun r1=>(some ((r1.1.1,()),()))) else (some ((false,()),())))
theorem zBO (a0 a1) {r} (h:zsp M a0 a1=some r):zow M a0 a1=some r:=fxC (fun O=>(by kernel_rfl:zow (Φ E1 O) a0 a1=zsp O a0 a1)) h
def zP (a0:Yf) (a1:Ya×Unit) (a2 a3:Int):Option YB:=
  (if (decide (a3<a2))=true then ((idx a0 a3).bind fun x1=>((zow O (x1.1,x1.2.1,x1.2.2.1,()) a1.1).bind fun r2=>(if r2.1.1=true then (some (.inr ((a3,()),()))) else (zT O a0 a1 a2 (i64.wrap (a3+1)))))) else (some (.inl ())))
theorem zbf (a0 a1 a2 a3) {r} (h:zP M a0 a1 a2 a3=some r):zT M a0 a1 a2 a3=some r:=fxL (fun O=>(by kernel_rfl:zT (Φ E1 O) a0 a1 a2 a3=zP O a0 a1 a2 a3)) h
def zaK (a0:Yf) (a1:Ya×Unit):Option Yh:=
  ((zT O a0 a1 (a0.length:Int) (0:Int)).bind (Sum.elim (fun y1=>(some (((-1:Int),()),()))) (fun r2=>(some r2))))
theorem zc9 (a0 a1) {r} (h:zaK M a0 a1=some r):zby M a0 a1=some r:=fxC (fun O=>(by kernel_rfl:zby (Φ E1 O) a0 a1=zaK O a0 a1)) h
def zbj (a0:Yf) (a1:Ya×Unit):Option Yd:=
  ((zby O a0 a1).bind fun r1=>(some (((decide (r1.1.1>=0)),()),())))
theorem zhs (a0 a1) {r} (h:zbj M a0 a1=some r):zS M a0 a1=some r:=fxC (fun O=>(by kernel_rfl:zS (Φ E1 O) a0 a1=zbj O a0 a1)) h
end
end Go.Proofs.YtchkojfhcdcnmaaGreatCk.Ev
