/- A text of its own: Eq3; no condition but those that each theorem names. -/
import Derived.Test.YtkgpnekonnopgaaGreatCsNm
import Derived.KernelRfl
namespace Go.Proofs.YtkgpnekonnopgaaGreatCs.Ev
open Go Go.IntKind
set_option maxRecDepth 100000
set_option autoImplicit false
set_option linter.unusedVariables false
noncomputable def zi7 (O : Oracle E1) (a0 : Int) : Option Yc :=
  (if (decide (a0 < 0)) = true then (some ((true, ()), ())) else (some (((decide (a0 > 3)), ()), ())))
theorem zqV (a0) {r} (h : zi7 M a0 = some r) : zgR M a0 = some r := fixC (E := E1) ((fun O => (by kernel_rfl : zgR (Φ E1 O) a0 = zi7 O a0)) M) h
noncomputable def zV (O : Oracle E1) (a0 : Yb) (a1 : Unit) (a2 : Int) (a3 : Int) : Option Yw :=
  (if (decide (a3 < a2)) = true then ((idx a0 a3).bind fun x1 => ((zgR O x1).bind fun r2 => (if r2.1.1 = true then (some (.inr ((a3, ()), ()))) else (zW O a0 a1 a2 (i64.wrap (a3 + 1)))))) else (some (.inl ())))
theorem za9 (a0) (a1) (a2) (a3) {r} (h : zV M a0 a1 a2 a3 = some r) : zW M a0 a1 a2 a3 = some r := fixL (E := E1) ((fun O => (by kernel_rfl : zW (Φ E1 O) a0 a1 a2 a3 = zV O a0 a1 a2 a3)) M) h
noncomputable def zaH (O : Oracle E1) (a0 : Yb) (a1 : Unit) : Option Ye :=
  ((zW O a0 a1 (a0.length : Int) (0 : Int)).bind (Sum.elim (fun y1 => (some (((-1 : Int), ()), ()))) (fun r2 => (some r2))))
theorem zcI (a0) (a1) {r} (h : zaH M a0 a1 = some r) : zbo M a0 a1 = some r := fixC (E := E1) ((fun O => (by kernel_rfl : zbo (Φ E1 O) a0 a1 = zaH O a0 a1)) M) h
noncomputable def zbc (O : Oracle E1) (a0 : Yb) (a1 : Unit) : Option Yc :=
  ((zbo O a0 a1).bind fun r1 => (some (((decide (r1.1.1 ≥ 0)), ()), ())))
theorem zf6 (a0) (a1) {r} (h : zbc M a0 a1 = some r) : zar M a0 a1 = some r := fixC (E := E1) ((fun O => (by kernel_rfl : zar (Φ E1 O) a0 a1 = zbc O a0 a1)) M) h
noncomputable def zks (O : Oracle E1) (a0 : Yg) : Option Yc :=
  (if (decide ((a0.1.length : Int) < (1 : Int))) = true then (some ((false, ()), ())) else (if (decide ((a0.1.length : Int) > (10 : Int))) = true then (some ((false, ()), ())) else ((idx a0.1 (0 : Int)).bind fun x1 => (if (x1 != 0) = true then (some ((false, ()), ())) else ((zar O a0.1 ()).bind fun r2 => (some (((!r2.1.1), ()), ())))))))
theorem zsa (a0) {r} (h : zks M a0 = some r) : zii M a0 = some r := fixC (E := E1) ((fun O => (by kernel_rfl : zii (Φ E1 O) a0 = zks O a0)) M) h
noncomputable def zjT (O : Oracle E1) (a0 : Yg) (a1 : Int) : Option Ye :=
  (if (decide (a1 < 0)) = true then (some (((0 : Int), ()), ())) else ((idx a0.1 a1).bind fun x1 => (some ((x1, ()), ()))))
theorem zrA (a0) (a1) {r} (h : zjT M a0 a1 = some r) : zd4 M a0 a1 = some r := fixC (E := E1) ((fun O => (by kernel_rfl : zd4 (Φ E1 O) a0 a1 = zjT O a0 a1)) M) h
noncomputable def zdH (O : Oracle E1) (a0 : Yg) (a1 : Int) (a2 : Yb) (a3 : Int) (a4 : Int) : Option ((Int × Unit) ⊕ Yc) :=
  (if (decide (a4 < a3)) = true then ((idx a2 a4).bind fun x1 => (if (a1 == 0) = true then (some (.inr ((false, ()), ()))) else (if (decide (x1 < (-12 : Int))) = true then (some (.inr ((false, ()), ()))) else (if (decide (x1 ≥ (a0.1.length : Int))) = true then (some (.inr ((false, ()), ()))) else ((zd4 O (a0.1, ()) x1).bind fun r2 => (zbk O (a0.1, ()) (i64.wrap (a1 + (i64.wrap (r2.1.1 - 1)))) a2 a3 (i64.wrap (a4 + 1)))))))) else (some (.inl (a1, ()))))
theorem ziZ (a0) (a1) (a2) (a3) (a4) {r} (h : zdH M a0 a1 a2 a3 a4 = some r) : zbk M a0 a1 a2 a3 a4 = some r := fixL (E := E1) ((fun O => (by kernel_rfl : zbk (Φ E1 O) a0 a1 a2 a3 a4 = zdH O a0 a1 a2 a3 a4)) M) h
noncomputable def ziC (O : Oracle E1) (a0 : Yg) (a1 : Yb) : Option Yc :=
  (if (decide ((a1.length : Int) > (40 : Int))) = true then (some ((false, ()), ())) else ((zbk O (a0.1, ()) (1 : Int) a1 (a1.length : Int) (0 : Int)).bind (Sum.elim (fun y1 => (some (((y1.1 == 0), ()), ()))) (fun r2 => (some r2)))))
theorem zp8 (a0) (a1) {r} (h : ziC M a0 a1 = some r) : zcW M a0 a1 = some r := fixC (E := E1) ((fun O => (by kernel_rfl : zcW (Φ E1 O) a0 a1 = ziC O a0 a1)) M) h
noncomputable def zi2 (O : Oracle E1) (a0 : Yg) (a1 : Ya) : Option Yc :=
  ((zcW O (a0.1, ()) a1.2.1).bind fun r1 => (if r1.1.1 = true then ((zcW O (a0.1, ()) a1.2.2.1).bind fun r2 => (some ((r2.1.1, ()), ()))) else (some ((false, ()), ()))))
theorem zq1 (a0) (a1) {r} (h : zi2 M a0 a1 = some r) : zg0 M a0 a1 = some r := fixC (E := E1) ((fun O => (by kernel_rfl : zg0 (Φ E1 O) a0 a1 = zi2 O a0 a1)) M) h
noncomputable def zgI (O : Oracle E1) (a0 : Ya) (a1 : Yg) : Option Yc :=
  ((zg0 O (a1.1, ()) (a0.1, a0.2.1, a0.2.2.1, ())).bind fun r1 => (some (((!r1.1.1), ()), ())))
theorem zn2 (a0) (a1) {r} (h : zgI M a0 a1 = some r) : zej M a0 a1 = some r := fixC (E := E1) ((fun O => (by kernel_rfl : zej (Φ E1 O) a0 a1 = zgI O a0 a1)) M) h
noncomputable def zp (O : Oracle E1) (a0 : Yf) (a1 : Yg × Unit) (a2 : Int) (a3 : Int) : Option Yw :=
  (if (decide (a3 < a2)) = true then ((idx a0 a3).bind fun x1 => ((zej O (x1.1, x1.2.1, x1.2.2.1, ()) a1.1).bind fun r2 => (if r2.1.1 = true then (some (.inr ((a3, ()), ()))) else (zq O a0 a1 a2 (i64.wrap (a3 + 1)))))) else (some (.inl ())))
theorem zae (a0) (a1) (a2) (a3) {r} (h : zp M a0 a1 a2 a3 = some r) : zq M a0 a1 a2 a3 = some r := fixL (E := E1) ((fun O => (by kernel_rfl : zq (Φ E1 O) a0 a1 a2 a3 = zp O a0 a1 a2 a3)) M) h
noncomputable def zQ (O : Oracle E1) (a0 : Yf) (a1 : Yg × Unit) : Option Ye :=
  ((zq O a0 a1 (a0.length : Int) (0 : Int)).bind (Sum.elim (fun y1 => (some (((-1 : Int), ()), ()))) (fun r2 => (some r2))))
theorem zbm (a0) (a1) {r} (h : zQ M a0 a1 = some r) : zaq M a0 a1 = some r := fixC (E := E1) ((fun O => (by kernel_rfl : zaq (Φ E1 O) a0 a1 = zQ O a0 a1)) M) h
noncomputable def zaj (O : Oracle E1) (a0 : Yf) (a1 : Yg × Unit) : Option Yc :=
  ((zaq O a0 a1).bind fun r1 => (some (((decide (r1.1.1 ≥ 0)), ()), ())))
theorem zdb (a0) (a1) {r} (h : zaj M a0 a1 = some r) : zL M a0 a1 = some r := fixC (E := E1) ((fun O => (by kernel_rfl : zL (Φ E1 O) a0 a1 = zaj O a0 a1)) M) h
noncomputable def zhG (O : Oracle E1) (a0 : Yg) (a1 : Yf) : Option Yc :=
  (if (decide ((a1.length : Int) ≤ (8 : Int))) = true then ((zL O a1 ((a0.1, ()), ())).bind fun r1 => (some (((!r1.1.1), ()), ()))) else (some ((false, ()), ())))
theorem zoQ (a0) (a1) {r} (h : zhG M a0 a1 = some r) : zfh M a0 a1 = some r := fixC (E := E1) ((fun O => (by kernel_rfl : zfh (Φ E1 O) a0 a1 = zhG O a0 a1)) M) h
noncomputable def zdI (O : Oracle E1) (a0 : Yf) (a1 : Yg) : Option Yc :=
  ((zfh O (a1.1, ()) a0).bind fun r1 => (some (((!r1.1.1), ()), ())))
theorem zi1 (a0) (a1) {r} (h : zdI M a0 a1 = some r) : zch M a0 a1 = some r := fixC (E := E1) ((fun O => (by kernel_rfl : zch (Φ E1 O) a0 a1 = zdI O a0 a1)) M) h
noncomputable def ze (O : Oracle E1) (a0 : YE) (a1 : Yg × Unit) (a2 : Int) (a3 : Int) : Option Yw :=
  (if (decide (a3 < a2)) = true then ((idx a0 a3).bind fun x1 => ((zch O x1 a1.1).bind fun r2 => (if r2.1.1 = true then (some (.inr ((a3, ()), ()))) else (zi O a0 a1 a2 (i64.wrap (a3 + 1)))))) else (some (.inl ())))
theorem zh (a0) (a1) (a2) (a3) {r} (h : ze M a0 a1 a2 a3 = some r) : zi M a0 a1 a2 a3 = some r := fixL (E := E1) ((fun O => (by kernel_rfl : zi (Φ E1 O) a0 a1 a2 a3 = ze O a0 a1 a2 a3)) M) h
noncomputable def zj (O : Oracle E1) (a0 : YE) (a1 : Yg × Unit) : Option Ye :=
  ((zi O a0 a1 (a0.length : Int) (0 : Int)).bind (Sum.elim (fun y1 => (some (((-1 : Int), ()), ()))) (fun r2 => (some r2))))
theorem zJ (a0) (a1) {r} (h : zj M a0 a1 = some r) : zaf M a0 a1 = some r := fixC (E := E1) ((fun O => (by kernel_rfl : zaf (Φ E1 O) a0 a1 = zj O a0 a1)) M) h
noncomputable def zA (O : Oracle E1) (a0 : YE) (a1 : Yg × Unit) : Option Yc :=
  ((zaf O a0 a1).bind fun r1 => (some (((decide (r1.1.1 ≥ 0)), ()), ())))
theorem za2 (a0) (a1) {r} (h : zA M a0 a1 = some r) : zm M a0 a1 = some r := fixC (E := E1) ((fun O => (by kernel_rfl : zm (Φ E1 O) a0 a1 = zA O a0 a1)) M) h
noncomputable def zeC (O : Oracle E1) (a0 : Yg) (a1 : YE) : Option Yc :=
  (if (decide ((a1.length : Int) ≤ (12 : Int))) = true then ((zm O a1 ((a0.1, ()), ())).bind fun r1 => (some (((!r1.1.1), ()), ()))) else (some ((false, ()), ())))
theorem zjX (a0) (a1) {r} (h : zeC M a0 a1 = some r) : zc6 M a0 a1 = some r := fixC (E := E1) ((fun O => (by kernel_rfl : zc6 (Φ E1 O) a0 a1 = zeC O a0 a1)) M) h
noncomputable def zkQ (O : Oracle E1) (a0 : Int) (a1 : YJ) : Option Yc :=
  (if (decide (a0 < 0)) = true then (some ((true, ()), ())) else (some (((decide (a0 ≥ (a1.length : Int))), ()), ())))
theorem ztp (a0) (a1) {r} (h : zkQ M a0 a1 = some r) : ziV M a0 a1 = some r := fixC (E := E1) ((fun O => (by kernel_rfl : ziV (Φ E1 O) a0 a1 = zkQ O a0 a1)) M) h
noncomputable def z7 (O : Oracle E1) (a0 : Yb) (a1 : YJ × Unit) (a2 : Int) (a3 : Int) : Option Yw :=
  (if (decide (a3 < a2)) = true then ((idx a0 a3).bind fun x1 => ((ziV O x1 a1.1).bind fun r2 => (if r2.1.1 = true then (some (.inr ((a3, ()), ()))) else (z9 O a0 a1 a2 (i64.wrap (a3 + 1)))))) else (some (.inl ())))
theorem zbj (a0) (a1) (a2) (a3) {r} (h : z7 M a0 a1 a2 a3 = some r) : z9 M a0 a1 a2 a3 = some r := fixL (E := E1) ((fun O => (by kernel_rfl : z9 (Φ E1 O) a0 a1 a2 a3 = z7 O a0 a1 a2 a3)) M) h
noncomputable def zaV (O : Oracle E1) (a0 : Yb) (a1 : YJ × Unit) : Option Ye :=
  ((z9 O a0 a1 (a0.length : Int) (0 : Int)).bind (Sum.elim (fun y1 => (some (((-1 : Int), ()), ()))) (fun r2 => (some r2))))
theorem zdm (a0) (a1) {r} (h : zaV M a0 a1 = some r) : zbC M a0 a1 = some r := fixC (E := E1) ((fun O => (by kernel_rfl : zbC (Φ E1 O) a0 a1 = zaV O a0 a1)) M) h
noncomputable def zbn (O : Oracle E1) (a0 : Yb) (a1 : YJ × Unit) : Option Yc :=
  ((zbC O a0 a1).bind fun r1 => (some (((decide (r1.1.1 ≥ 0)), ()), ())))
theorem zgN (a0) (a1) {r} (h : zbn M a0 a1 = some r) : zaG M a0 a1 = some r := fixC (E := E1) ((fun O => (by kernel_rfl : zaG (Φ E1 O) a0 a1 = zbn O a0 a1)) M) h
noncomputable def zmR (O : Oracle E1) (a0 : YJ) (a1 : Yb) : Option Yc :=
  ((zaG O a1 (a0, ())).bind fun r1 => (some (((!r1.1.1), ()), ())))
theorem zu3 (a0) (a1) {r} (h : zmR M a0 a1 = some r) : zj5 M a0 a1 = some r := fixC (E := E1) ((fun O => (by kernel_rfl : zj5 (Φ E1 O) a0 a1 = zmR O a0 a1)) M) h
noncomputable def ziL (O : Oracle E1) (a0 : Int) (a1 : YJ) (a2 : Yb) : Option Yj :=
  ((idx a2 a0).bind fun x1 => ((idx a1 x1).bind fun x2 => (some ((x2.2.2.2.1, ()), ()))))
theorem zpQ (a0) (a1) (a2) {r} (h : ziL M a0 a1 a2 = some r) : zZ M a0 a1 a2 = some r := fixC (E := E1) ((fun O => (by kernel_rfl : zZ (Φ E1 O) a0 a1 a2 = ziL O a0 a1 a2)) M) h
noncomputable def ziI (O : Oracle E1) (a0 : Int) (a1 : Int) (a2 : Yb) (a3 : Yb) : Option Yc :=
  (if ((a2.length : Int) == a0) = true then (some ((((a3.length : Int) == a1), ()), ())) else (some ((false, ()), ())))
theorem zqx (a0) (a1) (a2) (a3) {r} (h : ziI M a0 a1 a2 a3 = some r) : zb6 M a0 a1 a2 a3 = some r := fixC (E := E1) ((fun O => (by kernel_rfl : zb6 (Φ E1 O) a0 a1 a2 a3 = ziI O a0 a1 a2 a3)) M) h
noncomputable def zgF (O : Oracle E1) (a0 : Ym) (a1 : Yf) (a2 : Int) (a3 : Int) : Option Yy :=
  (if (decide (a3 < a2)) = true then ((idx a1 a3).bind fun x1 => (if (List.length a0 + List.length ([x1.2.1, x1.2.2.1] : Ym)) * 24 ≤ 140737488355328 then (zfg O (a0 ++ ([x1.2.1, x1.2.2.1] : Ym)) a1 a2 (i64.wrap (a3 + 1))) else none)) else (some (.inl (a0, ()))))
theorem zlv (a0) (a1) (a2) (a3) {r} (h : zgF M a0 a1 a2 a3 = some r) : zfg M a0 a1 a2 a3 = some r := fixL (E := E1) ((fun O => (by kernel_rfl : zfg (Φ E1 O) a0 a1 a2 a3 = zgF O a0 a1 a2 a3)) M) h
noncomputable def zlf (O : Oracle E1) (a0 : Yf) : Option Yh :=
  ((zfg O [] a0 (a0.length : Int) (0 : Int)).bind (Sum.elim (fun y1 => (some ((y1.1, ()), ()))) (fun r2 => (some r2))))
theorem ztg (a0) {r} (h : zlf M a0 = some r) : zce M a0 = some r := fixC (E := E1) ((fun O => (by kernel_rfl : zce (Φ E1 O) a0 = zlf O a0)) M) h
noncomputable def zjI (O : Oracle E1) (a0 : Yf) (a1 : Ym) : Option Yj :=
  (if a0.length ≤ 1000000 ∧ 2 * a0.length ≤ a1.length then some ((wtZ a0 a1, ()), ()) else none)
theorem zrz (a0) (a1) {r} (h : zjI M a0 a1 = some r) : zb7 M a0 a1 = some r := fixC (E := E1) ((fun O => (by kernel_rfl : zb7 (Φ E1 O) a0 a1 = zjI O a0 a1)) M) h
noncomputable def zgj (O : Oracle E1) (a0 : List (Int × Int)) (a1 : Ym) (a2 : Ym) (a3 : Int) (a4 : Int) : Option Yy :=
  (if (decide (a4 < a3)) = true then ((idx a2 a4).bind fun x1 => (if List.length x1 * 8 ≤ 140737488355328 then (if 0 ≤ a4 ∧ a4 < (a1.length : Int) then ((a1[a4.toNat]?).bind fun x2 => ((zdO O a0 (a1.set a4.toNat x1) a4 a2 a3 a4 x1 (x1.length : Int) (0 : Int)).bind (Sum.elim (fun y3 => (zfc O y3.1 y3.2.1 y3.2.2.1 y3.2.2.2.1 (i64.wrap (y3.2.2.2.2.1 + 1)))) (fun r4 => (some (.inr r4)))))) else none) else none)) else (some (.inl (a1, ()))))
theorem zlD (a0) (a1) (a2) (a3) (a4) {r} (h : zgj M a0 a1 a2 a3 a4 = some r) : zfc M a0 a1 a2 a3 a4 = some r := fixL (E := E1) ((fun O => (by kernel_rfl : zfc (Φ E1 O) a0 a1 a2 a3 a4 = zgj O a0 a1 a2 a3 a4)) M) h
noncomputable def zfr (O : Oracle E1) (a0 : List (Int × Int)) (a1 : Ym) (a2 : Int) (a3 : Ym) (a4 : Int) (a5 : Int) (a6 : Yb) (a7 : Int) (a8 : Int) : Option (YC ⊕ Yh) :=
  (if (decide (a8 < a7)) = true then ((((idx a6 a8).bind fun x2 => (if (decide (x2 ≥ 0)) = true then (some (.inl (a0, a1, a2, a3, a4, a5, a6, a7, a8, ()))) else (((if (!(mhas a0 x2)) = true then (some (.inl ((mput a0 x2 (i64.wrap ((-1 : Int) - (a0.length : Int)))), a1, a2, a8, x2, a3, a4, a5, a6, a7, a8, ()))) else (some (.inl (a0, a1, a2, a8, x2, a3, a4, a5, a6, a7, a8, ())))) : Option (((List (Int × Int)) × Ym × Int × Int × Int × Ym × Int × Int × Yb × Int × Int × Unit) ⊕ YI)).bind (Sum.elim (fun q3 => (if 0 ≤ q3.2.2.1 ∧ q3.2.2.1 < (q3.2.1.length : Int) then ((q3.2.1[q3.2.2.1.toNat]?).bind fun x4 => (if 0 ≤ q3.2.2.2.1 ∧ q3.2.2.2.1 < (x4.length : Int) then ((x4[q3.2.2.2.1.toNat]?).bind fun x5 => (some (.inl (q3.1, (q3.2.1.set q3.2.2.1.toNat (x4.set q3.2.2.2.1.toNat (mget q3.1 q3.2.2.2.2.1 (0 : Int)))), q3.2.2.1, q3.2.2.2.2.2.1, q3.2.2.2.2.2.2.1, q3.2.2.2.2.2.2.2.1, q3.2.2.2.2.2.2.2.2.1, q3.2.2.2.2.2.2.2.2.2.1, q3.2.2.2.2.2.2.2.2.2.2.1, ())))) else none)) else none)) (fun r => some r))))) : Option YI).bind (Sum.elim (fun q1 => (zdO O q1.1 q1.2.1 q1.2.2.1 q1.2.2.2.1 q1.2.2.2.2.1 q1.2.2.2.2.2.1 q1.2.2.2.2.2.2.1 q1.2.2.2.2.2.2.2.1 (i64.wrap (q1.2.2.2.2.2.2.2.2.1 + 1)))) (fun r => some r))) else (some (.inl (a0, a1, a3, a4, a5, ()))))
theorem zj8 (a0) (a1) (a2) (a3) (a4) (a5) (a6) (a7) (a8) {r} (h : zfr M a0 a1 a2 a3 a4 a5 a6 a7 a8 = some r) : zdO M a0 a1 a2 a3 a4 a5 a6 a7 a8 = some r := fixL (E := E1) ((fun O => (by kernel_rfl : zdO (Φ E1 O) a0 a1 a2 a3 a4 a5 a6 a7 a8 = zfr O a0 a1 a2 a3 a4 a5 a6 a7 a8)) M) h
noncomputable def zmf (O : Oracle E1) (a0 : Ym) : Option Yh :=
  (if 0 ≤ (a0.length : Int) ∧ ((24 : Nat) : Int) * (a0.length : Int) ≤ 140737488355328 ∧ (a0.length : Int) = (a0.length : Int) then ((zfc O ([] : List (Int × Int)) (List.replicate (Int.toNat (a0.length : Int)) ([] : Yb)) a0 (a0.length : Int) (0 : Int)).bind (Sum.elim (fun y1 => (some ((y1.1, ()), ()))) (fun r2 => (some r2)))) else none)
theorem zux (a0) {r} (h : zmf M a0 = some r) : zjF M a0 = some r := fixC (E := E1) ((fun O => (by kernel_rfl : zjF (Φ E1 O) a0 = zmf O a0)) M) h
noncomputable def zic (O : Oracle E1) (a0 : Yf) : Option Yj :=
  ((zce O a0).bind fun r1 => ((zjF O r1.1.1).bind fun r2 => ((zb7 O a0 r2.1.1).bind fun r3 => (some ((r3.1.1, ()), ())))))
theorem zpj (a0) {r} (h : zic M a0 = some r) : zf0 M a0 = some r := fixC (E := E1) ((fun O => (by kernel_rfl : zf0 (Φ E1 O) a0 = zic O a0)) M) h
noncomputable def zcF (O : Oracle E1) (a0 : Yb) (a1 : Yb) (a2 : Int) (a3 : Int) : Option Yq :=
  (if (decide (a3 < a2)) = true then ((idx a0 a3).bind fun x1 => ((idx a1 a3).bind fun x2 => (if (x1 != x2) = true then (some (.inr ((false, ()), ()))) else (zbU O a0 a1 a2 (i64.wrap (a3 + 1)))))) else (some (.inl ())))
theorem zhP (a0) (a1) (a2) (a3) {r} (h : zcF M a0 a1 a2 a3 = some r) : zbU M a0 a1 a2 a3 = some r := fixL (E := E1) ((fun O => (by kernel_rfl : zbU (Φ E1 O) a0 a1 a2 a3 = zcF O a0 a1 a2 a3)) M) h
noncomputable def zgG (O : Oracle E1) (a0 : Yb) (a1 : Yb) : Option Yc :=
  (if ((a0.length : Int) != (a1.length : Int)) = true then (some ((false, ()), ())) else ((zbU O a0 a1 (a0.length : Int) (0 : Int)).bind (Sum.elim (fun y1 => (some ((true, ()), ()))) (fun r2 => (some r2)))))
theorem znI (a0) (a1) {r} (h : zgG M a0 a1 = some r) : zu M a0 a1 = some r := fixC (E := E1) ((fun O => (by kernel_rfl : zu (Φ E1 O) a0 a1 = zgG O a0 a1)) M) h
noncomputable def zk3 (O : Oracle E1) (a0 : Ya) : Option ((Ya × Unit) × (Unit)) :=
  (if List.length a0.2.1 * 8 ≤ 140737488355328 then (if List.length a0.2.2.1 * 8 ≤ 140737488355328 then (some (((a0.1, a0.2.1, a0.2.2.1, ()), ()), ())) else none) else none)
theorem zsT (a0) {r} (h : zk3 M a0 = some r) : zhe M a0 = some r := fixC (E := E1) ((fun O => (by kernel_rfl : zhe (Φ E1 O) a0 = zk3 O a0)) M) h
noncomputable def zjJ (O : Oracle E1) (a0 : Ya) (a1 : Ya) : Option Yc :=
  ((zu O a0.2.1 a1.2.1).bind fun r1 => (if r1.1.1 = true then ((zu O a0.2.2.1 a1.2.2.1).bind fun r2 => (if r2.1.1 = true then (some ((true, ()), ())) else ((zu O a0.2.1 a1.2.2.1).bind fun r3 => (if r3.1.1 = true then ((zu O a0.2.2.1 a1.2.1).bind fun r4 => (some ((r4.1.1, ()), ()))) else (some ((false, ()), ())))))) else ((zu O a0.2.1 a1.2.2.1).bind fun r5 => (if r5.1.1 = true then ((zu O a0.2.2.1 a1.2.1).bind fun r6 => (some ((r6.1.1, ()), ()))) else (some ((false, ()), ()))))))
theorem zr7 (a0) (a1) {r} (h : zjJ M a0 a1 = some r) : zhI M a0 a1 = some r := fixC (E := E1) ((fun O => (by kernel_rfl : zhI (Φ E1 O) a0 a1 = zjJ O a0 a1)) M) h
noncomputable def zl1 (O : Oracle E1) (a0 : Ya) (a1 : Ya) : Option Yc :=
  (if (a1.1 == a0.1) = true then ((zhI O (a1.1, a1.2.1, a1.2.2.1, ()) (a0.1, a0.2.1, a0.2.2.1, ())).bind fun r1 => (some ((r1.1.1, ()), ()))) else (some ((false, ()), ())))
theorem zt8 (a0) (a1) {r} (h : zl1 M a0 a1 = some r) : zjn M a0 a1 = some r := fixC (E := E1) ((fun O => (by kernel_rfl : zjn (Φ E1 O) a0 a1 = zl1 O a0 a1)) M) h
noncomputable def zG (O : Oracle E1) (a0 : Yf) (a1 : Ya × Unit) (a2 : Int) (a3 : Int) : Option Yw :=
  (if (decide (a3 < a2)) = true then ((idx a0 a3).bind fun x1 => ((zjn O (x1.1, x1.2.1, x1.2.2.1, ()) a1.1).bind fun r2 => (if r2.1.1 = true then (some (.inr ((a3, ()), ()))) else (zI O a0 a1 a2 (i64.wrap (a3 + 1)))))) else (some (.inl ())))
theorem zaI (a0) (a1) (a2) (a3) {r} (h : zG M a0 a1 a2 a3 = some r) : zI M a0 a1 a2 a3 = some r := fixL (E := E1) ((fun O => (by kernel_rfl : zI (Φ E1 O) a0 a1 a2 a3 = zG O a0 a1 a2 a3)) M) h
noncomputable def zai (O : Oracle E1) (a0 : Yf) (a1 : Ya × Unit) : Option Ye :=
  ((zI O a0 a1 (a0.length : Int) (0 : Int)).bind (Sum.elim (fun y1 => (some (((-1 : Int), ()), ()))) (fun r2 => (some r2))))
theorem zbY (a0) (a1) {r} (h : zai M a0 a1 = some r) : za1 M a0 a1 = some r := fixC (E := E1) ((fun O => (by kernel_rfl : za1 (Φ E1 O) a0 a1 = zai O a0 a1)) M) h
noncomputable def zaN (O : Oracle E1) (a0 : Yf) (a1 : Ya × Unit) : Option Yc :=
  ((za1 O a0 a1).bind fun r1 => (some (((decide (r1.1.1 ≥ 0)), ()), ())))
theorem zeW (a0) (a1) {r} (h : zaN M a0 a1 = some r) : zH M a0 a1 = some r := fixC (E := E1) ((fun O => (by kernel_rfl : zH (Φ E1 O) a0 a1 = zaN O a0 a1)) M) h
end Go.Proofs.YtkgpnekonnopgaaGreatCs.Ev
