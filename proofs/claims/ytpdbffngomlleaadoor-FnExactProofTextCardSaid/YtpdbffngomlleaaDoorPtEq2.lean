/- A text of its own: Eq2; no condition but those that each theorem names. -/
import Derived.Test.YtpdbffngomlleaaDoorPtNm
import Derived.KernelRfl
namespace Go.Proofs.YtpdbffngomlleaaDoorPt.Ev
open Go Go.IntKind
set_option maxRecDepth 100000
set_option autoImplicit false
set_option linter.unusedVariables false
noncomputable def zaS (O : Oracle E1) (a0 : Yg) (a1 : Yh) (a2 : List Yb) (a3 : Int) (a4 : Int) : Option (Yl ⊕ Yi) :=
  (if (decide (a4 < a3)) = true then ((idx a2 a4).bind fun x1 => ((zbc O a4).bind fun r2 => (if List.length r2.1.1 + List.length ([32] : Yh) ≤ 4611686018427387904 then ((za7 O (a0.1, ()) (x1.1, x1.2.1, x1.2.2.1, x1.2.2.2.1, ())).bind fun r3 => (if List.length (r2.1.1 ++ ([32] : Yh)) + List.length r3.1.1 ≤ 4611686018427387904 then (if List.length ((r2.1.1 ++ ([32] : Yh)) ++ r3.1.1) + List.length ([10] : Yh) ≤ 4611686018427387904 then ((z7 O a1 (((r2.1.1 ++ ([32] : Yh)) ++ r3.1.1) ++ ([10] : Yh))).bind fun r4 => (zaj O a0 r4.2.1 a2 a3 (i64.wrap (a4 + 1)))) else none) else none)) else none))) else (some (.inl (a1, ()))))
theorem zcT (a0) (a1) (a2) (a3) (a4) {r} (h : zaS M a0 a1 a2 a3 a4 = some r) : zaj M a0 a1 a2 a3 a4 = some r := fixL (E := E1) ((fun O => (by kernel_rfl : zaj (Φ E1 O) a0 a1 a2 a3 a4 = zaS O a0 a1 a2 a3 a4)) M) h
noncomputable def zaB (O : Oracle E1) (a0 : Yg) (a1 : List Yb) : Option Yi :=
  ((zcc O (a0.1, ())).bind fun r1 => (if (!r1.1.1) = true then (some ((([] : Yh), false, ()), ())) else (if (decide ((a1.length : Int) > (200 : Int))) = true then (some ((([] : Yh), false, ()), ())) else ((zi O a1 ((a0.1, ()), ())).bind fun r2 => (if r2.1.1 = true then (some ((([] : Yh), false, ()), ())) else ((zaj O (a0.1, ()) ([] : Yh) a1 (a1.length : Int) (0 : Int)).bind (Sum.elim (fun y3 => ((zam O y3.1).bind fun r5 => (some ((r5.1.1, true, ()), ())))) (fun r4 => (some r4)))))))))
theorem zbW (a0) (a1) {r} (h : zaB M a0 a1 = some r) : zbU M a0 a1 = some r := fixC (E := E1) ((fun O => (by kernel_rfl : zbU (Φ E1 O) a0 a1 = zaB O a0 a1)) M) h
noncomputable def zbI (O : Oracle E1) (a0 : Ye) (a1 : Ye) (a2 : Int) : Option ((Unit) ⊕ Yc) :=
  (if (decide (a2 < (a0.length : Int))) = true then ((idx a0 a2).bind fun x1 => ((idx a1 a2).bind fun x2 => (if (x1 != x2) = true then (some (.inr ((false, ()), ()))) else (zbe O a0 a1 (i64.wrap (a2 + 1)))))) else (some (.inl ())))
theorem zdZ (a0) (a1) (a2) {r} (h : zbI M a0 a1 a2 = some r) : zbe M a0 a1 a2 = some r := fixL (E := E1) ((fun O => (by kernel_rfl : zbe (Φ E1 O) a0 a1 a2 = zbI O a0 a1 a2)) M) h
noncomputable def zdU (O : Oracle E1) (a0 : Ye) (a1 : Ye) : Option Yc :=
  (if ((a0.length : Int) != (a1.length : Int)) = true then (some ((false, ()), ())) else ((zbe O a0 a1 (0 : Int)).bind (Sum.elim (fun y1 => (some ((true, ()), ()))) (fun r2 => (some r2)))))
theorem zhb (a0) (a1) {r} (h : zdU M a0 a1 = some r) : zas M a0 a1 = some r := fixC (E := E1) ((fun O => (by kernel_rfl : zas (Φ E1 O) a0 a1 = zdU O a0 a1)) M) h
noncomputable def zdR (O : Oracle E1) (a0 : Yg) (a1 : Yg) : Option Yc :=
  ((zas O a0.1 a1.1).bind fun r1 => (if (!r1.1.1) = true then (some ((false, ()), ())) else (some ((true, ()), ()))))
theorem zho (a0) (a1) {r} (h : zdR M a0 a1 = some r) : zcI M a0 a1 = some r := fixC (E := E1) ((fun O => (by kernel_rfl : zcI (Φ E1 O) a0 a1 = zdR O a0 a1)) M) h
noncomputable def zel (O : Oracle E1) (a0 : Ya) (a1 : Ya) : Option Yc :=
  (if (!(a0.1 == a1.1)) = true then (some ((false, ()), ())) else ((zas O a0.2.1 a1.2.1).bind fun r1 => (if (!r1.1.1) = true then (some ((false, ()), ())) else ((zas O a0.2.2.1 a1.2.2.1).bind fun r2 => (if (!r2.1.1) = true then (some ((false, ()), ())) else (some ((true, ()), ())))))))
theorem zie (a0) (a1) {r} (h : zel M a0 a1 = some r) : zc9 M a0 a1 = some r := fixC (E := E1) ((fun O => (by kernel_rfl : zc9 (Φ E1 O) a0 a1 = zel O a0 a1)) M) h
noncomputable def zbJ (O : Oracle E1) (a0 : List Ya) (a1 : List Ya) (a2 : Int) : Option ((Unit) ⊕ Yc) :=
  (if (decide (a2 < (a0.length : Int))) = true then ((idx a0 a2).bind fun x1 => ((idx a1 a2).bind fun x2 => ((zc9 O (x1.1, x1.2.1, x1.2.2.1, ()) (x2.1, x2.2.1, x2.2.2.1, ())).bind fun r3 => (if (!r3.1.1) = true then (some (.inr ((false, ()), ()))) else (zbf O a0 a1 (i64.wrap (a2 + 1))))))) else (some (.inl ())))
theorem zd1 (a0) (a1) (a2) {r} (h : zbJ M a0 a1 a2 = some r) : zbf M a0 a1 a2 = some r := fixL (E := E1) ((fun O => (by kernel_rfl : zbf (Φ E1 O) a0 a1 a2 = zbJ O a0 a1 a2)) M) h
noncomputable def zdK (O : Oracle E1) (a0 : List Ya) (a1 : List Ya) : Option Yc :=
  (if ((a0.length : Int) != (a1.length : Int)) = true then (some ((false, ()), ())) else ((zbf O a0 a1 (0 : Int)).bind (Sum.elim (fun y1 => (some ((true, ()), ()))) (fun r2 => (some r2)))))
theorem zhs (a0) (a1) {r} (h : zdK M a0 a1 = some r) : zcE M a0 a1 = some r := fixC (E := E1) ((fun O => (by kernel_rfl : zcE (Φ E1 O) a0 a1 = zdK O a0 a1)) M) h
noncomputable def zdV (O : Oracle E1) (a0 : Yb) (a1 : Yb) : Option Yc :=
  (if (a0.1 != a1.1) = true then (some ((false, ()), ())) else ((zas O a0.2.1 a1.2.1).bind fun r1 => (if (!r1.1.1) = true then (some ((false, ()), ())) else ((zas O a0.2.2.1 a1.2.2.1).bind fun r2 => (if (!r2.1.1) = true then (some ((false, ()), ())) else ((zcE O a0.2.2.2.1 a1.2.2.2.1).bind fun r3 => (if (!r3.1.1) = true then (some ((false, ()), ())) else (some ((true, ()), ())))))))))
theorem zhu (a0) (a1) {r} (h : zdV M a0 a1 = some r) : zcL M a0 a1 = some r := fixC (E := E1) ((fun O => (by kernel_rfl : zcL (Φ E1 O) a0 a1 = zdV O a0 a1)) M) h
noncomputable def zbC (O : Oracle E1) (a0 : List Yb) (a1 : List Yb) (a2 : Int) : Option ((Unit) ⊕ Yc) :=
  (if (decide (a2 < (a0.length : Int))) = true then ((idx a0 a2).bind fun x1 => ((idx a1 a2).bind fun x2 => ((zcL O (x1.1, x1.2.1, x1.2.2.1, x1.2.2.2.1, ()) (x2.1, x2.2.1, x2.2.2.1, x2.2.2.2.1, ())).bind fun r3 => (if (!r3.1.1) = true then (some (.inr ((false, ()), ()))) else (za1 O a0 a1 (i64.wrap (a2 + 1))))))) else (some (.inl ())))
theorem zdB (a0) (a1) (a2) {r} (h : zbC M a0 a1 a2 = some r) : za1 M a0 a1 a2 = some r := fixL (E := E1) ((fun O => (by kernel_rfl : za1 (Φ E1 O) a0 a1 a2 = zbC O a0 a1 a2)) M) h
noncomputable def zdf (O : Oracle E1) (a0 : List Yb) (a1 : List Yb) : Option Yc :=
  (if ((a0.length : Int) != (a1.length : Int)) = true then (some ((false, ()), ())) else ((za1 O a0 a1 (0 : Int)).bind (Sum.elim (fun y1 => (some ((true, ()), ()))) (fun r2 => (some r2)))))
theorem zgO (a0) (a1) {r} (h : zdf M a0 a1 = some r) : zct M a0 a1 = some r := fixC (E := E1) ((fun O => (by kernel_rfl : zct (Φ E1 O) a0 a1 = zdf O a0 a1)) M) h
noncomputable def zab (O : Oracle E1) (a0 : Yg) (a1 : List Yb) : Option Yc :=
  ((zcD O (a0.1, ()) (1048576 : Int)).bind fun r1 => (if (decide (r1.1.1 < 0)) = true then (some ((true, ()), ())) else ((zcr O a1 r1.1.1).bind fun r2 => (if (decide (r2.1.1 < 0)) = true then (some ((true, ()), ())) else ((zbq O (a0.1, ())).bind fun r3 => ((zbb O a1).bind fun r4 => ((zb3 O (r3.1.1.1, ()) r4.1.1).bind fun r5 => ((zbq O (a0.1, ())).bind fun r6 => ((zbb O a1).bind fun r7 => ((zbU O (r6.1.1.1, ()) r7.1.1).bind fun r8 => (if (!(r8.1.1 == r5.1.1)) = true then (some ((false, ()), ())) else (if (!(r8.1.2.1 == r5.1.2.1)) = true then (some ((false, ()), ())) else ((zbq O (a0.1, ())).bind fun r9 => ((zcI O (r6.1.1.1, ()) (r9.1.1.1, ())).bind fun r10 => (if (!r10.1.1) = true then (some ((false, ()), ())) else ((zbb O a1).bind fun r11 => ((zct O r7.1.1 r11.1.1).bind fun r12 => (if (!r12.1.1) = true then (some ((false, ()), ())) else (some ((true, ()), ()))))))))))))))))))))
theorem zbp (a0) (a1) {r} (h : zab M a0 a1 = some r) : zav M a0 a1 = some r := fixC (E := E1) ((fun O => (by kernel_rfl : zav (Φ E1 O) a0 a1 = zab O a0 a1)) M) h
end Go.Proofs.YtpdbffngomlleaaDoorPt.Ev
