/- A text of its own: Eq0; no condition but those that each theorem names. -/
import Derived.Test.YtpdbffngomlleaaDoorPtNm
import Derived.KernelRfl
namespace Go.Proofs.YtpdbffngomlleaaDoorPt.Ev
open Go Go.IntKind
set_option maxRecDepth 100000
set_option autoImplicit false
set_option linter.unusedVariables false
noncomputable def zdL (O : Oracle E1) (a0 : Ye) (a1 : Int) : Option Yf :=
  (if (decide ((i64.wrap (a1 - (a0.length : Int))) < (0 : Int))) = true then (some (((-1 : Int), ()), ())) else (some (((i64.wrap (a1 - (a0.length : Int))), ()), ())))
theorem zhg (a0) (a1) {r} (h : zdL M a0 a1 = some r) : zaq M a0 a1 = some r := fixC (E := E1) ((fun O => (by kernel_rfl : zaq (Φ E1 O) a0 a1 = zdL O a0 a1)) M) h
noncomputable def zdQ (O : Oracle E1) (a0 : Yg) (a1 : Int) : Option Yf :=
  ((zaq O a0.1 a1).bind fun r1 => (if (decide (r1.1.1 < 0)) = true then (some (((-1 : Int), ()), ())) else (some ((r1.1.1, ()), ()))))
theorem zhw (a0) (a1) {r} (h : zdQ M a0 a1 = some r) : zcD M a0 a1 = some r := fixC (E := E1) ((fun O => (by kernel_rfl : zcD (Φ E1 O) a0 a1 = zdQ O a0 a1)) M) h
noncomputable def zch (O : Oracle E1) (a0 : Ya) (a1 : Int) : Option Yf :=
  ((zaq O a0.2.1 a1).bind fun r1 => (if (decide (r1.1.1 < 0)) = true then (some (((-1 : Int), ()), ())) else ((zaq O a0.2.2.1 r1.1.1).bind fun r2 => (if (decide (r2.1.1 < 0)) = true then (some (((-1 : Int), ()), ())) else (some ((r2.1.1, ()), ()))))))
theorem zer (a0) (a1) {r} (h : zch M a0 a1 = some r) : zc0 M a0 a1 = some r := fixC (E := E1) ((fun O => (by kernel_rfl : zc0 (Φ E1 O) a0 a1 = zch O a0 a1)) M) h
noncomputable def zaO (O : Oracle E1) (a0 : List Ya) (a1 : Int) (a2 : Int) : Option Yo :=
  (if (decide (a2 < (a0.length : Int))) = true then ((idx a0 a2).bind fun x1 => ((zc0 O (x1.1, x1.2.1, x1.2.2.1, ()) a1).bind fun r2 => (if (decide (r2.1.1 < 0)) = true then (some (.inr (((-1 : Int), ()), ()))) else (zaV O a0 r2.1.1 (i64.wrap (a2 + 1)))))) else (some (.inl (a1, ()))))
theorem zci (a0) (a1) (a2) {r} (h : zaO M a0 a1 a2 = some r) : zaV M a0 a1 a2 = some r := fixL (E := E1) ((fun O => (by kernel_rfl : zaV (Φ E1 O) a0 a1 a2 = zaO O a0 a1 a2)) M) h
noncomputable def zb5 (O : Oracle E1) (a0 : List Ya) (a1 : Int) : Option Yf :=
  (if (decide ((i64.wrap (a1 - (a0.length : Int))) < (0 : Int))) = true then (some (((-1 : Int), ()), ())) else ((zaV O a0 (i64.wrap (a1 - (a0.length : Int))) (0 : Int)).bind (Sum.elim (fun y1 => (some ((y1.1, ()), ()))) (fun r2 => (some r2)))))
theorem zdS (a0) (a1) {r} (h : zb5 M a0 a1 = some r) : zcJ M a0 a1 = some r := fixC (E := E1) ((fun O => (by kernel_rfl : zcJ (Φ E1 O) a0 a1 = zb5 O a0 a1)) M) h
noncomputable def zbr (O : Oracle E1) (a0 : Yb) (a1 : Int) : Option Yf :=
  ((zaq O a0.2.1 a1).bind fun r1 => (if (decide (r1.1.1 < 0)) = true then (some (((-1 : Int), ()), ())) else ((zaq O a0.2.2.1 r1.1.1).bind fun r2 => (if (decide (r2.1.1 < 0)) = true then (some (((-1 : Int), ()), ())) else ((zcJ O a0.2.2.2.1 r2.1.1).bind fun r3 => (if (decide (r3.1.1 < 0)) = true then (some (((-1 : Int), ()), ())) else (some ((r3.1.1, ()), ()))))))))
theorem zcP (a0) (a1) {r} (h : zbr M a0 a1 = some r) : zcN M a0 a1 = some r := fixC (E := E1) ((fun O => (by kernel_rfl : zcN (Φ E1 O) a0 a1 = zbr O a0 a1)) M) h
noncomputable def zax (O : Oracle E1) (a0 : List Yb) (a1 : Int) (a2 : Int) : Option Yo :=
  (if (decide (a2 < (a0.length : Int))) = true then ((idx a0 a2).bind fun x1 => ((zcN O (x1.1, x1.2.1, x1.2.2.1, x1.2.2.2.1, ()) a1).bind fun r2 => (if (decide (r2.1.1 < 0)) = true then (some (.inr (((-1 : Int), ()), ()))) else (zaJ O a0 r2.1.1 (i64.wrap (a2 + 1)))))) else (some (.inl (a1, ()))))
theorem zcb (a0) (a1) (a2) {r} (h : zax M a0 a1 a2 = some r) : zaJ M a0 a1 a2 = some r := fixL (E := E1) ((fun O => (by kernel_rfl : zaJ (Φ E1 O) a0 a1 a2 = zax O a0 a1 a2)) M) h
noncomputable def zbP (O : Oracle E1) (a0 : List Yb) (a1 : Int) : Option Yf :=
  (if (decide ((i64.wrap (a1 - (a0.length : Int))) < (0 : Int))) = true then (some (((-1 : Int), ()), ())) else ((zaJ O a0 (i64.wrap (a1 - (a0.length : Int))) (0 : Int)).bind (Sum.elim (fun y1 => (some ((y1.1, ()), ()))) (fun r2 => (some r2)))))
theorem zds (a0) (a1) {r} (h : zbP M a0 a1 = some r) : zcr M a0 a1 = some r := fixC (E := E1) ((fun O => (by kernel_rfl : zcr (Φ E1 O) a0 a1 = zbP O a0 a1)) M) h
noncomputable def zeD (O : Oracle E1) (a0 : Int) (a1 : Int) (a2 : Int) : Option Yc :=
  (if (decide (a0 ≥ a1)) = true then (some (((decide (a0 ≤ a2)), ()), ())) else (some ((false, ()), ())))
theorem ziA (a0) (a1) (a2) {r} (h : zeD M a0 a1 a2 = some r) : za8 M a0 a1 a2 = some r := fixC (E := E1) ((fun O => (by kernel_rfl : za8 (Φ E1 O) a0 a1 a2 = zeD O a0 a1 a2)) M) h
noncomputable def zb1 (O : Oracle E1) (a0 : Int) (a1 : Int) (a2 : Ye) (a3 : Int) (a4 : Int) : Option ((Unit) ⊕ Yc) :=
  (if (decide (a4 < a3)) = true then ((idx a2 a4).bind fun x1 => ((za8 O x1 a0 a1).bind fun r2 => (if (!r2.1.1) = true then (some (.inr ((false, ()), ()))) else (zbv O a0 a1 a2 a3 (i64.wrap (a4 + 1)))))) else (some (.inl ())))
theorem zeq (a0) (a1) (a2) (a3) (a4) {r} (h : zb1 M a0 a1 a2 a3 a4 = some r) : zbv M a0 a1 a2 a3 a4 = some r := fixL (E := E1) ((fun O => (by kernel_rfl : zbv (Φ E1 O) a0 a1 a2 a3 a4 = zb1 O a0 a1 a2 a3 a4)) M) h
noncomputable def zee (O : Oracle E1) (a0 : Ye) (a1 : Int) (a2 : Int) : Option Yc :=
  ((zbv O a1 a2 a0 (a0.length : Int) (0 : Int)).bind (Sum.elim (fun y1 => (some ((true, ()), ()))) (fun r2 => (some r2))))
theorem zhM (a0) (a1) (a2) {r} (h : zee M a0 a1 a2 = some r) : zbQ M a0 a1 a2 = some r := fixC (E := E1) ((fun O => (by kernel_rfl : zbQ (Φ E1 O) a0 a1 a2 = zee O a0 a1 a2)) M) h
noncomputable def zcW (O : Oracle E1) (a0 : Yg) : Option Yc :=
  ((za8 O (a0.1.length : Int) (1 : Int) (10 : Int)).bind fun r1 => (if r1.1.1 = true then ((zbQ O a0.1 (0 : Int) (3 : Int)).bind fun r2 => (if r2.1.1 = true then ((idx a0.1 (0 : Int)).bind fun x3 => (some (((x3 == 0), ()), ()))) else (some ((false, ()), ())))) else (some ((false, ()), ()))))
theorem zgp (a0) {r} (h : zcW M a0 = some r) : zbA M a0 = some r := fixC (E := E1) ((fun O => (by kernel_rfl : zbA (Φ E1 O) a0 = zcW O a0)) M) h
noncomputable def zb2 (O : Oracle E1) (a0 : Ye) (a1 : Int) (a2 : Yg) (a3 : Int) : Option Yo :=
  (if (decide (a3 > 0)) = true then (if (decide (a1 ≥ (a0.length : Int))) = true then (some (.inr (((-1 : Int), ()), ()))) else ((idx a0 a1).bind fun x1 => ((za8 O x1 (-12 : Int) (i64.wrap ((a2.1.length : Int) - (1 : Int)))).bind fun r2 => (if (!r2.1.1) = true then (some (.inr (((-1 : Int), ()), ()))) else ((((idx a0 a1).bind fun x4 => (if (decide (x4 ≥ 0)) = true then ((idx a0 a1).bind fun x5 => ((idx a2.1 x5).bind fun x6 => (some (.inl (a0, a1, (a2.1, ()), (i64.wrap ((i64.wrap (a3 - 1)) + x6)), ()))))) else (some (.inl (a0, a1, (a2.1, ()), (i64.wrap (a3 - 1)), ()))))) : Option ((Ye × Int × Yg × Int × Unit) ⊕ ((Int × Unit) ⊕ (Yf)))).bind (Sum.elim (fun q3 => (zbz O q3.1 (i64.wrap (q3.2.1 + 1)) (q3.2.2.1.1, ()) q3.2.2.2.1)) (fun r => some r))))))) else (some (.inl (a1, ()))))
theorem zeh (a0) (a1) (a2) (a3) {r} (h : zb2 M a0 a1 a2 a3 = some r) : zbz M a0 a1 a2 a3 = some r := fixL (E := E1) ((fun O => (by kernel_rfl : zbz (Φ E1 O) a0 a1 a2 a3 = zb2 O a0 a1 a2 a3)) M) h
noncomputable def zep (O : Oracle E1) (a0 : Yg) (a1 : Ye) (a2 : Int) : Option Yf :=
  ((zbz O a1 a2 (a0.1, ()) (1 : Int)).bind (Sum.elim (fun y1 => (some ((y1.1, ()), ()))) (fun r2 => (some r2))))
theorem zhB (a0) (a1) (a2) {r} (h : zep M a0 a1 a2 = some r) : zcp M a0 a1 a2 = some r := fixC (E := E1) ((fun O => (by kernel_rfl : zcp (Φ E1 O) a0 a1 a2 = zep O a0 a1 a2)) M) h
noncomputable def zdP (O : Oracle E1) (a0 : Yg) (a1 : Ye) : Option Yc :=
  ((za8 O (a1.length : Int) (1 : Int) (40 : Int)).bind fun r1 => (if r1.1.1 = true then ((zcp O (a0.1, ()) a1 (0 : Int)).bind fun r2 => (some (((r2.1.1 == (a1.length : Int)), ()), ()))) else (some ((false, ()), ()))))
theorem zhx (a0) (a1) {r} (h : zdP M a0 a1 = some r) : zb6 M a0 a1 = some r := fixC (E := E1) ((fun O => (by kernel_rfl : zb6 (Φ E1 O) a0 a1 = zdP O a0 a1)) M) h
noncomputable def zes (O : Oracle E1) (a0 : Yg) (a1 : Ya) : Option Yc :=
  ((zb6 O (a0.1, ()) a1.2.1).bind fun r1 => (if r1.1.1 = true then ((zb6 O (a0.1, ()) a1.2.2.1).bind fun r2 => (some ((r2.1.1, ()), ()))) else (some ((false, ()), ()))))
theorem zih (a0) (a1) {r} (h : zes M a0 a1 = some r) : zc1 M a0 a1 = some r := fixC (E := E1) ((fun O => (by kernel_rfl : zc1 (Φ E1 O) a0 a1 = zes O a0 a1)) M) h
noncomputable def zbk (O : Oracle E1) (a0 : List Ya) (a1 : Yg) (a2 : List Ya) (a3 : Int) (a4 : Int) : Option (Ym ⊕ Yc) :=
  (if (decide (a4 < a3)) = true then ((idx a2 a4).bind fun x1 => ((zc1 O (a1.1, ()) (x1.1, x1.2.1, x1.2.2.1, ())).bind fun r2 => (if (!r2.1.1) = true then (some (.inr ((false, ()), ()))) else (zaP O a0 (a1.1, ()) a2 a3 (i64.wrap (a4 + 1)))))) else (some (.inl (a0, ()))))
theorem zdd (a0) (a1) (a2) (a3) (a4) {r} (h : zbk M a0 a1 a2 a3 a4 = some r) : zaP M a0 a1 a2 a3 a4 = some r := fixL (E := E1) ((fun O => (by kernel_rfl : zaP (Φ E1 O) a0 a1 a2 a3 a4 = zbk O a0 a1 a2 a3 a4)) M) h
noncomputable def zc4 (O : Oracle E1) (a0 : Yg) (a1 : List Ya) : Option Yc :=
  ((zaP O a1 (a0.1, ()) a1 (a1.length : Int) (0 : Int)).bind (Sum.elim (fun y1 => (some (((decide ((y1.1.length : Int) ≤ (8 : Int))), ()), ()))) (fun r2 => (some r2))))
theorem zgk (a0) (a1) {r} (h : zc4 M a0 a1 = some r) : zcd M a0 a1 = some r := fixC (E := E1) ((fun O => (by kernel_rfl : zcd (Φ E1 O) a0 a1 = zc4 O a0 a1)) M) h
noncomputable def zcx (O : Oracle E1) (a0 : Yg) (a1 : List Ya) : Option Yc :=
  ((zbA O (a0.1, ())).bind fun r1 => (if r1.1.1 = true then ((zcd O (a0.1, ()) a1).bind fun r2 => (some ((r2.1.1, ()), ()))) else (some ((false, ()), ()))))
theorem zfP (a0) (a1) {r} (h : zcx M a0 a1 = some r) : zbK M a0 a1 = some r := fixC (E := E1) ((fun O => (by kernel_rfl : zbK (Φ E1 O) a0 a1 = zcx O a0 a1)) M) h
noncomputable def zdh (O : Oracle E1) (a0 : Yg) (a1 : Yb) : Option Yc :=
  ((zbK O (a0.1, ()) a1.2.2.2.1).bind fun r1 => (if r1.1.1 = true then ((za8 O a1.1 (1 : Int) (5 : Int)).bind fun r2 => (if r2.1.1 = true then ((zbQ O a1.2.1 (0 : Int) (999 : Int)).bind fun r3 => (if r3.1.1 = true then ((zbQ O a1.2.2.1 (0 : Int) (999 : Int)).bind fun r4 => (some ((r4.1.1, ()), ()))) else (some ((false, ()), ())))) else (some ((false, ()), ())))) else (some ((false, ()), ()))))
theorem zgM (a0) (a1) {r} (h : zdh M a0 a1 = some r) : zcq M a0 a1 = some r := fixC (E := E1) ((fun O => (by kernel_rfl : zcq (Φ E1 O) a0 a1 = zdh O a0 a1)) M) h
noncomputable def zet (O : Oracle E1) (a0 : Int) : Option Yd :=
  (if (decide (a0 < 10)) = true then (some (((bytesStr ([(IntKind.u8.wrap (i64.wrap ((48 : Int) + a0)))] : Ye)), ()), ())) else (if (10 : Int) = 0 then none else ((zaK O (i64.wrap (Int.tdiv a0 (10 : Int)))).bind fun r1 => (if (10 : Int) = 0 then none else (if List.length r1.1.1 + List.length (bytesStr ([(IntKind.u8.wrap (i64.wrap ((48 : Int) + (Int.tmod a0 (10 : Int)))))] : Ye)) ≤ 4611686018427387904 then (some (((r1.1.1 ++ (bytesStr ([(IntKind.u8.wrap (i64.wrap ((48 : Int) + (Int.tmod a0 (10 : Int)))))] : Ye))), ()), ())) else none)))))
theorem zhE (a0) {r} (h : zet M a0 = some r) : zaK M a0 = some r := fixC (E := E1) ((fun O => (by kernel_rfl : zaK (Φ E1 O) a0 = zet O a0)) M) h
noncomputable def zdp (O : Oracle E1) (a0 : Int) : Option Yd :=
  (if (a0 == 1) = true then (some ((([105, 110, 112, 117, 116] : Yh), ()), ())) else (if (a0 == 2) = true then (some ((([115, 117, 112, 101, 114] : Yh), ()), ())) else (if (a0 == 3) = true then (some ((([114, 101, 115, 111, 108, 118, 101] : Yh), ()), ())) else (if (a0 == 4) = true then (some ((([102, 97, 99, 116, 111, 114] : Yh), ()), ())) else (some ((([110, 111, 114, 109, 97, 108] : Yh), ()), ()))))))
theorem zgD (a0) {r} (h : zdp M a0 = some r) : zcv M a0 = some r := fixC (E := E1) ((fun O => (by kernel_rfl : zcv (Φ E1 O) a0 = zdp O a0)) M) h
noncomputable def zbt (O : Oracle E1) (a0 : Ye) (a1 : Yg) (a2 : Ye) (a3 : Int) (a4 : Int) : Option (Yg ⊕ Yk) :=
  (if (decide (a4 > 0)) = true then (if (List.length a2 + List.length ([a3] : Ye)) * 8 ≤ 140737488355328 then ((zcp O (a1.1, ()) a0 a3).bind fun r1 => (zaY O a0 (a1.1, ()) (a2 ++ ([a3] : Ye)) r1.1.1 (i64.wrap (a4 - 1)))) else none) else (some (.inl (a2, ()))))
theorem zdI (a0) (a1) (a2) (a3) (a4) {r} (h : zbt M a0 a1 a2 a3 a4 = some r) : zaY M a0 a1 a2 a3 a4 = some r := fixL (E := E1) ((fun O => (by kernel_rfl : zaY (Φ E1 O) a0 a1 a2 a3 a4 = zbt O a0 a1 a2 a3 a4)) M) h
noncomputable def zdM (O : Oracle E1) (a0 : Yg) (a1 : Ye) (a2 : Int) : Option Yk :=
  ((idx a1 a2).bind fun x1 => (if (decide (x1 < 0)) = true then (some (([], ()), ())) else ((idx a1 a2).bind fun x2 => ((idx a0.1 x2).bind fun x3 => ((zaY O a1 (a0.1, ()) [] (i64.wrap (a2 + 1)) x3).bind (Sum.elim (fun y4 => (some ((y4.1, ()), ()))) (fun r5 => (some r5))))))))
theorem zhc (a0) (a1) (a2) {r} (h : zdM M a0 a1 a2 = some r) : zcK M a0 a1 a2 = some r := fixC (E := E1) ((fun O => (by kernel_rfl : zcK (Φ E1 O) a0 a1 a2 = zdM O a0 a1 a2)) M) h
noncomputable def zaF (O : Oracle E1) (a0 : Ye) (a1 : Int) (a2 : Yg) (a3 : Yh) (a4 : Ye) (a5 : Int) (a6 : Int) : Option ((Ye × Int × Yg × Yh × Unit) ⊕ Yd) :=
  (if (decide (a6 < a5)) = true then (if 0 ≤ a6 ∧ a6 < (a4.length : Int) then ((a4[a6.toNat]?).bind fun x1 => (((if (a6 == 0) = true then (if List.length a3 + List.length ([40] : Yh) ≤ 4611686018427387904 then (some (.inl (a0, a1, (a2.1, ()), (a3 ++ ([40] : Yh)), x1, a4, a5, a6, ()))) else none) else (if List.length a3 + List.length ([44] : Yh) ≤ 4611686018427387904 then (some (.inl (a0, a1, (a2.1, ()), (a3 ++ ([44] : Yh)), x1, a4, a5, a6, ()))) else none)) : Option ((Ye × Int × Yg × Yh × Int × Ye × Int × Int × Unit) ⊕ ((Ye × Int × Yg × Yh × Unit) ⊕ (Yd)))).bind (Sum.elim (fun q2 => ((zW O (q2.2.2.1.1, ()) q2.1 q2.2.2.2.2.1).bind fun r3 => (if List.length q2.2.2.2.1 + List.length r3.1.1 ≤ 4611686018427387904 then (z6 O q2.1 q2.2.1 (q2.2.2.1.1, ()) (q2.2.2.2.1 ++ r3.1.1) q2.2.2.2.2.2.1 q2.2.2.2.2.2.2.1 (i64.wrap (q2.2.2.2.2.2.2.2.1 + 1))) else none))) (fun r => some r)))) else none) else (some (.inl (a0, a1, (a2.1, ()), a3, ()))))
theorem zcB (a0) (a1) (a2) (a3) (a4) (a5) (a6) {r} (h : zaF M a0 a1 a2 a3 a4 a5 a6 = some r) : z6 M a0 a1 a2 a3 a4 a5 a6 = some r := fixL (E := E1) ((fun O => (by kernel_rfl : z6 (Φ E1 O) a0 a1 a2 a3 a4 a5 a6 = zaF O a0 a1 a2 a3 a4 a5 a6)) M) h
noncomputable def zbL (O : Oracle E1) (a0 : Yg) (a1 : Ye) (a2 : Int) : Option Yd :=
  ((idx a1 a2).bind fun x1 => (if (decide (x1 < 0)) = true then ((idx a1 a2).bind fun x2 => (some (((bytesStr ([(IntKind.u8.wrap (i64.wrap ((65 : Int) + (i64.wrap ((-1 : Int) - x2)))))] : Ye)), ()), ()))) else ((idx a1 a2).bind fun x3 => ((zcK O (a0.1, ()) a1 a2).bind fun r4 => ((z6 O a1 a2 (a0.1, ()) (bytesStr ([(IntKind.u8.wrap (i64.wrap ((97 : Int) + x3)))] : Ye)) r4.1.1 (r4.1.1.length : Int) (0 : Int)).bind (Sum.elim (fun y5 => ((((idx y5.1 y5.2.1).bind fun x8 => ((idx y5.2.2.1.1 x8).bind fun x9 => (if (decide (x9 > 0)) = true then (if List.length y5.2.2.2.1 + List.length ([41] : Yh) ≤ 4611686018427387904 then (some (.inl ((y5.2.2.2.1 ++ ([41] : Yh)), ()))) else none) else (some (.inl (y5.2.2.2.1, ())))))) : Option (Yl ⊕ Yl × (Unit))).bind (Sum.elim (fun q7 => (some ((q7.1, ()), ()))) (fun r => some r)))) (fun r6 => (some r6))))))))
theorem zd0 (a0) (a1) (a2) {r} (h : zbL M a0 a1 a2 = some r) : zW M a0 a1 a2 = some r := fixC (E := E1) ((fun O => (by kernel_rfl : zW (Φ E1 O) a0 a1 a2 = zbL O a0 a1 a2)) M) h
noncomputable def zbs (O : Oracle E1) (a0 : Yg) (a1 : Yh) (a2 : List Ya) (a3 : Int) (a4 : Int) : Option (Yl ⊕ Yd) :=
  (if (decide (a4 < a3)) = true then ((idx a2 a4).bind fun x1 => (((if (decide (a4 > 0)) = true then (if List.length a1 + List.length ([124] : Yh) ≤ 4611686018427387904 then (some (.inl ((a0.1, ()), (a1 ++ ([124] : Yh)), (x1.1, x1.2.1, x1.2.2.1, ()), a2, a3, a4, ()))) else none) else (some (.inl ((a0.1, ()), a1, (x1.1, x1.2.1, x1.2.2.1, ()), a2, a3, a4, ())))) : Option Yj).bind (Sum.elim (fun q2 => ((zW O (q2.1.1, ()) q2.2.2.1.2.1 (0 : Int)).bind fun r3 => (if List.length q2.2.1 + List.length r3.1.1 ≤ 4611686018427387904 then (((if q2.2.2.1.1 = true then (if List.length (q2.2.1 ++ r3.1.1) + List.length ([61] : Yh) ≤ 4611686018427387904 then (some (.inl ((q2.1.1, ()), ((q2.2.1 ++ r3.1.1) ++ ([61] : Yh)), (q2.2.2.1.1, q2.2.2.1.2.1, q2.2.2.1.2.2.1, ()), q2.2.2.2.1, q2.2.2.2.2.1, q2.2.2.2.2.2.1, ()))) else none) else (if List.length (q2.2.1 ++ r3.1.1) + List.length ([35] : Yh) ≤ 4611686018427387904 then (some (.inl ((q2.1.1, ()), ((q2.2.1 ++ r3.1.1) ++ ([35] : Yh)), (q2.2.2.1.1, q2.2.2.1.2.1, q2.2.2.1.2.2.1, ()), q2.2.2.2.1, q2.2.2.2.2.1, q2.2.2.2.2.2.1, ()))) else none)) : Option Yj).bind (Sum.elim (fun q4 => ((zW O (q4.1.1, ()) q4.2.2.1.2.2.1 (0 : Int)).bind fun r5 => (if List.length q4.2.1 + List.length r5.1.1 ≤ 4611686018427387904 then (zaU O (q4.1.1, ()) (q4.2.1 ++ r5.1.1) q4.2.2.2.1 q4.2.2.2.2.1 (i64.wrap (q4.2.2.2.2.2.1 + 1))) else none))) (fun r => some r))) else none))) (fun r => some r)))) else (some (.inl (a1, ()))))
theorem zdA (a0) (a1) (a2) (a3) (a4) {r} (h : zbs M a0 a1 a2 a3 a4 = some r) : zaU M a0 a1 a2 a3 a4 = some r := fixL (E := E1) ((fun O => (by kernel_rfl : zaU (Φ E1 O) a0 a1 a2 a3 a4 = zbs O a0 a1 a2 a3 a4)) M) h
noncomputable def zdW (O : Oracle E1) (a0 : Yg) (a1 : List Ya) : Option Yd :=
  (if ((a1.length : Int) == (0 : Int)) = true then (some ((([45] : Yh), ()), ())) else ((zaU O (a0.1, ()) ([] : Yh) a1 (a1.length : Int) (0 : Int)).bind (Sum.elim (fun y1 => (some ((y1.1, ()), ()))) (fun r2 => (some r2)))))
theorem zhr (a0) (a1) {r} (h : zdW M a0 a1 = some r) : zcM M a0 a1 = some r := fixC (E := E1) ((fun O => (by kernel_rfl : zcM (Φ E1 O) a0 a1 = zdW O a0 a1)) M) h
noncomputable def zbD (O : Oracle E1) (a0 : Yg) (a1 : Yb) (a2 : Yh) (a3 : Ye) (a4 : Int) (a5 : Int) : Option Yp :=
  (if (decide (a5 < a4)) = true then ((idx a3 a5).bind fun x1 => ((zaK O x1).bind fun r2 => (if List.length ([32] : Yh) + List.length r2.1.1 ≤ 4611686018427387904 then (if List.length a2 + List.length (([32] : Yh) ++ r2.1.1) ≤ 4611686018427387904 then (za0 O (a0.1, ()) (a1.1, a1.2.1, a1.2.2.1, a1.2.2.2.1, ()) (a2 ++ (([32] : Yh) ++ r2.1.1)) a3 a4 (i64.wrap (a5 + 1))) else none) else none))) else (some (.inl ((a0.1, ()), (a1.1, a1.2.1, a1.2.2.1, a1.2.2.2.1, ()), a2, ()))))
theorem zdx (a0) (a1) (a2) (a3) (a4) (a5) {r} (h : zbD M a0 a1 a2 a3 a4 a5 = some r) : za0 M a0 a1 a2 a3 a4 a5 = some r := fixL (E := E1) ((fun O => (by kernel_rfl : za0 (Φ E1 O) a0 a1 a2 a3 a4 a5 = zbD O a0 a1 a2 a3 a4 a5)) M) h
noncomputable def zbj (O : Oracle E1) (a0 : Yg) (a1 : Yb) (a2 : Yh) (a3 : Ye) (a4 : Int) (a5 : Int) : Option Yp :=
  (if (decide (a5 < a4)) = true then ((idx a3 a5).bind fun x1 => ((zaK O x1).bind fun r2 => (if List.length ([32] : Yh) + List.length r2.1.1 ≤ 4611686018427387904 then (if List.length a2 + List.length (([32] : Yh) ++ r2.1.1) ≤ 4611686018427387904 then (zaQ O (a0.1, ()) (a1.1, a1.2.1, a1.2.2.1, a1.2.2.2.1, ()) (a2 ++ (([32] : Yh) ++ r2.1.1)) a3 a4 (i64.wrap (a5 + 1))) else none) else none))) else (some (.inl ((a0.1, ()), (a1.1, a1.2.1, a1.2.2.1, a1.2.2.2.1, ()), a2, ()))))
theorem zde (a0) (a1) (a2) (a3) (a4) (a5) {r} (h : zbj M a0 a1 a2 a3 a4 a5 = some r) : zaQ M a0 a1 a2 a3 a4 a5 = some r := fixL (E := E1) ((fun O => (by kernel_rfl : zaQ (Φ E1 O) a0 a1 a2 a3 a4 a5 = zbj O a0 a1 a2 a3 a4 a5)) M) h
noncomputable def zdi (O : Oracle E1) (a0 : Yg) (a1 : Yb) : Option Yd :=
  ((zcv O a1.1).bind fun r1 => ((za0 O (a0.1, ()) (a1.1, a1.2.1, a1.2.2.1, a1.2.2.2.1, ()) r1.1.1 a1.2.1 (a1.2.1.length : Int) (0 : Int)).bind (Sum.elim (fun y2 => (if List.length y2.2.2.1 + List.length ([32, 58] : Yh) ≤ 4611686018427387904 then ((zaQ O (y2.1.1, ()) (y2.2.1.1, y2.2.1.2.1, y2.2.1.2.2.1, y2.2.1.2.2.2.1, ()) (y2.2.2.1 ++ ([32, 58] : Yh)) y2.2.1.2.2.1 (y2.2.1.2.2.1.length : Int) (0 : Int)).bind (Sum.elim (fun y4 => (if List.length y4.2.2.1 + List.length ([32, 58, 32] : Yh) ≤ 4611686018427387904 then ((zcM O (y4.1.1, ()) y4.2.1.2.2.2.1).bind fun r6 => (if List.length (y4.2.2.1 ++ ([32, 58, 32] : Yh)) + List.length r6.1.1 ≤ 4611686018427387904 then (some ((((y4.2.2.1 ++ ([32, 58, 32] : Yh)) ++ r6.1.1), ()), ())) else none)) else none)) (fun r5 => (some r5)))) else none)) (fun r3 => (some r3)))))
theorem zgG (a0) (a1) {r} (h : zdi M a0 a1 = some r) : zcu M a0 a1 = some r := fixC (E := E1) ((fun O => (by kernel_rfl : zcu (Φ E1 O) a0 a1 = zdi O a0 a1)) M) h
noncomputable def zbh (O : Oracle E1) (a0 : Yg) (a1 : Yh) (a2 : List Yb) (a3 : Int) (a4 : Int) : Option (Yl ⊕ Yd) :=
  (if (decide (a4 < a3)) = true then ((idx a2 a4).bind fun x1 => ((zaK O a4).bind fun r2 => (if List.length r2.1.1 + List.length ([32] : Yh) ≤ 4611686018427387904 then ((zcu O (a0.1, ()) (x1.1, x1.2.1, x1.2.2.1, x1.2.2.2.1, ())).bind fun r3 => (if List.length (r2.1.1 ++ ([32] : Yh)) + List.length r3.1.1 ≤ 4611686018427387904 then (if List.length ((r2.1.1 ++ ([32] : Yh)) ++ r3.1.1) + List.length ([10] : Yh) ≤ 4611686018427387904 then (if List.length a1 + List.length (((r2.1.1 ++ ([32] : Yh)) ++ r3.1.1) ++ ([10] : Yh)) ≤ 4611686018427387904 then (zaI O (a0.1, ()) (a1 ++ (((r2.1.1 ++ ([32] : Yh)) ++ r3.1.1) ++ ([10] : Yh))) a2 a3 (i64.wrap (a4 + 1))) else none) else none) else none)) else none))) else (some (.inl (a1, ()))))
theorem zdc (a0) (a1) (a2) (a3) (a4) {r} (h : zbh M a0 a1 a2 a3 a4 = some r) : zaI M a0 a1 a2 a3 a4 = some r := fixL (E := E1) ((fun O => (by kernel_rfl : zaI (Φ E1 O) a0 a1 a2 a3 a4 = zbh O a0 a1 a2 a3 a4)) M) h
noncomputable def zc6 (O : Oracle E1) (a0 : Yg) (a1 : List Yb) : Option Yd :=
  ((zaI O (a0.1, ()) ([] : Yh) a1 (a1.length : Int) (0 : Int)).bind (Sum.elim (fun y1 => (some ((y1.1, ()), ()))) (fun r2 => (some r2))))
theorem zge (a0) (a1) {r} (h : zc6 M a0 a1 = some r) : zce M a0 a1 = some r := fixC (E := E1) ((fun O => (by kernel_rfl : zce (Φ E1 O) a0 a1 = zc6 O a0 a1)) M) h
noncomputable def za5 (O : Oracle E1) (a0 : List Yb) (a1 : Yg) (a2 : List Yb) (a3 : Int) (a4 : Int) : Option (((List Yb) × Yg × Unit) ⊕ Yi) :=
  (if (decide (a4 < a3)) = true then ((idx a2 a4).bind fun x1 => ((zcq O (a1.1, ()) (x1.1, x1.2.1, x1.2.2.1, x1.2.2.2.1, ())).bind fun r2 => (if (!r2.1.1) = true then (some (.inr ((([] : Yh), false, ()), ()))) else (zay O a0 (a1.1, ()) a2 a3 (i64.wrap (a4 + 1)))))) else (some (.inl (a0, (a1.1, ()), ()))))
theorem zcY (a0) (a1) (a2) (a3) (a4) {r} (h : za5 M a0 a1 a2 a3 a4 = some r) : zay M a0 a1 a2 a3 a4 = some r := fixL (E := E1) ((fun O => (by kernel_rfl : zay (Φ E1 O) a0 a1 a2 a3 a4 = za5 O a0 a1 a2 a3 a4)) M) h
noncomputable def zaE (O : Oracle E1) (a0 : Yg) (a1 : List Yb) : Option Yi :=
  ((zbA O (a0.1, ())).bind fun r1 => (if (!r1.1.1) = true then (some ((([] : Yh), false, ()), ())) else (if (decide ((a1.length : Int) > (200 : Int))) = true then (some ((([] : Yh), false, ()), ())) else ((zay O a1 (a0.1, ()) a1 (a1.length : Int) (0 : Int)).bind (Sum.elim (fun y2 => ((zce O (y2.2.1.1, ()) y2.1).bind fun r4 => (some ((r4.1.1, true, ()), ())))) (fun r3 => (some r3)))))))
theorem zb0 (a0) (a1) {r} (h : zaE M a0 a1 = some r) : zb3 M a0 a1 = some r := fixC (E := E1) ((fun O => (by kernel_rfl : zb3 (Φ E1 O) a0 a1 = zaE O a0 a1)) M) h
noncomputable def zbG (O : Oracle E1) (a0 : Ye) (a1 : Ye) (a2 : Int) : Option (Yg ⊕ Yk) :=
  (if (decide (a2 < (a0.length : Int))) = true then ((idx a0 a2).bind fun x1 => (if 0 ≤ a2 ∧ a2 < (a1.length : Int) then ((a1[a2.toNat]?).bind fun x2 => (zbg O a0 (a1.set a2.toNat x1) (i64.wrap (a2 + 1)))) else none)) else (some (.inl (a1, ()))))
theorem zd2 (a0) (a1) (a2) {r} (h : zbG M a0 a1 a2 = some r) : zbg M a0 a1 a2 = some r := fixL (E := E1) ((fun O => (by kernel_rfl : zbg (Φ E1 O) a0 a1 a2 = zbG O a0 a1 a2)) M) h
noncomputable def zdY (O : Oracle E1) (a0 : Ye) : Option Yk :=
  (if 0 ≤ (a0.length : Int) ∧ ((8 : Nat) : Int) * (a0.length : Int) ≤ 140737488355328 ∧ (a0.length : Int) = (a0.length : Int) then ((zbg O a0 (List.replicate (Int.toNat (a0.length : Int)) (0 : Int)) (0 : Int)).bind (Sum.elim (fun y1 => (some ((y1.1, ()), ()))) (fun r2 => (some r2)))) else none)
theorem zg9 (a0) {r} (h : zdY M a0 = some r) : zar M a0 = some r := fixC (E := E1) ((fun O => (by kernel_rfl : zar (Φ E1 O) a0 = zdY O a0)) M) h
noncomputable def zdN (O : Oracle E1) (a0 : Yg) : Option ((Yg × Unit) × (Unit)) :=
  ((zar O a0.1).bind fun r1 => (some (((r1.1.1, ()), ()), ())))
theorem zhp (a0) {r} (h : zdN M a0 = some r) : zbq M a0 = some r := fixC (E := E1) ((fun O => (by kernel_rfl : zbq (Φ E1 O) a0 = zdN O a0)) M) h
noncomputable def zei (O : Oracle E1) (a0 : Ya) : Option ((Ya × Unit) × (Unit)) :=
  ((zar O a0.2.1).bind fun r1 => ((zar O a0.2.2.1).bind fun r2 => (some (((a0.1, r1.1.1, r2.1.1, ()), ()), ()))))
theorem zhG (a0) {r} (h : zei M a0 = some r) : zc5 M a0 = some r := fixC (E := E1) ((fun O => (by kernel_rfl : zc5 (Φ E1 O) a0 = zei O a0)) M) h
noncomputable def zbH (O : Oracle E1) (a0 : List Ya) (a1 : List Ya) (a2 : Int) : Option (Ym ⊕ (Ym × (Unit))) :=
  (if (decide (a2 < (a0.length : Int))) = true then ((idx a0 a2).bind fun x1 => ((zc5 O (x1.1, x1.2.1, x1.2.2.1, ())).bind fun r2 => (if 0 ≤ a2 ∧ a2 < (a1.length : Int) then ((a1[a2.toNat]?).bind fun x3 => (zbd O a0 (a1.set a2.toNat (r2.1.1.1, r2.1.1.2.1, r2.1.1.2.2.1, ())) (i64.wrap (a2 + 1)))) else none))) else (some (.inl (a1, ()))))
theorem zd3 (a0) (a1) (a2) {r} (h : zbH M a0 a1 a2 = some r) : zbd M a0 a1 a2 = some r := fixL (E := E1) ((fun O => (by kernel_rfl : zbd (Φ E1 O) a0 a1 a2 = zbH O a0 a1 a2)) M) h
noncomputable def zdT (O : Oracle E1) (a0 : List Ya) : Option (Ym × (Unit)) :=
  (if 0 ≤ (a0.length : Int) ∧ ((56 : Nat) : Int) * (a0.length : Int) ≤ 140737488355328 ∧ (a0.length : Int) = (a0.length : Int) then ((zbd O a0 (List.replicate (Int.toNat (a0.length : Int)) (false, [], [], ())) (0 : Int)).bind (Sum.elim (fun y1 => (some ((y1.1, ()), ()))) (fun r2 => (some r2)))) else none)
theorem zhq (a0) {r} (h : zdT M a0 = some r) : zcO M a0 = some r := fixC (E := E1) ((fun O => (by kernel_rfl : zcO (Φ E1 O) a0 = zdT O a0)) M) h
end Go.Proofs.YtpdbffngomlleaaDoorPt.Ev
