/- A text of its own: Eq1; no condition but those that each theorem names. -/
import Derived.Test.YtpdbffngomlleaaDoorPtNm
import Derived.KernelRfl
namespace Go.Proofs.YtpdbffngomlleaaDoorPt.Ev
open Go Go.IntKind
set_option maxRecDepth 100000
set_option autoImplicit false
set_option linter.unusedVariables false
noncomputable def zdX (O : Oracle E1) (a0 : Yb) : Option ((Yb × Unit) × (Unit)) :=
  ((zar O a0.2.1).bind fun r1 => ((zar O a0.2.2.1).bind fun r2 => ((zcO O a0.2.2.2.1).bind fun r3 => (some (((a0.1, r1.1.1, r2.1.1, r3.1.1, ()), ()), ())))))
theorem zhk (a0) {r} (h : zdX M a0 = some r) : zcG M a0 = some r := fixC (E := E1) ((fun O => (by kernel_rfl : zcG (Φ E1 O) a0 = zdX O a0)) M) h
noncomputable def zbw (O : Oracle E1) (a0 : List Yb) (a1 : List Yb) (a2 : Int) : Option (((List Yb) × Unit) ⊕ (((List Yb) × Unit) × (Unit))) :=
  (if (decide (a2 < (a0.length : Int))) = true then ((idx a0 a2).bind fun x1 => ((zcG O (x1.1, x1.2.1, x1.2.2.1, x1.2.2.2.1, ())).bind fun r2 => (if 0 ≤ a2 ∧ a2 < (a1.length : Int) then ((a1[a2.toNat]?).bind fun x3 => (zaX O a0 (a1.set a2.toNat (r2.1.1.1, r2.1.1.2.1, r2.1.1.2.2.1, r2.1.1.2.2.2.1, ())) (i64.wrap (a2 + 1)))) else none))) else (some (.inl (a1, ()))))
theorem zdC (a0) (a1) (a2) {r} (h : zbw M a0 a1 a2 = some r) : zaX M a0 a1 a2 = some r := fixL (E := E1) ((fun O => (by kernel_rfl : zaX (Φ E1 O) a0 a1 a2 = zbw O a0 a1 a2)) M) h
noncomputable def zdt (O : Oracle E1) (a0 : List Yb) : Option (((List Yb) × Unit) × (Unit)) :=
  (if 0 ≤ (a0.length : Int) ∧ ((80 : Nat) : Int) * (a0.length : Int) ≤ 140737488355328 ∧ (a0.length : Int) = (a0.length : Int) then ((zaX O a0 (List.replicate (Int.toNat (a0.length : Int)) ((0 : Int), [], [], [], ())) (0 : Int)).bind (Sum.elim (fun y1 => (some ((y1.1, ()), ()))) (fun r2 => (some r2)))) else none)
theorem zgK (a0) {r} (h : zdt M a0 = some r) : zbb M a0 = some r := fixC (E := E1) ((fun O => (by kernel_rfl : zbb (Φ E1 O) a0 = zdt O a0)) M) h
noncomputable def zcy (O : Oracle E1) (a0 : Int) : Option Yc :=
  (if (decide (a0 < 0)) = true then (some ((true, ()), ())) else (some (((decide (a0 > 3)), ()), ())))
theorem zfR (a0) {r} (h : zcy M a0 = some r) : zbN M a0 = some r := fixC (E := E1) ((fun O => (by kernel_rfl : zbN (Φ E1 O) a0 = zcy O a0)) M) h
noncomputable def zn (O : Oracle E1) (a0 : Ye) (a1 : Unit) (a2 : Int) (a3 : Int) : Option ((Unit) ⊕ Yf) :=
  (if (decide (a3 < a2)) = true then ((idx a0 a3).bind fun x1 => ((zbN O x1).bind fun r2 => (if r2.1.1 = true then (some (.inr ((a3, ()), ()))) else (zp O a0 a1 a2 (i64.wrap (a3 + 1)))))) else (some (.inl ())))
theorem zK (a0) (a1) (a2) (a3) {r} (h : zn M a0 a1 a2 a3 = some r) : zp M a0 a1 a2 a3 = some r := fixL (E := E1) ((fun O => (by kernel_rfl : zp (Φ E1 O) a0 a1 a2 a3 = zn O a0 a1 a2 a3)) M) h
noncomputable def zG (O : Oracle E1) (a0 : Ye) (a1 : Unit) : Option Yf :=
  ((zp O a0 a1 (a0.length : Int) (0 : Int)).bind (Sum.elim (fun y1 => (some (((-1 : Int), ()), ()))) (fun r2 => (some r2))))
theorem zae (a0) (a1) {r} (h : zG M a0 a1 = some r) : zP M a0 a1 = some r := fixC (E := E1) ((fun O => (by kernel_rfl : zP (Φ E1 O) a0 a1 = zG O a0 a1)) M) h
noncomputable def zL (O : Oracle E1) (a0 : Ye) (a1 : Unit) : Option Yc :=
  ((zP O a0 a1).bind fun r1 => (some (((decide (r1.1.1 ≥ 0)), ()), ())))
theorem zbo (a0) (a1) {r} (h : zL M a0 a1 = some r) : zA M a0 a1 = some r := fixC (E := E1) ((fun O => (by kernel_rfl : zA (Φ E1 O) a0 a1 = zL O a0 a1)) M) h
noncomputable def zcZ (O : Oracle E1) (a0 : Yg) : Option Yc :=
  (if (decide ((a0.1.length : Int) < (1 : Int))) = true then (some ((false, ()), ())) else (if (decide ((a0.1.length : Int) > (10 : Int))) = true then (some ((false, ()), ())) else ((idx a0.1 (0 : Int)).bind fun x1 => (if (x1 != 0) = true then (some ((false, ()), ())) else ((zA O a0.1 ()).bind fun r2 => (some (((!r2.1.1), ()), ())))))))
theorem zgh (a0) {r} (h : zcZ M a0 = some r) : zcc M a0 = some r := fixC (E := E1) ((fun O => (by kernel_rfl : zcc (Φ E1 O) a0 = zcZ O a0)) M) h
noncomputable def zat (O : Oracle E1) (a0 : Yh) (a1 : Yh) : Option ((Int × Unit × Unit) × Yl) :=
  (if a0.length + a1.length ≤ 140737488355328 then some (((a1.length : Int), (), ()), (a0 ++ a1, ())) else none)
theorem zda (a0) (a1) {r} (h : zat M a0 a1 = some r) : z7 M a0 a1 = some r := fixC (E := E1) ((fun O => (by kernel_rfl : z7 (Φ E1 O) a0 a1 = zat O a0 a1)) M) h
noncomputable def zdj (O : Oracle E1) (a0 : Int) : Option Yd :=
  (if (-9223372036854775808 : Int) ≤ a0 ∧ a0 ≤ 9223372036854775807 then some ((Go.Lib.itoa a0, ()), ()) else none)
theorem zgP (a0) {r} (h : zdj M a0 = some r) : zbc M a0 = some r := fixC (E := E1) ((fun O => (by kernel_rfl : zbc (Φ E1 O) a0 = zdj O a0)) M) h
noncomputable def zdO (O : Oracle E1) (a0 : Int) : Option Yd :=
  (if (a0 == 1) = true then (some ((([105, 110, 112, 117, 116] : Yh), ()), ())) else (if (a0 == 2) = true then (some ((([115, 117, 112, 101, 114] : Yh), ()), ())) else (if (a0 == 3) = true then (some ((([114, 101, 115, 111, 108, 118, 101] : Yh), ()), ())) else (if (a0 == 4) = true then (some ((([102, 97, 99, 116, 111, 114] : Yh), ()), ())) else (some ((([110, 111, 114, 109, 97, 108] : Yh), ()), ()))))))
theorem zhf (a0) {r} (h : zdO M a0 = some r) : zcH M a0 = some r := fixC (E := E1) ((fun O => (by kernel_rfl : zcH (Φ E1 O) a0 = zdO O a0)) M) h
noncomputable def zbx (O : Oracle E1) (a0 : Yh) (a1 : Ye) (a2 : Int) (a3 : Int) : Option (Yl ⊕ Yd) :=
  (if (decide (a3 < a2)) = true then ((idx a1 a3).bind fun x1 => ((zbc O x1).bind fun r2 => (if List.length ([32] : Yh) + List.length r2.1.1 ≤ 4611686018427387904 then (if List.length a0 + List.length (([32] : Yh) ++ r2.1.1) ≤ 4611686018427387904 then (zaW O (a0 ++ (([32] : Yh) ++ r2.1.1)) a1 a2 (i64.wrap (a3 + 1))) else none) else none))) else (some (.inl (a0, ()))))
theorem zdF (a0) (a1) (a2) (a3) {r} (h : zbx M a0 a1 a2 a3 = some r) : zaW M a0 a1 a2 a3 = some r := fixL (E := E1) ((fun O => (by kernel_rfl : zaW (Φ E1 O) a0 a1 a2 a3 = zbx O a0 a1 a2 a3)) M) h
noncomputable def zdq (O : Oracle E1) (a0 : Ye) : Option Yd :=
  ((zaW O ([] : Yh) a0 (a0.length : Int) (0 : Int)).bind (Sum.elim (fun y1 => (some ((y1.1, ()), ()))) (fun r2 => (some r2))))
theorem zgJ (a0) {r} (h : zdq M a0 = some r) : zbO M a0 = some r := fixC (E := E1) ((fun O => (by kernel_rfl : zbO (Φ E1 O) a0 = zdq O a0)) M) h
noncomputable def zcQ (O : Oracle E1) (a0 : Yg) (a1 : Int) : Option Yf :=
  (if (decide (a1 < 0)) = true then (some (((0 : Int), ()), ())) else ((idx a0.1 a1).bind fun x1 => (some ((x1, ()), ()))))
theorem zf5 (a0) (a1) {r} (h : zcQ M a0 a1 = some r) : zaf M a0 a1 = some r := fixC (E := E1) ((fun O => (by kernel_rfl : zaf (Φ E1 O) a0 a1 = zcQ O a0 a1)) M) h
noncomputable def zaR (O : Oracle E1) (a0 : Ye) (a1 : Ye) (a2 : Yg) (a3 : Int) (a4 : Int) (a5 : Int) (a6 : Int) : Option ((Ye × Yg × Int × Int × Unit) ⊕ Yn) :=
  (if (decide (a6 < a5)) = true then (((if (a6 == 0) = true then (some (.inl (a0, a1, (a2.1, ()), a3, a4, (40 : Int), a5, a6, ()))) else (some (.inl (a0, a1, (a2.1, ()), a3, a4, (44 : Int), a5, a6, ())))) : Option ((Ye × Ye × Yg × Int × Int × Int × Int × Int × Unit) ⊕ ((Ye × Yg × Int × Int × Unit) ⊕ (Yn)))).bind (Sum.elim (fun q1 => (if (List.length q1.1 + List.length ([q1.2.2.2.2.2.1] : Ye)) * 1 ≤ 140737488355328 then ((zaA O (q1.2.2.1.1, ()) (q1.1 ++ ([q1.2.2.2.2.2.1] : Ye)) q1.2.1 q1.2.2.2.2.1).bind fun r2 => (z8 O r2.1.1 q1.2.1 (q1.2.2.1.1, ()) q1.2.2.2.1 r2.1.2.1 q1.2.2.2.2.2.2.1 (i64.wrap (q1.2.2.2.2.2.2.2.1 + 1)))) else none)) (fun r => some r))) else (some (.inl (a0, (a2.1, ()), a3, a4, ()))))
theorem zcV (a0) (a1) (a2) (a3) (a4) (a5) (a6) {r} (h : zaR M a0 a1 a2 a3 a4 a5 a6 = some r) : z8 M a0 a1 a2 a3 a4 a5 a6 = some r := fixL (E := E1) ((fun O => (by kernel_rfl : z8 (Φ E1 O) a0 a1 a2 a3 a4 a5 a6 = zaR O a0 a1 a2 a3 a4 a5 a6)) M) h
noncomputable def zbS (O : Oracle E1) (a0 : Yg) (a1 : Ye) (a2 : Ye) (a3 : Int) : Option Yn :=
  ((idx a2 a3).bind fun x1 => (if (decide (x1 < 0)) = true then (if (List.length a1 + List.length ([(IntKind.u8.wrap ((65 : Int) + (IntKind.u8.wrap (i64.wrap ((-1 : Int) - x1)))))] : Ye)) * 1 ≤ 140737488355328 then (some (((a1 ++ ([(IntKind.u8.wrap ((65 : Int) + (IntKind.u8.wrap (i64.wrap ((-1 : Int) - x1)))))] : Ye)), (i64.wrap (a3 + 1)), ()), ())) else none) else (if (List.length a1 + List.length ([(IntKind.u8.wrap ((97 : Int) + (IntKind.u8.wrap x1)))] : Ye)) * 1 ≤ 140737488355328 then ((zaf O (a0.1, ()) x1).bind fun r2 => ((z8 O (a1 ++ ([(IntKind.u8.wrap ((97 : Int) + (IntKind.u8.wrap x1)))] : Ye)) a2 (a0.1, ()) x1 (i64.wrap (a3 + 1)) r2.1.1 (0 : Int)).bind (Sum.elim (fun y3 => ((((zaf O (y3.2.1.1, ()) y3.2.2.1).bind fun r6 => (if (decide (r6.1.1 > 0)) = true then (if (List.length y3.1 + List.length ([(41 : Int)] : Ye)) * 1 ≤ 140737488355328 then (some (.inl ((y3.1 ++ ([(41 : Int)] : Ye)), y3.2.2.2.1, ()))) else none) else (some (.inl (y3.1, y3.2.2.2.1, ()))))) : Option ((Ye × Int × Unit) ⊕ (Ye × Int × Unit) × (Unit))).bind (Sum.elim (fun q5 => (some ((q5.1, q5.2.1, ()), ()))) (fun r => some r)))) (fun r4 => (some r4))))) else none)))
theorem zec (a0) (a1) (a2) (a3) {r} (h : zbS M a0 a1 a2 a3 = some r) : zaA M a0 a1 a2 a3 = some r := fixC (E := E1) ((fun O => (by kernel_rfl : zaA (Φ E1 O) a0 a1 a2 a3 = zbS O a0 a1 a2 a3)) M) h
noncomputable def zbV (O : Oracle E1) (a0 : Yg) (a1 : Ye) : Option Yd :=
  ((zaA O (a0.1, ()) [] a1 (0 : Int)).bind fun r1 => (some (((bytesStr r1.1.1), ()), ())))
theorem zeZ (a0) (a1) {r} (h : zbV M a0 a1 = some r) : zan M a0 a1 = some r := fixC (E := E1) ((fun O => (by kernel_rfl : zan (Φ E1 O) a0 a1 = zbV O a0 a1)) M) h
noncomputable def zac (O : Oracle E1) (a0 : Yg) (a1 : Yh) (a2 : List Ya) (a3 : Int) (a4 : Int) : Option (Yl ⊕ Yd) :=
  (if (decide (a4 < a3)) = true then ((idx a2 a4).bind fun x1 => (((if (decide (a4 > 0)) = true then (if List.length a1 + List.length ([124] : Yh) ≤ 4611686018427387904 then (some (.inl ((a0.1, ()), (a1 ++ ([124] : Yh)), (x1.1, x1.2.1, x1.2.2.1, ()), a2, a3, a4, ()))) else none) else (some (.inl ((a0.1, ()), a1, (x1.1, x1.2.1, x1.2.2.1, ()), a2, a3, a4, ())))) : Option Yj).bind (Sum.elim (fun q2 => (((if q2.2.2.1.1 = true then (some (.inl ((q2.1.1, ()), q2.2.1, (q2.2.2.1.1, q2.2.2.1.2.1, q2.2.2.1.2.2.1, ()), ([61] : Yh), q2.2.2.2.1, q2.2.2.2.2.1, q2.2.2.2.2.2.1, ()))) else (some (.inl ((q2.1.1, ()), q2.2.1, (q2.2.2.1.1, q2.2.2.1.2.1, q2.2.2.1.2.2.1, ()), ([35] : Yh), q2.2.2.2.1, q2.2.2.2.2.1, q2.2.2.2.2.2.1, ())))) : Option ((Yg × Yh × Ya × Yh × (List Ya) × Int × Int × Unit) ⊕ (Yl ⊕ (Yd)))).bind (Sum.elim (fun q3 => ((zan O (q3.1.1, ()) q3.2.2.1.2.1).bind fun r4 => (if List.length r4.1.1 + List.length q3.2.2.2.1 ≤ 4611686018427387904 then ((zan O (q3.1.1, ()) q3.2.2.1.2.2.1).bind fun r5 => (if List.length (r4.1.1 ++ q3.2.2.2.1) + List.length r5.1.1 ≤ 4611686018427387904 then (if List.length q3.2.1 + List.length ((r4.1.1 ++ q3.2.2.2.1) ++ r5.1.1) ≤ 4611686018427387904 then (zV O (q3.1.1, ()) (q3.2.1 ++ ((r4.1.1 ++ q3.2.2.2.1) ++ r5.1.1)) q3.2.2.2.2.1 q3.2.2.2.2.2.1 (i64.wrap (q3.2.2.2.2.2.2.1 + 1))) else none) else none)) else none))) (fun r => some r)))) (fun r => some r)))) else (some (.inl (a1, ()))))
theorem zbR (a0) (a1) (a2) (a3) (a4) {r} (h : zac M a0 a1 a2 a3 a4 = some r) : zV M a0 a1 a2 a3 a4 = some r := fixL (E := E1) ((fun O => (by kernel_rfl : zV (Φ E1 O) a0 a1 a2 a3 a4 = zac O a0 a1 a2 a3 a4)) M) h
noncomputable def zbE (O : Oracle E1) (a0 : Yg) (a1 : List Ya) : Option Yd :=
  (if ((a1.length : Int) == (0 : Int)) = true then (some ((([45] : Yh), ()), ())) else ((zV O (a0.1, ()) ([] : Yh) a1 (a1.length : Int) (0 : Int)).bind (Sum.elim (fun y1 => (some ((y1.1, ()), ()))) (fun r2 => (some r2)))))
theorem zeG (a0) (a1) {r} (h : zbE M a0 a1 = some r) : zaG M a0 a1 = some r := fixC (E := E1) ((fun O => (by kernel_rfl : zaG (Φ E1 O) a0 a1 = zbE O a0 a1)) M) h
noncomputable def zbX (O : Oracle E1) (a0 : Yg) (a1 : Yb) : Option Yd :=
  ((zcH O a1.1).bind fun r1 => ((zbO O a1.2.1).bind fun r2 => (if List.length r1.1.1 + List.length r2.1.1 ≤ 4611686018427387904 then (if List.length (r1.1.1 ++ r2.1.1) + List.length ([32, 58] : Yh) ≤ 4611686018427387904 then ((zbO O a1.2.2.1).bind fun r3 => (if List.length ((r1.1.1 ++ r2.1.1) ++ ([32, 58] : Yh)) + List.length r3.1.1 ≤ 4611686018427387904 then (if List.length (((r1.1.1 ++ r2.1.1) ++ ([32, 58] : Yh)) ++ r3.1.1) + List.length ([32, 58, 32] : Yh) ≤ 4611686018427387904 then ((zaG O (a0.1, ()) a1.2.2.2.1).bind fun r4 => (if List.length ((((r1.1.1 ++ r2.1.1) ++ ([32, 58] : Yh)) ++ r3.1.1) ++ ([32, 58, 32] : Yh)) + List.length r4.1.1 ≤ 4611686018427387904 then (some (((((((r1.1.1 ++ r2.1.1) ++ ([32, 58] : Yh)) ++ r3.1.1) ++ ([32, 58, 32] : Yh)) ++ r4.1.1), ()), ())) else none)) else none) else none)) else none) else none)))
theorem zeY (a0) (a1) {r} (h : zbX M a0 a1 = some r) : za7 M a0 a1 = some r := fixC (E := E1) ((fun O => (by kernel_rfl : za7 (Φ E1 O) a0 a1 = zbX O a0 a1)) M) h
noncomputable def zck (O : Oracle E1) (a0 : Yh) : Option Yd :=
  (some ((a0, ()), ()))
theorem zen (a0) {r} (h : zck M a0 = some r) : zam M a0 = some r := fixC (E := E1) ((fun O => (by kernel_rfl : zam (Φ E1 O) a0 = zck O a0)) M) h
noncomputable def zau (O : Oracle E1) (a0 : Yg) (a1 : Int) (a2 : Ye) (a3 : Int) (a4 : Int) : Option ((Int × Unit) ⊕ Yc) :=
  (if (decide (a4 < a3)) = true then ((idx a2 a4).bind fun x1 => (if (a1 == 0) = true then (some (.inr ((false, ()), ()))) else (if (decide (x1 < (-12 : Int))) = true then (some (.inr ((false, ()), ()))) else (if (decide (x1 ≥ (a0.1.length : Int))) = true then (some (.inr ((false, ()), ()))) else ((zaf O (a0.1, ()) x1).bind fun r2 => (zN O (a0.1, ()) (i64.wrap (a1 + (i64.wrap (r2.1.1 - 1)))) a2 a3 (i64.wrap (a4 + 1)))))))) else (some (.inl (a1, ()))))
theorem zcw (a0) (a1) (a2) (a3) (a4) {r} (h : zau M a0 a1 a2 a3 a4 = some r) : zN M a0 a1 a2 a3 a4 = some r := fixL (E := E1) ((fun O => (by kernel_rfl : zN (Φ E1 O) a0 a1 a2 a3 a4 = zau O a0 a1 a2 a3 a4)) M) h
noncomputable def zcf (O : Oracle E1) (a0 : Yg) (a1 : Ye) : Option Yc :=
  (if (decide ((a1.length : Int) > (40 : Int))) = true then (some ((false, ()), ())) else ((zN O (a0.1, ()) (1 : Int) a1 (a1.length : Int) (0 : Int)).bind (Sum.elim (fun y1 => (some (((y1.1 == 0), ()), ()))) (fun r2 => (some r2)))))
theorem zfl (a0) (a1) {r} (h : zcf M a0 a1 = some r) : zaL M a0 a1 = some r := fixC (E := E1) ((fun O => (by kernel_rfl : zaL (Φ E1 O) a0 a1 = zcf O a0 a1)) M) h
noncomputable def zcz (O : Oracle E1) (a0 : Yg) (a1 : Ya) : Option Yc :=
  ((zaL O (a0.1, ()) a1.2.1).bind fun r1 => (if r1.1.1 = true then ((zaL O (a0.1, ()) a1.2.2.1).bind fun r2 => (some ((r2.1.1, ()), ()))) else (some ((false, ()), ()))))
theorem zfL (a0) (a1) {r} (h : zcz M a0 a1 = some r) : zbM M a0 a1 = some r := fixC (E := E1) ((fun O => (by kernel_rfl : zbM (Φ E1 O) a0 a1 = zcz O a0 a1)) M) h
noncomputable def zbF (O : Oracle E1) (a0 : Ya) (a1 : Yg) : Option Yc :=
  ((zbM O (a1.1, ()) (a0.1, a0.2.1, a0.2.2.1, ())).bind fun r1 => (some (((!r1.1.1), ()), ())))
theorem zeE (a0) (a1) {r} (h : zbF M a0 a1 = some r) : zaH M a0 a1 = some r := fixC (E := E1) ((fun O => (by kernel_rfl : zaH (Φ E1 O) a0 a1 = zbF O a0 a1)) M) h
noncomputable def za (O : Oracle E1) (a0 : List Ya) (a1 : Yg × Unit) (a2 : Int) (a3 : Int) : Option ((Unit) ⊕ Yf) :=
  (if (decide (a3 < a2)) = true then ((idx a0 a3).bind fun x1 => ((zaH O (x1.1, x1.2.1, x1.2.2.1, ()) a1.1).bind fun r2 => (if r2.1.1 = true then (some (.inr ((a3, ()), ()))) else (zb O a0 a1 a2 (i64.wrap (a3 + 1)))))) else (some (.inl ())))
theorem zr (a0) (a1) (a2) (a3) {r} (h : za M a0 a1 a2 a3 = some r) : zb M a0 a1 a2 a3 = some r := fixL (E := E1) ((fun O => (by kernel_rfl : zb (Φ E1 O) a0 a1 a2 a3 = za O a0 a1 a2 a3)) M) h
noncomputable def zk (O : Oracle E1) (a0 : List Ya) (a1 : Yg × Unit) : Option Yf :=
  ((zb O a0 a1 (a0.length : Int) (0 : Int)).bind (Sum.elim (fun y1 => (some (((-1 : Int), ()), ()))) (fun r2 => (some r2))))
theorem zO (a0) (a1) {r} (h : zk M a0 a1 = some r) : zy M a0 a1 = some r := fixC (E := E1) ((fun O => (by kernel_rfl : zy (Φ E1 O) a0 a1 = zk O a0 a1)) M) h
noncomputable def zu (O : Oracle E1) (a0 : List Ya) (a1 : Yg × Unit) : Option Yc :=
  ((zy O a0 a1).bind fun r1 => (some (((decide (r1.1.1 ≥ 0)), ()), ())))
theorem zai (a0) (a1) {r} (h : zu M a0 a1 = some r) : zg M a0 a1 = some r := fixC (E := E1) ((fun O => (by kernel_rfl : zg (Φ E1 O) a0 a1 = zu O a0 a1)) M) h
noncomputable def zb4 (O : Oracle E1) (a0 : Yg) (a1 : List Ya) : Option Yc :=
  (if (decide ((a1.length : Int) ≤ (8 : Int))) = true then ((zg O a1 ((a0.1, ()), ())).bind fun r1 => (some (((!r1.1.1), ()), ()))) else (some ((false, ()), ())))
theorem zeQ (a0) (a1) {r} (h : zb4 M a0 a1 = some r) : za3 M a0 a1 = some r := fixC (E := E1) ((fun O => (by kernel_rfl : za3 (Φ E1 O) a0 a1 = zb4 O a0 a1)) M) h
noncomputable def zT (O : Oracle E1) (a0 : List Ye) (a1 : Int) (a2 : List Ye) (a3 : Int) (a4 : Int) : Option (((List Ye) × Int × Unit) ⊕ Yk) :=
  (if (decide (a4 < a3)) = true then ((idx a2 a4).bind fun x1 => (if (decide ((i64.wrap (a1 + (x1.length : Int))) < (0 : Int))) = true then none else (zH O a0 (i64.wrap (a1 + (x1.length : Int))) a2 a3 (i64.wrap (a4 + 1))))) else (some (.inl (a0, a1, ()))))
theorem zaN (a0) (a1) (a2) (a3) (a4) {r} (h : zT M a0 a1 a2 a3 a4 = some r) : zH M a0 a1 a2 a3 a4 = some r := fixL (E := E1) ((fun O => (by kernel_rfl : zH (Φ E1 O) a0 a1 a2 a3 a4 = zT O a0 a1 a2 a3 a4)) M) h
noncomputable def zQ (O : Oracle E1) (a0 : Ye) (a1 : List Ye) (a2 : Int) (a3 : Int) : Option (Yg ⊕ Yk) :=
  (if (decide (a3 < a2)) = true then ((idx a1 a3).bind fun x1 => (if (List.length a0 + List.length x1) * 8 ≤ 140737488355328 then (zF O (a0 ++ x1) a1 a2 (i64.wrap (a3 + 1))) else none)) else (some (.inl (a0, ()))))
theorem zaC (a0) (a1) (a2) (a3) {r} (h : zQ M a0 a1 a2 a3 = some r) : zF M a0 a1 a2 a3 = some r := fixL (E := E1) ((fun O => (by kernel_rfl : zF (Φ E1 O) a0 a1 a2 a3 = zQ O a0 a1 a2 a3)) M) h
noncomputable def zbn (O : Oracle E1) (a0 : List Ye) : Option Yk :=
  ((zH O a0 (0 : Int) a0 (a0.length : Int) (0 : Int)).bind (Sum.elim (fun y1 => (if 0 ≤ y1.2.1 ∧ ((8 : Nat) : Int) * y1.2.1 ≤ 140737488355328 then ((zF O ([] : Ye) y1.1 (y1.1.length : Int) (0 : Int)).bind (Sum.elim (fun y3 => (some ((y3.1, ()), ()))) (fun r4 => (some r4)))) else none)) (fun r2 => (some r2))))
theorem zew (a0) {r} (h : zbn M a0 = some r) : zaw M a0 = some r := fixC (E := E1) ((fun O => (by kernel_rfl : zaw (Φ E1 O) a0 = zbn O a0)) M) h
noncomputable def zbZ (O : Oracle E1) (a0 : Int) : Option Yc :=
  (if (decide (a0 < 0)) = true then (some ((true, ()), ())) else (some (((decide (a0 > 999)), ()), ())))
theorem zeU (a0) {r} (h : zbZ M a0 = some r) : za4 M a0 = some r := fixC (E := E1) ((fun O => (by kernel_rfl : za4 (Φ E1 O) a0 = zbZ O a0)) M) h
noncomputable def zh (O : Oracle E1) (a0 : Ye) (a1 : Unit) (a2 : Int) (a3 : Int) : Option ((Unit) ⊕ Yf) :=
  (if (decide (a3 < a2)) = true then ((idx a0 a3).bind fun x1 => ((za4 O x1).bind fun r2 => (if r2.1.1 = true then (some (.inr ((a3, ()), ()))) else (zj O a0 a1 a2 (i64.wrap (a3 + 1)))))) else (some (.inl ())))
theorem zI (a0) (a1) (a2) (a3) {r} (h : zh M a0 a1 a2 a3 = some r) : zj M a0 a1 a2 a3 = some r := fixL (E := E1) ((fun O => (by kernel_rfl : zj (Φ E1 O) a0 a1 a2 a3 = zh O a0 a1 a2 a3)) M) h
noncomputable def zz (O : Oracle E1) (a0 : Ye) (a1 : Unit) : Option Yf :=
  ((zj O a0 a1 (a0.length : Int) (0 : Int)).bind (Sum.elim (fun y1 => (some (((-1 : Int), ()), ()))) (fun r2 => (some r2))))
theorem zaa (a0) (a1) {r} (h : zz M a0 a1 = some r) : zM M a0 a1 = some r := fixC (E := E1) ((fun O => (by kernel_rfl : zM (Φ E1 O) a0 a1 = zz O a0 a1)) M) h
noncomputable def zJ (O : Oracle E1) (a0 : Ye) (a1 : Unit) : Option Yc :=
  ((zM O a0 a1).bind fun r1 => (some (((decide (r1.1.1 ≥ 0)), ()), ())))
theorem zba (a0) (a1) {r} (h : zJ M a0 a1 = some r) : zt M a0 a1 = some r := fixC (E := E1) ((fun O => (by kernel_rfl : zt (Φ E1 O) a0 a1 = zJ O a0 a1)) M) h
noncomputable def zcm (O : Oracle E1) (a0 : Yg) (a1 : Yb) : Option Yc :=
  (if (decide (a1.1 ≥ 1)) = true then (if (decide (a1.1 ≤ 5)) = true then ((za3 O (a0.1, ()) a1.2.2.2.1).bind fun r1 => (if r1.1.1 = true then ((zaw O ([a1.2.1, a1.2.2.1] : List Ye)).bind fun r2 => ((zt O r2.1.1 ()).bind fun r3 => (some (((!r3.1.1), ()), ())))) else (some ((false, ()), ())))) else (some ((false, ()), ()))) else (some ((false, ()), ())))
theorem zfA (a0) (a1) {r} (h : zcm M a0 a1 = some r) : zby M a0 a1 = some r := fixC (E := E1) ((fun O => (by kernel_rfl : zby (Φ E1 O) a0 a1 = zcm O a0 a1)) M) h
noncomputable def zco (O : Oracle E1) (a0 : Yb) (a1 : Yg) : Option Yc :=
  ((zby O (a1.1, ()) (a0.1, a0.2.1, a0.2.2.1, a0.2.2.2.1, ())).bind fun r1 => (some (((!r1.1.1), ()), ())))
theorem zff (a0) (a1) {r} (h : zco M a0 a1 = some r) : zbB M a0 a1 = some r := fixC (E := E1) ((fun O => (by kernel_rfl : zbB (Φ E1 O) a0 a1 = zco O a0 a1)) M) h
noncomputable def zd (O : Oracle E1) (a0 : List Yb) (a1 : Yg × Unit) (a2 : Int) (a3 : Int) : Option ((Unit) ⊕ Yf) :=
  (if (decide (a3 < a2)) = true then ((idx a0 a3).bind fun x1 => ((zbB O (x1.1, x1.2.1, x1.2.2.1, x1.2.2.2.1, ()) a1.1).bind fun r2 => (if r2.1.1 = true then (some (.inr ((a3, ()), ()))) else (ze O a0 a1 a2 (i64.wrap (a3 + 1)))))) else (some (.inl ())))
theorem zw (a0) (a1) (a2) (a3) {r} (h : zd M a0 a1 a2 a3 = some r) : ze M a0 a1 a2 a3 = some r := fixL (E := E1) ((fun O => (by kernel_rfl : ze (Φ E1 O) a0 a1 a2 a3 = zd O a0 a1 a2 a3)) M) h
noncomputable def zo (O : Oracle E1) (a0 : List Yb) (a1 : Yg × Unit) : Option Yf :=
  ((ze O a0 a1 (a0.length : Int) (0 : Int)).bind (Sum.elim (fun y1 => (some (((-1 : Int), ()), ()))) (fun r2 => (some r2))))
theorem zR (a0) (a1) {r} (h : zo M a0 a1 = some r) : zC M a0 a1 = some r := fixC (E := E1) ((fun O => (by kernel_rfl : zC (Φ E1 O) a0 a1 = zo O a0 a1)) M) h
noncomputable def zx (O : Oracle E1) (a0 : List Yb) (a1 : Yg × Unit) : Option Yc :=
  ((zC O a0 a1).bind fun r1 => (some (((decide (r1.1.1 ≥ 0)), ()), ())))
theorem zap (a0) (a1) {r} (h : zx M a0 a1 = some r) : zi M a0 a1 = some r := fixC (E := E1) ((fun O => (by kernel_rfl : zi (Φ E1 O) a0 a1 = zx O a0 a1)) M) h
end Go.Proofs.YtpdbffngomlleaaDoorPt.Ev
