/- A text of its own: Eq3; no condition but those that each theorem names. -/
import Derived.Test.YtkgpnekonnopgaaGreatIrNm
import Derived.KernelRfl
namespace Go.Proofs.YtkgpnekonnopgaaGreatIr.Ev
open Go Go.IntKind
set_option maxRecDepth 100000
set_option autoImplicit false
set_option linter.unusedVariables false
noncomputable def zgl (O : Oracle E1) (a0 : Yf) (a1 : Yg) (a2 : Yb) (a3 : Int) : Option ((Unit) ⊕ Yz) :=
  ((zix O (a1.1, ()) a2 a0).bind fun r1 => (if (!r1.1.2.2.2.1) = true then (some (.inr ((a2, a3, ()), ()))) else (zeT O a0 (a1.1, ()) r1.1.1 (i64.wrap (a3 + 1)))))
theorem zlq (a0) (a1) (a2) (a3) {r} (h : zgl M a0 a1 a2 a3 = some r) : zeT M a0 a1 a2 a3 = some r := fixL (E := E1) ((fun O => (by kernel_rfl : zeT (Φ E1 O) a0 a1 a2 a3 = zgl O a0 a1 a2 a3)) M) h
noncomputable def zk0 (O : Oracle E1) (a0 : Yg) (a1 : Yb) (a2 : Yf) : Option Yz :=
  ((zbE O a1).bind fun r1 => ((zeT O a2 (a0.1, ()) r1.1.1 (0 : Int)).bind (Sum.elim (fun y2 => none) (fun r3 => (some r3)))))
theorem ztq (a0) (a1) (a2) {r} (h : zk0 M a0 a1 a2 = some r) : zeZ M a0 a1 a2 = some r := fixC (E := E1) ((fun O => (by kernel_rfl : zeZ (Φ E1 O) a0 a1 a2 = zk0 O a0 a1 a2)) M) h
noncomputable def zfP (O : Oracle E1) (a0 : Yf) (a1 : Yg) (a2 : Yf) (a3 : Int) (a4 : Yf) (a5 : Int) (a6 : Int) : Option ((Yf × Int × Unit) ⊕ Yk) :=
  (if (decide (a6 < a5)) = true then ((idx a4 a6).bind fun x1 => ((zeZ O (a1.1, ()) x1.2.1 a0).bind fun r2 => ((zeZ O (a1.1, ()) x1.2.2.1 a0).bind fun r3 => (if (List.length a2 + List.length ([(x1.1, r2.1.1, r3.1.1, ())] : Yf)) * 56 ≤ 140737488355328 then (zed O a0 (a1.1, ()) (a2 ++ ([(x1.1, r2.1.1, r3.1.1, ())] : Yf)) (i64.wrap (a3 + (i64.wrap (r2.1.2.1 + r3.1.2.1)))) a4 a5 (i64.wrap (a6 + 1))) else none)))) else (some (.inl (a2, a3, ()))))
theorem zlm (a0) (a1) (a2) (a3) (a4) (a5) (a6) {r} (h : zfP M a0 a1 a2 a3 a4 a5 a6 = some r) : zed M a0 a1 a2 a3 a4 a5 a6 = some r := fixL (E := E1) ((fun O => (by kernel_rfl : zed (Φ E1 O) a0 a1 a2 a3 a4 a5 a6 = zfP O a0 a1 a2 a3 a4 a5 a6)) M) h
noncomputable def zlg (O : Oracle E1) (a0 : Yg) (a1 : Yf) (a2 : Yf) : Option Yk :=
  ((zed O a2 (a0.1, ()) [] (0 : Int) a1 (a1.length : Int) (0 : Int)).bind (Sum.elim (fun y1 => ((zbh O y1.1).bind fun r3 => (some ((r3.1.1, y1.2.1, ()), ())))) (fun r2 => (some r2))))
theorem ztf (a0) (a1) (a2) {r} (h : zlg M a0 a1 a2 = some r) : ziZ M a0 a1 a2 = some r := fixC (E := E1) ((fun O => (by kernel_rfl : ziZ (Φ E1 O) a0 a1 a2 = zlg O a0 a1 a2)) M) h
noncomputable def zhH (O : Oracle E1) (a0 : YD) (a1 : YE) (a2 : Int) (a3 : Yb) (a4 : Yg) (a5 : YD) (a6 : Yb) (a7 : Int) (a8 : Int) : Option ((YD × Int × Yb × Yg × YD × Unit) ⊕ Yl) :=
  (if (decide (a8 < a7)) = true then ((idx a6 a8).bind fun x1 => ((zaL O x1 (0 : Int) (i64.wrap ((a1.length : Int) - (1 : Int)))).bind fun r2 => (if (!r2.1.1) = true then (some (.inr (([], false, ()), ()))) else ((idx a1 x1).bind fun x3 => (if (List.length a5 + List.length ([x3.2.2.2.1] : YD)) * 24 ≤ 140737488355328 then (zgc O a0 a1 a2 a3 (a4.1, ()) (a5 ++ ([x3.2.2.2.1] : YD)) a6 a7 (i64.wrap (a8 + 1))) else none))))) else (some (.inl (a0, a2, a3, (a4.1, ()), a5, ()))))
theorem zni (a0) (a1) (a2) (a3) (a4) (a5) (a6) (a7) (a8) {r} (h : zhH M a0 a1 a2 a3 a4 a5 a6 a7 a8 = some r) : zgc M a0 a1 a2 a3 a4 a5 a6 a7 a8 = some r := fixL (E := E1) ((fun O => (by kernel_rfl : zgc (Φ E1 O) a0 a1 a2 a3 a4 a5 a6 a7 a8 = zhH O a0 a1 a2 a3 a4 a5 a6 a7 a8)) M) h
noncomputable def zev (O : Oracle E1) (a0 : Yg) (a1 : YD) (a2 : Yf) (a3 : YD) (a4 : Int) (a5 : Int) : Option ((Yg × YD × Yf × Unit) ⊕ Yl) :=
  (if (decide (a5 < a4)) = true then ((idx a3 a5).bind fun x1 => ((zks O x1).bind fun r2 => (if (!r2.1.1) = true then (some (.inr (([], false, ()), ()))) else ((idx x1 (0 : Int)).bind fun x3 => (if (List.length a2 + List.length ([(x3.1, x3.2.1, x3.2.2.1, ())] : Yf)) * 56 ≤ 140737488355328 then (zdh O (a0.1, ()) a1 (a2 ++ ([(x3.1, x3.2.1, x3.2.2.1, ())] : Yf)) a3 a4 (i64.wrap (a5 + 1))) else none))))) else (some (.inl ((a0.1, ()), a1, a2, ()))))
theorem zj1 (a0) (a1) (a2) (a3) (a4) (a5) {r} (h : zev M a0 a1 a2 a3 a4 a5 = some r) : zdh M a0 a1 a2 a3 a4 a5 = some r := fixL (E := E1) ((fun O => (by kernel_rfl : zdh (Φ E1 O) a0 a1 a2 a3 a4 a5 = zev O a0 a1 a2 a3 a4 a5)) M) h
noncomputable def z5 (O : Oracle E1) (a0 : Yg) (a1 : YD) (a2 : YE) (a3 : Int) (a4 : Yb) (a5 : Yb) : Option Yl :=
  ((zgc O a1 a2 a3 a5 (a0.1, ()) [] a4 (a4.length : Int) (0 : Int)).bind (Sum.elim (fun y1 => (((((if (y1.2.1 == 1) = true then (if ((y1.2.2.2.2.1.length : Int) == (0 : Int)) = true then (if ((y1.2.2.1.length : Int) == (1 : Int)) = true then ((idx y1.2.2.1 (0 : Int)).bind fun x5 => ((zaL O x5 (0 : Int) (i64.wrap ((y1.1.length : Int) - (1 : Int)))).bind fun r6 => (some (.inl (y1.1, y1.2.1, y1.2.2.1, (y1.2.2.2.1.1, ()), y1.2.2.2.2.1, [], (1 : Int), r6.1.1, ()))))) else (some (.inl (y1.1, y1.2.1, y1.2.2.1, (y1.2.2.2.1.1, ()), y1.2.2.2.2.1, [], (1 : Int), false, ())))) else (some (.inl (y1.1, y1.2.1, y1.2.2.1, (y1.2.2.2.1.1, ()), y1.2.2.2.2.1, [], (1 : Int), false, ())))) else (some (.inl (y1.1, y1.2.1, y1.2.2.1, (y1.2.2.2.1.1, ()), y1.2.2.2.2.1, [], (1 : Int), false, ())))) : Option ((YD × Int × Yb × Yg × YD × Yf × Int × Bool × Unit) ⊕ Yt)).bind (Sum.elim (fun q4 => (if q4.2.2.2.2.2.2.2.1 = true then ((idx q4.2.2.1 (0 : Int)).bind fun x7 => ((idx q4.1 x7).bind fun x8 => ((zbh O x8).bind fun r9 => ((some ((r9.1.1, true, ()), ())).map .inr)))) else (((if (q4.2.1 == 2) = true then (if ((q4.2.2.2.2.1.length : Int) == (2 : Int)) = true then (some (.inl (q4.2.1, q4.2.2.1, (q4.2.2.2.1.1, ()), q4.2.2.2.2.1, q4.2.2.2.2.2.1, q4.2.2.2.2.2.2.1, ((q4.2.2.1.length : Int) == (5 : Int)), ()))) else (some (.inl (q4.2.1, q4.2.2.1, (q4.2.2.2.1.1, ()), q4.2.2.2.2.1, q4.2.2.2.2.2.1, q4.2.2.2.2.2.2.1, false, ())))) else (some (.inl (q4.2.1, q4.2.2.1, (q4.2.2.2.1.1, ()), q4.2.2.2.2.1, q4.2.2.2.2.2.1, q4.2.2.2.2.2.2.1, false, ())))) : Option YG).bind (Sum.elim (fun q10 => (if q10.2.2.2.2.2.2.1 = true then (if 0 ≤ (0 : Int) ∧ (0 : Int) < (q10.2.2.2.1.length : Int) then ((q10.2.2.2.1[(Int.toNat (0 : Int))]?).bind fun x11 => (if 0 ≤ (1 : Int) ∧ (1 : Int) < (q10.2.2.2.1.length : Int) then ((q10.2.2.2.1[(Int.toNat (1 : Int))]?).bind fun x12 => ((idx q10.2.1 (0 : Int)).bind fun x13 => ((idx q10.2.1 (1 : Int)).bind fun x14 => ((idx q10.2.1 (2 : Int)).bind fun x15 => ((idx q10.2.1 (3 : Int)).bind fun x16 => ((idx q10.2.1 (4 : Int)).bind fun x17 => ((zdf O (q10.2.2.1.1, ()) x11 x12 (x13, x14, x15, x16, x17, ())).bind fun r18 => (some (.inl (r18.1.1, r18.1.2.1, ())))))))))) else none)) else none) else (((if (q10.1 == 3) = true then (if ((q10.2.2.2.1.length : Int) == (1 : Int)) = true then (some (.inl (q10.1, q10.2.1, (q10.2.2.1.1, ()), q10.2.2.2.1, q10.2.2.2.2.1, q10.2.2.2.2.2.1, ((q10.2.1.length : Int) == (1 : Int)), ()))) else (some (.inl (q10.1, q10.2.1, (q10.2.2.1.1, ()), q10.2.2.2.1, q10.2.2.2.2.1, q10.2.2.2.2.2.1, false, ())))) else (some (.inl (q10.1, q10.2.1, (q10.2.2.1.1, ()), q10.2.2.2.1, q10.2.2.2.2.1, q10.2.2.2.2.2.1, false, ())))) : Option YG).bind (Sum.elim (fun q19 => (if q19.2.2.2.2.2.2.1 = true then (if 0 ≤ (0 : Int) ∧ (0 : Int) < (q19.2.2.2.1.length : Int) then ((q19.2.2.2.1[(Int.toNat (0 : Int))]?).bind fun x20 => ((idx q19.2.1 (0 : Int)).bind fun x21 => ((zem O (q19.2.2.1.1, ()) x20 x21).bind fun r22 => (some (.inl (r22.1.1, r22.1.2.1, ())))))) else none) else (((if (q19.1 == 4) = true then (if ((q19.2.2.2.1.length : Int) == (1 : Int)) = true then (some (.inl (q19.1, q19.2.1, (q19.2.2.1.1, ()), q19.2.2.2.1, q19.2.2.2.2.1, q19.2.2.2.2.2.1, ((q19.2.1.length : Int) == (4 : Int)), ()))) else (some (.inl (q19.1, q19.2.1, (q19.2.2.1.1, ()), q19.2.2.2.1, q19.2.2.2.2.1, q19.2.2.2.2.2.1, false, ())))) else (some (.inl (q19.1, q19.2.1, (q19.2.2.1.1, ()), q19.2.2.2.1, q19.2.2.2.2.1, q19.2.2.2.2.2.1, false, ())))) : Option YG).bind (Sum.elim (fun q23 => (if q23.2.2.2.2.2.2.1 = true then (if 0 ≤ (0 : Int) ∧ (0 : Int) < (q23.2.2.2.1.length : Int) then ((q23.2.2.2.1[(Int.toNat (0 : Int))]?).bind fun x24 => ((idx q23.2.1 (0 : Int)).bind fun x25 => ((idx q23.2.1 (1 : Int)).bind fun x26 => ((idx q23.2.1 (2 : Int)).bind fun x27 => ((idx q23.2.1 (3 : Int)).bind fun x28 => ((zfe O (q23.2.2.1.1, ()) x24 (x25, x26, x27, x28, (0 : Int), ())).bind fun r29 => (some (.inl (r29.1.1, r29.1.2.1, ()))))))))) else none) else (((if (q23.1 == 5) = true then ((zaL O (q23.2.2.2.1.length : Int) (1 : Int) (11 : Int)).bind fun r31 => (if r31.1.1 = true then (some (.inl ((q23.2.2.1.1, ()), q23.2.2.2.1, q23.2.2.2.2.1, q23.2.2.2.2.2.1, ((q23.2.1.length : Int) == (0 : Int)), ()))) else (some (.inl ((q23.2.2.1.1, ()), q23.2.2.2.1, q23.2.2.2.2.1, q23.2.2.2.2.2.1, false, ()))))) else (some (.inl ((q23.2.2.1.1, ()), q23.2.2.2.1, q23.2.2.2.2.1, q23.2.2.2.2.2.1, false, ())))) : Option ((Yg × YD × Yf × Int × Bool × Unit) ⊕ Yt)).bind (Sum.elim (fun q30 => (if q30.2.2.2.2.1 = true then (if 0 ≤ (1 : Int) ∧ (1 : Int) ≤ (q30.2.1.length : Int) ∧ (q30.2.1.length : Int) ≤ (q30.2.1.length : Int) then ((zdh O (q30.1.1, ()) q30.2.1 [] ((q30.2.1.take (Int.toNat (q30.2.1.length : Int))).drop (Int.toNat (1 : Int))) (List.length ((q30.2.1.take (Int.toNat (q30.2.1.length : Int))).drop (Int.toNat (1 : Int))) : Int) (0 : Int)).bind (Sum.elim (fun y32 => ((idx y32.2.1 (0 : Int)).bind fun x34 => ((ziZ O (y32.1.1, ()) x34 y32.2.2.1).bind fun r35 => ((some ((r35.1.1, true, ()), ())).map .inr)))) (fun r33 => ((some r33).map .inr)))) else none) else (some (.inl (q30.2.2.1, q30.2.2.2.1, ()))))) (fun r => some r))))) (fun r => some r))))) (fun r => some r))))) (fun r => some r))))) (fun r => some r))) : Option Yt).bind (Sum.elim (fun q3 => (((if (q3.2.1 == 0) = true then (some (.inl (q3.1, true, ()))) else (some (.inl (q3.1, (q3.2.1 == 5), ())))) : Option ((Yf × Bool × Unit) ⊕ (Yf × Bool × Unit) × (Unit))).bind (Sum.elim (fun q36 => (some ((q36.1, q36.2.1, ()), ()))) (fun r => some r)))) (fun r => some r)))) (fun r2 => (some r2))))
theorem zah (a0) (a1) (a2) (a3) (a4) (a5) {r} (h : z5 M a0 a1 a2 a3 a4 a5 = some r) : zkj M a0 a1 a2 a3 a4 a5 = some r := fixC (E := E1) ((fun O => (by kernel_rfl : zkj (Φ E1 O) a0 a1 a2 a3 a4 a5 = z5 O a0 a1 a2 a3 a4 a5)) M) h
noncomputable def zeX (O : Oracle E1) (a0 : Yf) (a1 : Yf) (a2 : Int) (a3 : Int) : Option Yq :=
  (if (decide (a3 < a2)) = true then ((idx a0 a3).bind fun x1 => ((idx a1 a3).bind fun x2 => (if (!(x1.1 == x2.1)) = true then (some (.inr ((false, ()), ()))) else ((idx a0 a3).bind fun x3 => ((idx a1 a3).bind fun x4 => ((za1 O x3.2.1 x4.2.1).bind fun r5 => (if (!r5.1.1) = true then (some (.inr ((false, ()), ()))) else ((idx a0 a3).bind fun x6 => ((idx a1 a3).bind fun x7 => ((za1 O x6.2.2.1 x7.2.2.1).bind fun r8 => (if (!r8.1.1) = true then (some (.inr ((false, ()), ()))) else (zdO O a0 a1 a2 (i64.wrap (a3 + 1)))))))))))))) else (some (.inl ())))
theorem zkI (a0) (a1) (a2) (a3) {r} (h : zeX M a0 a1 a2 a3 = some r) : zdO M a0 a1 a2 a3 = some r := fixL (E := E1) ((fun O => (by kernel_rfl : zdO (Φ E1 O) a0 a1 a2 a3 = zeX O a0 a1 a2 a3)) M) h
noncomputable def zjU (O : Oracle E1) (a0 : Yf) (a1 : Yf) : Option Yc :=
  (if ((a0.length : Int) != (a1.length : Int)) = true then (some ((false, ()), ())) else ((zdO O a0 a1 (a0.length : Int) (0 : Int)).bind (Sum.elim (fun y1 => (some ((true, ()), ()))) (fun r2 => (some r2)))))
theorem zrW (a0) (a1) {r} (h : zjU M a0 a1 = some r) : zhK M a0 a1 = some r := fixC (E := E1) ((fun O => (by kernel_rfl : zhK (Φ E1 O) a0 a1 = zjU O a0 a1)) M) h
noncomputable def zgE (O : Oracle E1) (a0 : Yg) (a1 : YD) (a2 : YE) (a3 : Int) : Option Ye :=
  ((idx a2 a3).bind fun x1 => ((zge O x1.2.1 (0 : Int) (i64.wrap (a3 - 1))).bind fun r2 => (if (!r2.1.1) = true then (some (((2 : Int), ()), ())) else (if 0 ≤ (0 : Int) ∧ (0 : Int) ≤ a3 ∧ a3 ≤ (a2.length : Int) then ((zkj O (a0.1, ()) a1 ((a2.take a3.toNat).drop (Int.toNat (0 : Int))) x1.1 x1.2.1 x1.2.2.1).bind fun r3 => (if (!r3.1.2.1) = true then (some (((3 : Int), ()), ())) else ((zhK O r3.1.1 x1.2.2.2.1).bind fun r4 => (if (!r4.1.1) = true then (some (((4 : Int), ()), ())) else (some (((0 : Int), ()), ())))))) else none))))
theorem zkl (a0) (a1) (a2) (a3) {r} (h : zgE M a0 a1 a2 a3 = some r) : zka M a0 a1 a2 a3 = some r := fixC (E := E1) ((fun O => (by kernel_rfl : zka (Φ E1 O) a0 a1 a2 a3 = zgE O a0 a1 a2 a3)) M) h
noncomputable def zdg (O : Oracle E1) (a0 : YD) (a1 : YE) (a2 : Yg) (a3 : Int) (a4 : Int) : Option ((Unit) ⊕ ((Int × Int × Unit) × (Unit))) :=
  (if (decide (a4 < a3)) = true then ((zka O (a2.1, ()) a0 a1 a4).bind fun r1 => (if (r1.1.1 != 0) = true then (some (.inr ((r1.1.1, a4, ()), ()))) else (zcz O a0 a1 (a2.1, ()) a3 (i64.wrap (a4 + 1))))) else (some (.inl ())))
theorem zhe (a0) (a1) (a2) (a3) (a4) {r} (h : zdg M a0 a1 a2 a3 a4 = some r) : zcz M a0 a1 a2 a3 a4 = some r := fixL (E := E1) ((fun O => (by kernel_rfl : zcz (Φ E1 O) a0 a1 a2 a3 a4 = zdg O a0 a1 a2 a3 a4)) M) h
noncomputable def zhL (O : Oracle E1) (a0 : Yg) (a1 : YD) (a2 : YE) : Option ((Int × Int × Unit) × (Unit)) :=
  (if (decide ((a2.length : Int) > (200 : Int))) = true then (some (((1 : Int), (0 : Int), ()), ())) else ((zcz O a1 a2 (a0.1, ()) (a2.length : Int) (0 : Int)).bind (Sum.elim (fun y1 => (some (((0 : Int), (0 : Int), ()), ()))) (fun r2 => (some r2)))))
theorem zlw (a0) (a1) (a2) {r} (h : zhL M a0 a1 a2 = some r) : zju M a0 a1 a2 = some r := fixC (E := E1) ((fun O => (by kernel_rfl : zju (Φ E1 O) a0 a1 a2 = zhL O a0 a1 a2)) M) h
noncomputable def zgV (O : Oracle E1) (a0 : YE) (a1 : Yg) (a2 : YE) (a3 : Int) (a4 : Int) : Option ((YE × Yg × Unit) ⊕ Yc) :=
  (if (decide (a4 < a3)) = true then ((idx a2 a4).bind fun x1 => ((zaX O (a1.1, ()) x1.2.2.2.1).bind fun r2 => (if (!r2.1.1) = true then (some (.inr ((false, ()), ()))) else (zfp O a0 (a1.1, ()) a2 a3 (i64.wrap (a4 + 1)))))) else (some (.inl (a0, (a1.1, ()), ()))))
theorem zmo (a0) (a1) (a2) (a3) (a4) {r} (h : zgV M a0 a1 a2 a3 a4 = some r) : zfp M a0 a1 a2 a3 a4 = some r := fixL (E := E1) ((fun O => (by kernel_rfl : zfp (Φ E1 O) a0 a1 a2 a3 a4 = zgV O a0 a1 a2 a3 a4)) M) h
noncomputable def zlB (O : Oracle E1) (a0 : Yg) (a1 : YE) : Option Yc :=
  ((zfp O a1 (a0.1, ()) a1 (a1.length : Int) (0 : Int)).bind (Sum.elim (fun y1 => ((zgR O (y1.2.1.1, ())).bind fun r3 => (if r3.1.1 = true then (some (((decide ((y1.1.length : Int) ≤ (200 : Int))), ()), ())) else (some ((false, ()), ()))))) (fun r2 => (some r2))))
theorem zus (a0) (a1) {r} (h : zlB M a0 a1 = some r) : zjI M a0 a1 = some r := fixC (E := E1) ((fun O => (by kernel_rfl : zjI (Φ E1 O) a0 a1 = zlB O a0 a1)) M) h
noncomputable def zdn (O : Oracle E1) (a0 : YE) (a1 : Yg) (a2 : YE) (a3 : Int) (a4 : Int) : Option ((YE × Yg × Unit) ⊕ Yc) :=
  (if (decide (a4 < a3)) = true then ((idx a2 a4).bind fun x1 => (if (decide (a4 ≥ 200)) = true then (some (.inr ((false, ()), ()))) else ((zge O x1.2.1 (0 : Int) (i64.wrap (a4 - 1))).bind fun r2 => (if (!r2.1.1) = true then (some (.inr ((false, ()), ()))) else (zdW O a0 (a1.1, ()) a2 a3 (i64.wrap (a4 + 1))))))) else (some (.inl (a0, (a1.1, ()), ()))))
theorem zgQ (a0) (a1) (a2) (a3) (a4) {r} (h : zdn M a0 a1 a2 a3 a4 = some r) : zdW M a0 a1 a2 a3 a4 = some r := fixL (E := E1) ((fun O => (by kernel_rfl : zdW (Φ E1 O) a0 a1 a2 a3 a4 = zdn O a0 a1 a2 a3 a4)) M) h
noncomputable def zjz (O : Oracle E1) (a0 : Yg) (a1 : YE) : Option Yc :=
  ((zdW O a1 (a0.1, ()) a1 (a1.length : Int) (0 : Int)).bind (Sum.elim (fun y1 => ((zjI O (y1.2.1.1, ()) y1.1).bind fun r3 => (some ((r3.1.1, ()), ())))) (fun r2 => (some r2))))
theorem zo0 (a0) (a1) {r} (h : zjz M a0 a1 = some r) : zjA M a0 a1 = some r := fixC (E := E1) ((fun O => (by kernel_rfl : zjA (Φ E1 O) a0 a1 = zjz O a0 a1)) M) h
noncomputable def zdd (O : Oracle E1) (a0 : YE) (a1 : Int) (a2 : Int) : Option Ys :=
  (if (decide (a2 < a1)) = true then ((idx a0 a2).bind fun x1 => (if ((x1.2.2.2.1.length : Int) == (0 : Int)) = true then (some (.inr ((a2, ()), ()))) else (zcA O a0 a1 (i64.wrap (a2 + 1))))) else (some (.inl ())))
theorem zg2 (a0) (a1) (a2) {r} (h : zdd M a0 a1 a2 = some r) : zcA M a0 a1 a2 = some r := fixL (E := E1) ((fun O => (by kernel_rfl : zcA (Φ E1 O) a0 a1 a2 = zdd O a0 a1 a2)) M) h
noncomputable def zjH (O : Oracle E1) (a0 : YE) : Option Ye :=
  ((zcA O a0 (a0.length : Int) (0 : Int)).bind (Sum.elim (fun y1 => (some (((-1 : Int), ()), ()))) (fun r2 => (some r2))))
theorem zpe (a0) {r} (h : zjH M a0 = some r) : zjw M a0 = some r := fixC (E := E1) ((fun O => (by kernel_rfl : zjw (Φ E1 O) a0 = zjH O a0)) M) h
noncomputable def zeo (O : Oracle E1) (a0 : Yg) (a1 : YD) (a2 : YE) : Option YM :=
  ((zfc O (a0.1, ()) a1).bind fun r1 => (if (!r1.1.1) = true then (some ((false, false, ()), ())) else ((zjA O (a0.1, ()) a2).bind fun r2 => (if (!r2.1.1) = true then (some ((false, false, ()), ())) else ((zju O (a0.1, ()) a1 a2).bind fun r3 => (if (r3.1.1 == 0) = true then ((zjw O a2).bind fun r4 => (some (((decide (r4.1.1 ≥ 0)), true, ()), ()))) else (some ((false, true, ()), ()))))))))
theorem zik (a0) (a1) (a2) {r} (h : zeo M a0 a1 a2 = some r) : zig M a0 a1 a2 = some r := fixC (E := E1) ((fun O => (by kernel_rfl : zig (Φ E1 O) a0 a1 a2 = zeo O a0 a1 a2)) M) h
noncomputable def zjR (O : Oracle E1) (a0 : Int) : Option Yc :=
  (if (decide (a0 < 0)) = true then (some ((true, ()), ())) else (some (((decide (a0 > 3)), ()), ())))
theorem zr3 (a0) {r} (h : zjR M a0 = some r) : zhs M a0 = some r := fixC (E := E1) ((fun O => (by kernel_rfl : zhs (Φ E1 O) a0 = zjR O a0)) M) h
noncomputable def z8 (O : Oracle E1) (a0 : Yb) (a1 : Unit) (a2 : Int) (a3 : Int) : Option Ys :=
  (if (decide (a3 < a2)) = true then ((idx a0 a3).bind fun x1 => ((zhs O x1).bind fun r2 => (if r2.1.1 = true then (some (.inr ((a3, ()), ()))) else (zaa O a0 a1 a2 (i64.wrap (a3 + 1)))))) else (some (.inl ())))
theorem zbl (a0) (a1) (a2) (a3) {r} (h : z8 M a0 a1 a2 a3 = some r) : zaa M a0 a1 a2 a3 = some r := fixL (E := E1) ((fun O => (by kernel_rfl : zaa (Φ E1 O) a0 a1 a2 a3 = z8 O a0 a1 a2 a3)) M) h
noncomputable def zaT (O : Oracle E1) (a0 : Yb) (a1 : Unit) : Option Ye :=
  ((zaa O a0 a1 (a0.length : Int) (0 : Int)).bind (Sum.elim (fun y1 => (some (((-1 : Int), ()), ()))) (fun r2 => (some r2))))
theorem zcY (a0) (a1) {r} (h : zaT M a0 a1 = some r) : zbA M a0 a1 = some r := fixC (E := E1) ((fun O => (by kernel_rfl : zbA (Φ E1 O) a0 a1 = zaT O a0 a1)) M) h
noncomputable def zbo (O : Oracle E1) (a0 : Yb) (a1 : Unit) : Option Yc :=
  ((zbA O a0 a1).bind fun r1 => (some (((decide (r1.1.1 ≥ 0)), ()), ())))
theorem zgy (a0) (a1) {r} (h : zbo M a0 a1 = some r) : zaD M a0 a1 = some r := fixC (E := E1) ((fun O => (by kernel_rfl : zaD (Φ E1 O) a0 a1 = zbo O a0 a1)) M) h
noncomputable def zkP (O : Oracle E1) (a0 : Yg) : Option Yc :=
  (if (decide ((a0.1.length : Int) < (1 : Int))) = true then (some ((false, ()), ())) else (if (decide ((a0.1.length : Int) > (10 : Int))) = true then (some ((false, ()), ())) else ((idx a0.1 (0 : Int)).bind fun x1 => (if (x1 != 0) = true then (some ((false, ()), ())) else ((zaD O a0.1 ()).bind fun r2 => (some (((!r2.1.1), ()), ())))))))
theorem ztt (a0) {r} (h : zkP M a0 = some r) : zgJ M a0 = some r := fixC (E := E1) ((fun O => (by kernel_rfl : zgJ (Φ E1 O) a0 = zkP O a0)) M) h
noncomputable def zkD (O : Oracle E1) (a0 : Yg) (a1 : Int) : Option Ye :=
  (if (decide (a1 < 0)) = true then (some (((0 : Int), ()), ())) else ((idx a0.1 a1).bind fun x1 => (some ((x1, ()), ()))))
theorem zsI (a0) (a1) {r} (h : zkD M a0 a1 = some r) : zep M a0 a1 = some r := fixC (E := E1) ((fun O => (by kernel_rfl : zep (Φ E1 O) a0 a1 = zkD O a0 a1)) M) h
noncomputable def zd4 (O : Oracle E1) (a0 : Yg) (a1 : Int) (a2 : Yb) (a3 : Int) (a4 : Int) : Option ((Int × Unit) ⊕ Yc) :=
  (if (decide (a4 < a3)) = true then ((idx a2 a4).bind fun x1 => (if (a1 == 0) = true then (some (.inr ((false, ()), ()))) else (if (decide (x1 < (-12 : Int))) = true then (some (.inr ((false, ()), ()))) else (if (decide (x1 ≥ (a0.1.length : Int))) = true then (some (.inr ((false, ()), ()))) else ((zep O (a0.1, ()) x1).bind fun r2 => (zbw O (a0.1, ()) (i64.wrap (a1 + (i64.wrap (r2.1.1 - 1)))) a2 a3 (i64.wrap (a4 + 1)))))))) else (some (.inl (a1, ()))))
theorem zjN (a0) (a1) (a2) (a3) (a4) {r} (h : zd4 M a0 a1 a2 a3 a4 = some r) : zbw M a0 a1 a2 a3 a4 = some r := fixL (E := E1) ((fun O => (by kernel_rfl : zbw (Φ E1 O) a0 a1 a2 a3 a4 = zd4 O a0 a1 a2 a3 a4)) M) h
noncomputable def zjb (O : Oracle E1) (a0 : Yg) (a1 : Yb) : Option Yc :=
  (if (decide ((a1.length : Int) > (40 : Int))) = true then (some ((false, ()), ())) else ((zbw O (a0.1, ()) (1 : Int) a1 (a1.length : Int) (0 : Int)).bind (Sum.elim (fun y1 => (some (((y1.1 == 0), ()), ()))) (fun r2 => (some r2)))))
theorem zrH (a0) (a1) {r} (h : zjb M a0 a1 = some r) : zdp M a0 a1 = some r := fixC (E := E1) ((fun O => (by kernel_rfl : zdp (Φ E1 O) a0 a1 = zjb O a0 a1)) M) h
noncomputable def zjS (O : Oracle E1) (a0 : Yg) (a1 : Ya) : Option Yc :=
  ((zdp O (a0.1, ()) a1.2.1).bind fun r1 => (if r1.1.1 = true then ((zdp O (a0.1, ()) a1.2.2.1).bind fun r2 => (some ((r2.1.1, ()), ()))) else (some ((false, ()), ()))))
theorem zse (a0) (a1) {r} (h : zjS M a0 a1 = some r) : zhG M a0 a1 = some r := fixC (E := E1) ((fun O => (by kernel_rfl : zhG (Φ E1 O) a0 a1 = zjS O a0 a1)) M) h
noncomputable def zhm (O : Oracle E1) (a0 : Ya) (a1 : Yg) : Option Yc :=
  ((zhG O (a1.1, ()) (a0.1, a0.2.1, a0.2.2.1, ())).bind fun r1 => (some (((!r1.1.1), ()), ())))
theorem zoP (a0) (a1) {r} (h : zhm M a0 a1 = some r) : zeC M a0 a1 = some r := fixC (E := E1) ((fun O => (by kernel_rfl : zeC (Φ E1 O) a0 a1 = zhm O a0 a1)) M) h
noncomputable def zw (O : Oracle E1) (a0 : Yf) (a1 : Yg × Unit) (a2 : Int) (a3 : Int) : Option Ys :=
  (if (decide (a3 < a2)) = true then ((idx a0 a3).bind fun x1 => ((zeC O (x1.1, x1.2.1, x1.2.2.1, ()) a1.1).bind fun r2 => (if r2.1.1 = true then (some (.inr ((a3, ()), ()))) else (zz O a0 a1 a2 (i64.wrap (a3 + 1)))))) else (some (.inl ())))
theorem zaq (a0) (a1) (a2) (a3) {r} (h : zw M a0 a1 a2 a3 = some r) : zz M a0 a1 a2 a3 = some r := fixL (E := E1) ((fun O => (by kernel_rfl : zz (Φ E1 O) a0 a1 a2 a3 = zw O a0 a1 a2 a3)) M) h
noncomputable def zY (O : Oracle E1) (a0 : Yf) (a1 : Yg × Unit) : Option Ye :=
  ((zz O a0 a1 (a0.length : Int) (0 : Int)).bind (Sum.elim (fun y1 => (some (((-1 : Int), ()), ()))) (fun r2 => (some r2))))
theorem zbz (a0) (a1) {r} (h : zY M a0 a1 = some r) : zaC M a0 a1 = some r := fixC (E := E1) ((fun O => (by kernel_rfl : zaC (Φ E1 O) a0 a1 = zY O a0 a1)) M) h
noncomputable def zau (O : Oracle E1) (a0 : Yf) (a1 : Yg × Unit) : Option Yc :=
  ((zaC O a0 a1).bind fun r1 => (some (((decide (r1.1.1 ≥ 0)), ()), ())))
theorem zdv (a0) (a1) {r} (h : zau M a0 a1 = some r) : zR M a0 a1 = some r := fixC (E := E1) ((fun O => (by kernel_rfl : zR (Φ E1 O) a0 a1 = zau O a0 a1)) M) h
noncomputable def zie (O : Oracle E1) (a0 : Yg) (a1 : Yf) : Option Yc :=
  (if (decide ((a1.length : Int) ≤ (8 : Int))) = true then ((zR O a1 ((a0.1, ()), ())).bind fun r1 => (some (((!r1.1.1), ()), ()))) else (some ((false, ()), ())))
theorem zp5 (a0) (a1) {r} (h : zie M a0 a1 = some r) : zdF M a0 a1 = some r := fixC (E := E1) ((fun O => (by kernel_rfl : zdF (Φ E1 O) a0 a1 = zie O a0 a1)) M) h
noncomputable def zd1 (O : Oracle E1) (a0 : Yf) (a1 : Yg) : Option Yc :=
  ((zdF O (a1.1, ()) a0).bind fun r1 => (some (((!r1.1.1), ()), ())))
theorem zjL (a0) (a1) {r} (h : zd1 M a0 a1 = some r) : zcw M a0 a1 = some r := fixC (E := E1) ((fun O => (by kernel_rfl : zcw (Φ E1 O) a0 a1 = zd1 O a0 a1)) M) h
noncomputable def ze (O : Oracle E1) (a0 : YD) (a1 : Yg × Unit) (a2 : Int) (a3 : Int) : Option Ys :=
  (if (decide (a3 < a2)) = true then ((idx a0 a3).bind fun x1 => ((zcw O x1 a1.1).bind fun r2 => (if r2.1.1 = true then (some (.inr ((a3, ()), ()))) else (zj O a0 a1 a2 (i64.wrap (a3 + 1)))))) else (some (.inl ())))
theorem zi (a0) (a1) (a2) (a3) {r} (h : ze M a0 a1 a2 a3 = some r) : zj M a0 a1 a2 a3 = some r := fixL (E := E1) ((fun O => (by kernel_rfl : zj (Φ E1 O) a0 a1 a2 a3 = ze O a0 a1 a2 a3)) M) h
noncomputable def zk (O : Oracle E1) (a0 : YD) (a1 : Yg × Unit) : Option Ye :=
  ((zj O a0 a1 (a0.length : Int) (0 : Int)).bind (Sum.elim (fun y1 => (some (((-1 : Int), ()), ()))) (fun r2 => (some r2))))
theorem zP (a0) (a1) {r} (h : zk M a0 a1 = some r) : zap M a0 a1 = some r := fixC (E := E1) ((fun O => (by kernel_rfl : zap (Φ E1 O) a0 a1 = zk O a0 a1)) M) h
noncomputable def zF (O : Oracle E1) (a0 : YD) (a1 : Yg × Unit) : Option Yc :=
  ((zap O a0 a1).bind fun r1 => (some (((decide (r1.1.1 ≥ 0)), ()), ())))
theorem zbf (a0) (a1) {r} (h : zF M a0 a1 = some r) : zo M a0 a1 = some r := fixC (E := E1) ((fun O => (by kernel_rfl : zo (Φ E1 O) a0 a1 = zF O a0 a1)) M) h
noncomputable def ze1 (O : Oracle E1) (a0 : Yg) (a1 : YD) : Option Yc :=
  (if (decide ((a1.length : Int) ≤ (12 : Int))) = true then ((zo O a1 ((a0.1, ()), ())).bind fun r1 => (some (((!r1.1.1), ()), ()))) else (some ((false, ()), ())))
theorem zkM (a0) (a1) {r} (h : ze1 M a0 a1 = some r) : zdo M a0 a1 = some r := fixC (E := E1) ((fun O => (by kernel_rfl : zdo (Φ E1 O) a0 a1 = ze1 O a0 a1)) M) h
noncomputable def zlE (O : Oracle E1) (a0 : Int) (a1 : YE) : Option Yc :=
  (if (decide (a0 < 0)) = true then (some ((true, ()), ())) else (some (((decide (a0 ≥ (a1.length : Int))), ()), ())))
theorem zub (a0) (a1) {r} (h : zlE M a0 a1 = some r) : zjy M a0 a1 = some r := fixC (E := E1) ((fun O => (by kernel_rfl : zjy (Φ E1 O) a0 a1 = zlE O a0 a1)) M) h
noncomputable def zae (O : Oracle E1) (a0 : Yb) (a1 : YE × Unit) (a2 : Int) (a3 : Int) : Option Ys :=
  (if (decide (a3 < a2)) = true then ((idx a0 a3).bind fun x1 => ((zjy O x1 a1.1).bind fun r2 => (if r2.1.1 = true then (some (.inr ((a3, ()), ()))) else (zai O a0 a1 a2 (i64.wrap (a3 + 1)))))) else (some (.inl ())))
theorem zbx (a0) (a1) (a2) (a3) {r} (h : zae M a0 a1 a2 a3 = some r) : zai M a0 a1 a2 a3 = some r := fixL (E := E1) ((fun O => (by kernel_rfl : zai (Φ E1 O) a0 a1 a2 a3 = zae O a0 a1 a2 a3)) M) h
noncomputable def zba (O : Oracle E1) (a0 : Yb) (a1 : YE × Unit) : Option Ye :=
  ((zai O a0 a1 (a0.length : Int) (0 : Int)).bind (Sum.elim (fun y1 => (some (((-1 : Int), ()), ()))) (fun r2 => (some r2))))
theorem zdQ (a0) (a1) {r} (h : zba M a0 a1 = some r) : zbQ M a0 a1 = some r := fixC (E := E1) ((fun O => (by kernel_rfl : zbQ (Φ E1 O) a0 a1 = zba O a0 a1)) M) h
end Go.Proofs.YtkgpnekonnopgaaGreatIr.Ev
