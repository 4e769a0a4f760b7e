/- A text of its own: Eq3; no condition but those that each theorem names. -/
import Derived.Test.YtkgpnekonnopgaaGreatMsNm
import Derived.KernelRfl
namespace Go.Proofs.YtkgpnekonnopgaaGreatMs.Ev
open Go Go.IntKind
set_option maxRecDepth 100000
set_option autoImplicit false
set_option linter.unusedVariables false
noncomputable def zgb (O : Oracle E1) (a0 : Yf) (a1 : Yg) (a2 : Yb) (a3 : Int) : Option ((Unit) ⊕ YA) :=
  ((zh1 O (a1.1, ()) a2 a0).bind fun r1 => (if (!r1.1.2.2.2.1) = true then (some (.inr ((a2, a3, ()), ()))) else (zeB O a0 (a1.1, ()) r1.1.1 (i64.wrap (a3 + 1)))))
theorem zle (a0) (a1) (a2) (a3) {r} (h : zgb M a0 a1 a2 a3 = some r) : zeB M a0 a1 a2 a3 = some r := fixL (E := E1) ((fun O => (by kernel_rfl : zeB (Φ E1 O) a0 a1 a2 a3 = zgb O a0 a1 a2 a3)) M) h
noncomputable def zkZ (O : Oracle E1) (a0 : Yg) (a1 : Yb) (a2 : Yf) : Option YA :=
  ((zaY O a1).bind fun r1 => ((zeB O a2 (a0.1, ()) r1.1.1 (0 : Int)).bind (Sum.elim (fun y2 => none) (fun r3 => (some r3)))))
theorem ztJ (a0) (a1) (a2) {r} (h : zkZ M a0 a1 a2 = some r) : zeP M a0 a1 a2 = some r := fixC (E := E1) ((fun O => (by kernel_rfl : zeP (Φ E1 O) a0 a1 a2 = zkZ O a0 a1 a2)) M) h
noncomputable def zfB (O : Oracle E1) (a0 : Yf) (a1 : Yg) (a2 : Yf) (a3 : Int) (a4 : Yf) (a5 : Int) (a6 : Int) : Option ((Yf × Int × Unit) ⊕ Yk) :=
  (if (decide (a6 < a5)) = true then ((idx a4 a6).bind fun x1 => ((zeP O (a1.1, ()) x1.2.1 a0).bind fun r2 => ((zeP O (a1.1, ()) x1.2.2.1 a0).bind fun r3 => (if (List.length a2 + List.length ([(x1.1, r2.1.1, r3.1.1, ())] : Yf)) * 56 ≤ 140737488355328 then (zdM O a0 (a1.1, ()) (a2 ++ ([(x1.1, r2.1.1, r3.1.1, ())] : Yf)) (i64.wrap (a3 + (i64.wrap (r2.1.2.1 + r3.1.2.1)))) a4 a5 (i64.wrap (a6 + 1))) else none)))) else (some (.inl (a2, a3, ()))))
theorem zkz (a0) (a1) (a2) (a3) (a4) (a5) (a6) {r} (h : zfB M a0 a1 a2 a3 a4 a5 a6 = some r) : zdM M a0 a1 a2 a3 a4 a5 a6 = some r := fixL (E := E1) ((fun O => (by kernel_rfl : zdM (Φ E1 O) a0 a1 a2 a3 a4 a5 a6 = zfB O a0 a1 a2 a3 a4 a5 a6)) M) h
noncomputable def zkY (O : Oracle E1) (a0 : Yg) (a1 : Yf) (a2 : Yf) : Option Yk :=
  ((zdM O a2 (a0.1, ()) [] (0 : Int) a1 (a1.length : Int) (0 : Int)).bind (Sum.elim (fun y1 => ((za9 O y1.1).bind fun r3 => (some ((r3.1.1, y1.2.1, ()), ())))) (fun r2 => (some r2))))
theorem ztf (a0) (a1) (a2) {r} (h : zkY M a0 a1 a2 = some r) : ziu M a0 a1 a2 = some r := fixC (E := E1) ((fun O => (by kernel_rfl : ziu (Φ E1 O) a0 a1 a2 = zkY O a0 a1 a2)) M) h
noncomputable def zfn (O : Oracle E1) (a0 : YC) (a1 : List Yd) (a2 : Int) (a3 : Yb) (a4 : Yg) (a5 : YC) (a6 : Yb) (a7 : Int) (a8 : Int) : Option ((YC × Int × Yb × Yg × YC × Unit) ⊕ Yl) :=
  (if (decide (a8 < a7)) = true then ((idx a6 a8).bind fun x1 => ((zay O x1 (0 : Int) (i64.wrap ((a1.length : Int) - (1 : Int)))).bind fun r2 => (if (!r2.1.1) = true then (some (.inr (([], false, ()), ()))) else ((idx a1 x1).bind fun x3 => (if (List.length a5 + List.length ([x3.2.2.2.1] : YC)) * 24 ≤ 140737488355328 then (zd1 O a0 a1 a2 a3 (a4.1, ()) (a5 ++ ([x3.2.2.2.1] : YC)) a6 a7 (i64.wrap (a8 + 1))) else none))))) else (some (.inl (a0, a2, a3, (a4.1, ()), a5, ()))))
theorem zjo (a0) (a1) (a2) (a3) (a4) (a5) (a6) (a7) (a8) {r} (h : zfn M a0 a1 a2 a3 a4 a5 a6 a7 a8 = some r) : zd1 M a0 a1 a2 a3 a4 a5 a6 a7 a8 = some r := fixL (E := E1) ((fun O => (by kernel_rfl : zd1 (Φ E1 O) a0 a1 a2 a3 a4 a5 a6 a7 a8 = zfn O a0 a1 a2 a3 a4 a5 a6 a7 a8)) M) h
noncomputable def zeh (O : Oracle E1) (a0 : Yg) (a1 : YC) (a2 : Yf) (a3 : YC) (a4 : Int) (a5 : Int) : Option ((Yg × YC × Yf × Unit) ⊕ Yl) :=
  (if (decide (a5 < a4)) = true then ((idx a3 a5).bind fun x1 => ((zjW O x1).bind fun r2 => (if (!r2.1.1) = true then (some (.inr (([], false, ()), ()))) else ((idx x1 (0 : Int)).bind fun x3 => (if (List.length a2 + List.length ([(x3.1, x3.2.1, x3.2.2.1, ())] : Yf)) * 56 ≤ 140737488355328 then (zc0 O (a0.1, ()) a1 (a2 ++ ([(x3.1, x3.2.1, x3.2.2.1, ())] : Yf)) a3 a4 (i64.wrap (a5 + 1))) else none))))) else (some (.inl ((a0.1, ()), a1, a2, ()))))
theorem zjA (a0) (a1) (a2) (a3) (a4) (a5) {r} (h : zeh M a0 a1 a2 a3 a4 a5 = some r) : zc0 M a0 a1 a2 a3 a4 a5 = some r := fixL (E := E1) ((fun O => (by kernel_rfl : zc0 (Φ E1 O) a0 a1 a2 a3 a4 a5 = zeh O a0 a1 a2 a3 a4 a5)) M) h
noncomputable def zP (O : Oracle E1) (a0 : Yg) (a1 : YC) (a2 : List Yd) (a3 : Int) (a4 : Yb) (a5 : Yb) : Option Yl :=
  ((zd1 O a1 a2 a3 a5 (a0.1, ()) [] a4 (a4.length : Int) (0 : Int)).bind (Sum.elim (fun y1 => (((((if (y1.2.1 == 1) = true then (if ((y1.2.2.2.2.1.length : Int) == (0 : Int)) = true then (if ((y1.2.2.1.length : Int) == (1 : Int)) = true then ((idx y1.2.2.1 (0 : Int)).bind fun x5 => ((zay O x5 (0 : Int) (i64.wrap ((y1.1.length : Int) - (1 : Int)))).bind fun r6 => (some (.inl (y1.1, y1.2.1, y1.2.2.1, (y1.2.2.2.1.1, ()), y1.2.2.2.2.1, [], (1 : Int), r6.1.1, ()))))) else (some (.inl (y1.1, y1.2.1, y1.2.2.1, (y1.2.2.2.1.1, ()), y1.2.2.2.2.1, [], (1 : Int), false, ())))) else (some (.inl (y1.1, y1.2.1, y1.2.2.1, (y1.2.2.2.1.1, ()), y1.2.2.2.2.1, [], (1 : Int), false, ())))) else (some (.inl (y1.1, y1.2.1, y1.2.2.1, (y1.2.2.2.1.1, ()), y1.2.2.2.2.1, [], (1 : Int), false, ())))) : Option ((YC × Int × Yb × Yg × YC × Yf × Int × Bool × Unit) ⊕ Yt)).bind (Sum.elim (fun q4 => (if q4.2.2.2.2.2.2.2.1 = true then ((idx q4.2.2.1 (0 : Int)).bind fun x7 => ((idx q4.1 x7).bind fun x8 => ((za9 O x8).bind fun r9 => ((some ((r9.1.1, true, ()), ())).map .inr)))) else (((if (q4.2.1 == 2) = true then (if ((q4.2.2.2.2.1.length : Int) == (2 : Int)) = true then (some (.inl (q4.2.1, q4.2.2.1, (q4.2.2.2.1.1, ()), q4.2.2.2.2.1, q4.2.2.2.2.2.1, q4.2.2.2.2.2.2.1, ((q4.2.2.1.length : Int) == (5 : Int)), ()))) else (some (.inl (q4.2.1, q4.2.2.1, (q4.2.2.2.1.1, ()), q4.2.2.2.2.1, q4.2.2.2.2.2.1, q4.2.2.2.2.2.2.1, false, ())))) else (some (.inl (q4.2.1, q4.2.2.1, (q4.2.2.2.1.1, ()), q4.2.2.2.2.1, q4.2.2.2.2.2.1, q4.2.2.2.2.2.2.1, false, ())))) : Option YI).bind (Sum.elim (fun q10 => (if q10.2.2.2.2.2.2.1 = true then (if 0 ≤ (0 : Int) ∧ (0 : Int) < (q10.2.2.2.1.length : Int) then ((q10.2.2.2.1[(Int.toNat (0 : Int))]?).bind fun x11 => (if 0 ≤ (1 : Int) ∧ (1 : Int) < (q10.2.2.2.1.length : Int) then ((q10.2.2.2.1[(Int.toNat (1 : Int))]?).bind fun x12 => ((idx q10.2.1 (0 : Int)).bind fun x13 => ((idx q10.2.1 (1 : Int)).bind fun x14 => ((idx q10.2.1 (2 : Int)).bind fun x15 => ((idx q10.2.1 (3 : Int)).bind fun x16 => ((idx q10.2.1 (4 : Int)).bind fun x17 => ((zc6 O (q10.2.2.1.1, ()) x11 x12 (x13, x14, x15, x16, x17, ())).bind fun r18 => (some (.inl (r18.1.1, r18.1.2.1, ())))))))))) else none)) else none) else (((if (q10.1 == 3) = true then (if ((q10.2.2.2.1.length : Int) == (1 : Int)) = true then (some (.inl (q10.1, q10.2.1, (q10.2.2.1.1, ()), q10.2.2.2.1, q10.2.2.2.2.1, q10.2.2.2.2.2.1, ((q10.2.1.length : Int) == (1 : Int)), ()))) else (some (.inl (q10.1, q10.2.1, (q10.2.2.1.1, ()), q10.2.2.2.1, q10.2.2.2.2.1, q10.2.2.2.2.2.1, false, ())))) else (some (.inl (q10.1, q10.2.1, (q10.2.2.1.1, ()), q10.2.2.2.1, q10.2.2.2.2.1, q10.2.2.2.2.2.1, false, ())))) : Option YI).bind (Sum.elim (fun q19 => (if q19.2.2.2.2.2.2.1 = true then (if 0 ≤ (0 : Int) ∧ (0 : Int) < (q19.2.2.2.1.length : Int) then ((q19.2.2.2.1[(Int.toNat (0 : Int))]?).bind fun x20 => ((idx q19.2.1 (0 : Int)).bind fun x21 => ((zd5 O (q19.2.2.1.1, ()) x20 x21).bind fun r22 => (some (.inl (r22.1.1, r22.1.2.1, ())))))) else none) else (((if (q19.1 == 4) = true then (if ((q19.2.2.2.1.length : Int) == (1 : Int)) = true then (some (.inl (q19.1, q19.2.1, (q19.2.2.1.1, ()), q19.2.2.2.1, q19.2.2.2.2.1, q19.2.2.2.2.2.1, ((q19.2.1.length : Int) == (4 : Int)), ()))) else (some (.inl (q19.1, q19.2.1, (q19.2.2.1.1, ()), q19.2.2.2.1, q19.2.2.2.2.1, q19.2.2.2.2.2.1, false, ())))) else (some (.inl (q19.1, q19.2.1, (q19.2.2.1.1, ()), q19.2.2.2.1, q19.2.2.2.2.1, q19.2.2.2.2.2.1, false, ())))) : Option YI).bind (Sum.elim (fun q23 => (if q23.2.2.2.2.2.2.1 = true then (if 0 ≤ (0 : Int) ∧ (0 : Int) < (q23.2.2.2.1.length : Int) then ((q23.2.2.2.1[(Int.toNat (0 : Int))]?).bind fun x24 => ((idx q23.2.1 (0 : Int)).bind fun x25 => ((idx q23.2.1 (1 : Int)).bind fun x26 => ((idx q23.2.1 (2 : Int)).bind fun x27 => ((idx q23.2.1 (3 : Int)).bind fun x28 => ((zeM O (q23.2.2.1.1, ()) x24 (x25, x26, x27, x28, (0 : Int), ())).bind fun r29 => (some (.inl (r29.1.1, r29.1.2.1, ()))))))))) else none) else (((if (q23.1 == 5) = true then ((zay O (q23.2.2.2.1.length : Int) (1 : Int) (11 : Int)).bind fun r31 => (if r31.1.1 = true then (some (.inl ((q23.2.2.1.1, ()), q23.2.2.2.1, q23.2.2.2.2.1, q23.2.2.2.2.2.1, ((q23.2.1.length : Int) == (0 : Int)), ()))) else (some (.inl ((q23.2.2.1.1, ()), q23.2.2.2.1, q23.2.2.2.2.1, q23.2.2.2.2.2.1, false, ()))))) else (some (.inl ((q23.2.2.1.1, ()), q23.2.2.2.1, q23.2.2.2.2.1, q23.2.2.2.2.2.1, false, ())))) : Option ((Yg × YC × Yf × Int × Bool × Unit) ⊕ Yt)).bind (Sum.elim (fun q30 => (if q30.2.2.2.2.1 = true then (if 0 ≤ (1 : Int) ∧ (1 : Int) ≤ (q30.2.1.length : Int) ∧ (q30.2.1.length : Int) ≤ (q30.2.1.length : Int) then ((zc0 O (q30.1.1, ()) q30.2.1 [] ((q30.2.1.take (Int.toNat (q30.2.1.length : Int))).drop (Int.toNat (1 : Int))) (List.length ((q30.2.1.take (Int.toNat (q30.2.1.length : Int))).drop (Int.toNat (1 : Int))) : Int) (0 : Int)).bind (Sum.elim (fun y32 => ((idx y32.2.1 (0 : Int)).bind fun x34 => ((ziu O (y32.1.1, ()) x34 y32.2.2.1).bind fun r35 => ((some ((r35.1.1, true, ()), ())).map .inr)))) (fun r33 => ((some r33).map .inr)))) else none) else (some (.inl (q30.2.2.1, q30.2.2.2.1, ()))))) (fun r => some r))))) (fun r => some r))))) (fun r => some r))))) (fun r => some r))))) (fun r => some r))) : Option Yt).bind (Sum.elim (fun q3 => (((if (q3.2.1 == 0) = true then (some (.inl (q3.1, true, ()))) else (some (.inl (q3.1, (q3.2.1 == 5), ())))) : Option ((Yf × Bool × Unit) ⊕ (Yf × Bool × Unit) × (Unit))).bind (Sum.elim (fun q36 => (some ((q36.1, q36.2.1, ()), ()))) (fun r => some r)))) (fun r => some r)))) (fun r2 => (some r2))))
theorem zX (a0) (a1) (a2) (a3) (a4) (a5) {r} (h : zP M a0 a1 a2 a3 a4 a5 = some r) : zh5 M a0 a1 a2 a3 a4 a5 = some r := fixC (E := E1) ((fun O => (by kernel_rfl : zh5 (Φ E1 O) a0 a1 a2 a3 a4 a5 = zP O a0 a1 a2 a3 a4 a5)) M) h
noncomputable def zh9 (O : Oracle E1) (a0 : Yg) (a1 : YC) (a2 : List Yd) (a3 : Int) (a4 : Yb) (a5 : Yb) : Option Yx :=
  ((zh5 O (a0.1, ()) a1 a2 a3 a4 a5).bind fun r1 => (if (!r1.1.2.1) = true then (some ((((0 : Int), [], [], [], ()), false, ()), ())) else ((zaY O a4).bind fun r2 => ((zaY O a5).bind fun r3 => (some (((a3, r2.1.1, r3.1.1, r1.1.1, ()), true, ()), ()))))))
theorem zmE (a0) (a1) (a2) (a3) (a4) (a5) {r} (h : zh9 M a0 a1 a2 a3 a4 a5 = some r) : zgs M a0 a1 a2 a3 a4 a5 = some r := fixC (E := E1) ((fun O => (by kernel_rfl : zgs (Φ E1 O) a0 a1 a2 a3 a4 a5 = zh9 O a0 a1 a2 a3 a4 a5)) M) h
noncomputable def zcr (O : Oracle E1) (a0 : Yg) (a1 : YC) (a2 : List Yd) (a3 : Int) (a4 : Yb) (a5 : Yb) : Option Yx :=
  ((zeT O (a0.1, ()) a1).bind fun r1 => (if (!r1.1.1) = true then (some ((((0 : Int), [], [], [], ()), false, ()), ())) else ((zjh O (a0.1, ()) a2).bind fun r2 => (if (!r2.1.1) = true then (some ((((0 : Int), [], [], [], ()), false, ()), ())) else ((zgs O (a0.1, ()) a1 a2 a3 a4 a5).bind fun r3 => (some (((r3.1.1.1, r3.1.1.2.1, r3.1.1.2.2.1, r3.1.1.2.2.2.1, ()), r3.1.2.1, ()), ())))))))
theorem zeW (a0) (a1) (a2) (a3) (a4) (a5) {r} (h : zcr M a0 a1 a2 a3 a4 a5 = some r) : ziv M a0 a1 a2 a3 a4 a5 = some r := fixC (E := E1) ((fun O => (by kernel_rfl : ziv (Φ E1 O) a0 a1 a2 a3 a4 a5 = zcr O a0 a1 a2 a3 a4 a5)) M) h
noncomputable def zjr (O : Oracle E1) (a0 : Int) : Option Yc :=
  (if (decide (a0 < 0)) = true then (some ((true, ()), ())) else (some (((decide (a0 > 3)), ()), ())))
theorem zrO (a0) {r} (h : zjr M a0 = some r) : zhi M a0 = some r := fixC (E := E1) ((fun O => (by kernel_rfl : zhi (Φ E1 O) a0 = zjr O a0)) M) h
noncomputable def zU (O : Oracle E1) (a0 : Yb) (a1 : Unit) (a2 : Int) (a3 : Int) : Option Yv :=
  (if (decide (a3 < a2)) = true then ((idx a0 a3).bind fun x1 => ((zhi O x1).bind fun r2 => (if r2.1.1 = true then (some (.inr ((a3, ()), ()))) else (zW O a0 a1 a2 (i64.wrap (a3 + 1)))))) else (some (.inl ())))
theorem zbe (a0) (a1) (a2) (a3) {r} (h : zU M a0 a1 a2 a3 = some r) : zW M a0 a1 a2 a3 = some r := fixL (E := E1) ((fun O => (by kernel_rfl : zW (Φ E1 O) a0 a1 a2 a3 = zU O a0 a1 a2 a3)) M) h
noncomputable def zaK (O : Oracle E1) (a0 : Yb) (a1 : Unit) : Option Ye :=
  ((zW O a0 a1 (a0.length : Int) (0 : Int)).bind (Sum.elim (fun y1 => (some (((-1 : Int), ()), ()))) (fun r2 => (some r2))))
theorem zcK (a0) (a1) {r} (h : zaK M a0 a1 = some r) : zbv M a0 a1 = some r := fixC (E := E1) ((fun O => (by kernel_rfl : zbv (Φ E1 O) a0 a1 = zaK O a0 a1)) M) h
noncomputable def zbh (O : Oracle E1) (a0 : Yb) (a1 : Unit) : Option Yc :=
  ((zbv O a0 a1).bind fun r1 => (some (((decide (r1.1.1 ≥ 0)), ()), ())))
theorem zgl (a0) (a1) {r} (h : zbh M a0 a1 = some r) : zat M a0 a1 = some r := fixC (E := E1) ((fun O => (by kernel_rfl : zat (Φ E1 O) a0 a1 = zbh O a0 a1)) M) h
noncomputable def zkP (O : Oracle E1) (a0 : Yg) : Option Yc :=
  (if (decide ((a0.1.length : Int) < (1 : Int))) = true then (some ((false, ()), ())) else (if (decide ((a0.1.length : Int) > (10 : Int))) = true then (some ((false, ()), ())) else ((idx a0.1 (0 : Int)).bind fun x1 => (if (x1 != 0) = true then (some ((false, ()), ())) else ((zat O a0.1 ()).bind fun r2 => (some (((!r2.1.1), ()), ())))))))
theorem zsW (a0) {r} (h : zkP M a0 = some r) : ziA M a0 = some r := fixC (E := E1) ((fun O => (by kernel_rfl : ziA (Φ E1 O) a0 = zkP O a0)) M) h
noncomputable def zke (O : Oracle E1) (a0 : Yg) (a1 : Int) : Option Ye :=
  (if (decide (a1 < 0)) = true then (some (((0 : Int), ()), ())) else ((idx a0.1 a1).bind fun x1 => (some ((x1, ()), ()))))
theorem zsm (a0) (a1) {r} (h : zke M a0 a1 = some r) : zdY M a0 a1 = some r := fixC (E := E1) ((fun O => (by kernel_rfl : zdY (Φ E1 O) a0 a1 = zke O a0 a1)) M) h
noncomputable def zdH (O : Oracle E1) (a0 : Yg) (a1 : Int) (a2 : Yb) (a3 : Int) (a4 : Int) : Option (Yq ⊕ Yc) :=
  (if (decide (a4 < a3)) = true then ((idx a2 a4).bind fun x1 => (if (a1 == 0) = true then (some (.inr ((false, ()), ()))) else (if (decide (x1 < (-12 : Int))) = true then (some (.inr ((false, ()), ()))) else (if (decide (x1 ≥ (a0.1.length : Int))) = true then (some (.inr ((false, ()), ()))) else ((zdY O (a0.1, ()) x1).bind fun r2 => (zbq O (a0.1, ()) (i64.wrap (a1 + (i64.wrap (r2.1.1 - 1)))) a2 a3 (i64.wrap (a4 + 1)))))))) else (some (.inl (a1, ()))))
theorem zjl (a0) (a1) (a2) (a3) (a4) {r} (h : zdH M a0 a1 a2 a3 a4 = some r) : zbq M a0 a1 a2 a3 a4 = some r := fixL (E := E1) ((fun O => (by kernel_rfl : zbq (Φ E1 O) a0 a1 a2 a3 a4 = zdH O a0 a1 a2 a3 a4)) M) h
noncomputable def ziR (O : Oracle E1) (a0 : Yg) (a1 : Yb) : Option Yc :=
  (if (decide ((a1.length : Int) > (40 : Int))) = true then (some ((false, ()), ())) else ((zbq O (a0.1, ()) (1 : Int) a1 (a1.length : Int) (0 : Int)).bind (Sum.elim (fun y1 => (some (((y1.1 == 0), ()), ()))) (fun r2 => (some r2)))))
theorem zqV (a0) (a1) {r} (h : ziR M a0 a1 = some r) : zcX M a0 a1 = some r := fixC (E := E1) ((fun O => (by kernel_rfl : zcX (Φ E1 O) a0 a1 = ziR O a0 a1)) M) h
noncomputable def zjm (O : Oracle E1) (a0 : Yg) (a1 : Ya) : Option Yc :=
  ((zcX O (a0.1, ()) a1.2.1).bind fun r1 => (if r1.1.1 = true then ((zcX O (a0.1, ()) a1.2.2.1).bind fun r2 => (some ((r2.1.1, ()), ()))) else (some ((false, ()), ()))))
theorem zrE (a0) (a1) {r} (h : zjm M a0 a1 = some r) : zhe M a0 a1 = some r := fixC (E := E1) ((fun O => (by kernel_rfl : zhe (Φ E1 O) a0 a1 = zjm O a0 a1)) M) h
noncomputable def zgX (O : Oracle E1) (a0 : Ya) (a1 : Yg) : Option Yc :=
  ((zhe O (a1.1, ()) (a0.1, a0.2.1, a0.2.2.1, ())).bind fun r1 => (some (((!r1.1.1), ()), ())))
theorem zoq (a0) (a1) {r} (h : zgX M a0 a1 = some r) : zec M a0 a1 = some r := fixC (E := E1) ((fun O => (by kernel_rfl : zec (Φ E1 O) a0 a1 = zgX O a0 a1)) M) h
noncomputable def zo (O : Oracle E1) (a0 : Yf) (a1 : Yg × Unit) (a2 : Int) (a3 : Int) : Option Yv :=
  (if (decide (a3 < a2)) = true then ((idx a0 a3).bind fun x1 => ((zec O (x1.1, x1.2.1, x1.2.2.1, ()) a1.1).bind fun r2 => (if r2.1.1 = true then (some (.inr ((a3, ()), ()))) else (zp O a0 a1 a2 (i64.wrap (a3 + 1)))))) else (some (.inl ())))
theorem zag (a0) (a1) (a2) (a3) {r} (h : zo M a0 a1 a2 a3 = some r) : zp M a0 a1 a2 a3 = some r := fixL (E := E1) ((fun O => (by kernel_rfl : zp (Φ E1 O) a0 a1 a2 a3 = zo O a0 a1 a2 a3)) M) h
noncomputable def zR (O : Oracle E1) (a0 : Yf) (a1 : Yg × Unit) : Option Ye :=
  ((zp O a0 a1 (a0.length : Int) (0 : Int)).bind (Sum.elim (fun y1 => (some (((-1 : Int), ()), ()))) (fun r2 => (some r2))))
theorem zbt (a0) (a1) {r} (h : zR M a0 a1 = some r) : zas M a0 a1 = some r := fixC (E := E1) ((fun O => (by kernel_rfl : zas (Φ E1 O) a0 a1 = zR O a0 a1)) M) h
noncomputable def zal (O : Oracle E1) (a0 : Yf) (a1 : Yg × Unit) : Option Yc :=
  ((zas O a0 a1).bind fun r1 => (some (((decide (r1.1.1 ≥ 0)), ()), ())))
theorem zdf (a0) (a1) {r} (h : zal M a0 a1 = some r) : zL M a0 a1 = some r := fixC (E := E1) ((fun O => (by kernel_rfl : zL (Φ E1 O) a0 a1 = zal O a0 a1)) M) h
noncomputable def zhO (O : Oracle E1) (a0 : Yg) (a1 : Yf) : Option Yc :=
  (if (decide ((a1.length : Int) ≤ (8 : Int))) = true then ((zL O a1 ((a0.1, ()), ())).bind fun r1 => (some (((!r1.1.1), ()), ()))) else (some ((false, ()), ())))
theorem zpG (a0) (a1) {r} (h : zhO M a0 a1 = some r) : zdg M a0 a1 = some r := fixC (E := E1) ((fun O => (by kernel_rfl : zdg (Φ E1 O) a0 a1 = zhO O a0 a1)) M) h
noncomputable def zdG (O : Oracle E1) (a0 : Yf) (a1 : Yg) : Option Yc :=
  ((zdg O (a1.1, ()) a0).bind fun r1 => (some (((!r1.1.1), ()), ())))
theorem zjj (a0) (a1) {r} (h : zdG M a0 a1 = some r) : zcj M a0 a1 = some r := fixC (E := E1) ((fun O => (by kernel_rfl : zcj (Φ E1 O) a0 a1 = zdG O a0 a1)) M) h
noncomputable def ze (O : Oracle E1) (a0 : YC) (a1 : Yg × Unit) (a2 : Int) (a3 : Int) : Option Yv :=
  (if (decide (a3 < a2)) = true then ((idx a0 a3).bind fun x1 => ((zcj O x1 a1.1).bind fun r2 => (if r2.1.1 = true then (some (.inr ((a3, ()), ()))) else (zh O a0 a1 a2 (i64.wrap (a3 + 1)))))) else (some (.inl ())))
theorem zg (a0) (a1) (a2) (a3) {r} (h : ze M a0 a1 a2 a3 = some r) : zh M a0 a1 a2 a3 = some r := fixL (E := E1) ((fun O => (by kernel_rfl : zh (Φ E1 O) a0 a1 a2 a3 = ze O a0 a1 a2 a3)) M) h
noncomputable def zi (O : Oracle E1) (a0 : YC) (a1 : Yg × Unit) : Option Ye :=
  ((zh O a0 a1 (a0.length : Int) (0 : Int)).bind (Sum.elim (fun y1 => (some (((-1 : Int), ()), ()))) (fun r2 => (some r2))))
theorem zI (a0) (a1) {r} (h : zi M a0 a1 = some r) : zah M a0 a1 = some r := fixC (E := E1) ((fun O => (by kernel_rfl : zah (Φ E1 O) a0 a1 = zi O a0 a1)) M) h
noncomputable def zw (O : Oracle E1) (a0 : YC) (a1 : Yg × Unit) : Option Yc :=
  ((zah O a0 a1).bind fun r1 => (some (((decide (r1.1.1 ≥ 0)), ()), ())))
theorem za7 (a0) (a1) {r} (h : zw M a0 a1 = some r) : zk M a0 a1 = some r := fixC (E := E1) ((fun O => (by kernel_rfl : zk (Φ E1 O) a0 a1 = zw O a0 a1)) M) h
noncomputable def zeJ (O : Oracle E1) (a0 : Yg) (a1 : YC) : Option Yc :=
  (if (decide ((a1.length : Int) ≤ (12 : Int))) = true then ((zk O a1 ((a0.1, ()), ())).bind fun r1 => (some (((!r1.1.1), ()), ()))) else (some ((false, ()), ())))
theorem zkk (a0) (a1) {r} (h : zeJ M a0 a1 = some r) : zcZ M a0 a1 = some r := fixC (E := E1) ((fun O => (by kernel_rfl : zcZ (Φ E1 O) a0 a1 = zeJ O a0 a1)) M) h
noncomputable def zgY (O : Oracle E1) (a0 : Yd) (a1 : Yg) : Option Yc :=
  ((zdg O (a1.1, ()) a0.2.2.2.1).bind fun r1 => (some (((!r1.1.1), ()), ())))
theorem zoE (a0) (a1) {r} (h : zgY M a0 a1 = some r) : zd9 M a0 a1 = some r := fixC (E := E1) ((fun O => (by kernel_rfl : zd9 (Φ E1 O) a0 a1 = zgY O a0 a1)) M) h
noncomputable def zm (O : Oracle E1) (a0 : List Yd) (a1 : Yg × Unit) (a2 : Int) (a3 : Int) : Option Yv :=
  (if (decide (a3 < a2)) = true then ((idx a0 a3).bind fun x1 => ((zd9 O (x1.1, x1.2.1, x1.2.2.1, x1.2.2.2.1, ()) a1.1).bind fun r2 => (if r2.1.1 = true then (some (.inr ((a3, ()), ()))) else (zn O a0 a1 a2 (i64.wrap (a3 + 1)))))) else (some (.inl ())))
theorem zaa (a0) (a1) (a2) (a3) {r} (h : zm M a0 a1 a2 a3 = some r) : zn M a0 a1 a2 a3 = some r := fixL (E := E1) ((fun O => (by kernel_rfl : zn (Φ E1 O) a0 a1 a2 a3 = zm O a0 a1 a2 a3)) M) h
noncomputable def zN (O : Oracle E1) (a0 : List Yd) (a1 : Yg × Unit) : Option Ye :=
  ((zn O a0 a1 (a0.length : Int) (0 : Int)).bind (Sum.elim (fun y1 => (some (((-1 : Int), ()), ()))) (fun r2 => (some r2))))
theorem zbo (a0) (a1) {r} (h : zN M a0 a1 = some r) : zan M a0 a1 = some r := fixC (E := E1) ((fun O => (by kernel_rfl : zan (Φ E1 O) a0 a1 = zN O a0 a1)) M) h
noncomputable def zad (O : Oracle E1) (a0 : List Yd) (a1 : Yg × Unit) : Option Yc :=
  ((zan O a0 a1).bind fun r1 => (some (((decide (r1.1.1 ≥ 0)), ()), ())))
theorem zc1 (a0) (a1) {r} (h : zad M a0 a1 = some r) : zF M a0 a1 = some r := fixC (E := E1) ((fun O => (by kernel_rfl : zF (Φ E1 O) a0 a1 = zad O a0 a1)) M) h
noncomputable def zhP (O : Oracle E1) (a0 : Yg) (a1 : List Yd) : Option Yc :=
  (if (decide ((a1.length : Int) ≤ (200 : Int))) = true then ((zF O a1 ((a0.1, ()), ())).bind fun r1 => (some (((!r1.1.1), ()), ()))) else (some ((false, ()), ())))
theorem zpN (a0) (a1) {r} (h : zhP M a0 a1 = some r) : zfG M a0 a1 = some r := fixC (E := E1) ((fun O => (by kernel_rfl : zfG (Φ E1 O) a0 a1 = zhP O a0 a1)) M) h
noncomputable def zlA (O : Oracle E1) (a0 : Int) (a1 : List Yd) : Option Yc :=
  (if (decide (a0 < 0)) = true then (some ((true, ()), ())) else (some (((decide (a0 ≥ (a1.length : Int))), ()), ())))
theorem zuk (a0) (a1) {r} (h : zlA M a0 a1 = some r) : zi9 M a0 a1 = some r := fixC (E := E1) ((fun O => (by kernel_rfl : zi9 (Φ E1 O) a0 a1 = zlA O a0 a1)) M) h
noncomputable def z7 (O : Oracle E1) (a0 : Yb) (a1 : YE) (a2 : Int) (a3 : Int) : Option Yv :=
  (if (decide (a3 < a2)) = true then ((idx a0 a3).bind fun x1 => ((zi9 O x1 a1.1).bind fun r2 => (if r2.1.1 = true then (some (.inr ((a3, ()), ()))) else (z9 O a0 a1 a2 (i64.wrap (a3 + 1)))))) else (some (.inl ())))
theorem zbr (a0) (a1) (a2) (a3) {r} (h : z7 M a0 a1 a2 a3 = some r) : z9 M a0 a1 a2 a3 = some r := fixL (E := E1) ((fun O => (by kernel_rfl : z9 (Φ E1 O) a0 a1 a2 a3 = z7 O a0 a1 a2 a3)) M) h
noncomputable def za2 (O : Oracle E1) (a0 : Yb) (a1 : YE) : Option Ye :=
  ((z9 O a0 a1 (a0.length : Int) (0 : Int)).bind (Sum.elim (fun y1 => (some (((-1 : Int), ()), ()))) (fun r2 => (some r2))))
theorem zdq (a0) (a1) {r} (h : za2 M a0 a1 = some r) : zbG M a0 a1 = some r := fixC (E := E1) ((fun O => (by kernel_rfl : zbG (Φ E1 O) a0 a1 = za2 O a0 a1)) M) h
noncomputable def zbu (O : Oracle E1) (a0 : Yb) (a1 : YE) : Option Yc :=
  ((zbG O a0 a1).bind fun r1 => (some (((decide (r1.1.1 ≥ 0)), ()), ())))
theorem zg5 (a0) (a1) {r} (h : zbu M a0 a1 = some r) : zaL M a0 a1 = some r := fixC (E := E1) ((fun O => (by kernel_rfl : zaL (Φ E1 O) a0 a1 = zbu O a0 a1)) M) h
noncomputable def zns (O : Oracle E1) (a0 : List Yd) (a1 : Yb) : Option Yc :=
  ((zaL O a1 (a0, ())).bind fun r1 => (some (((!r1.1.1), ()), ())))
theorem zvB (a0) (a1) {r} (h : zns M a0 a1 = some r) : zkx M a0 a1 = some r := fixC (E := E1) ((fun O => (by kernel_rfl : zkx (Φ E1 O) a0 a1 = zns O a0 a1)) M) h
noncomputable def ziZ (O : Oracle E1) (a0 : Int) (a1 : List Yd) (a2 : Yb) : Option Yj :=
  ((idx a2 a0).bind fun x1 => ((idx a1 x1).bind fun x2 => (some ((x2.2.2.2.1, ()), ()))))
theorem zq9 (a0) (a1) (a2) {r} (h : ziZ M a0 a1 a2 = some r) : zZ M a0 a1 a2 = some r := fixC (E := E1) ((fun O => (by kernel_rfl : zZ (Φ E1 O) a0 a1 a2 = ziZ O a0 a1 a2)) M) h
noncomputable def zi0 (O : Oracle E1) (a0 : Int) (a1 : Int) (a2 : Yb) (a3 : Yb) : Option Yc :=
  (if ((a2.length : Int) == a0) = true then (some ((((a3.length : Int) == a1), ()), ())) else (some ((false, ()), ())))
theorem zq8 (a0) (a1) (a2) (a3) {r} (h : zi0 M a0 a1 a2 a3 = some r) : zb4 M a0 a1 a2 a3 = some r := fixC (E := E1) ((fun O => (by kernel_rfl : zb4 (Φ E1 O) a0 a1 a2 a3 = zi0 O a0 a1 a2 a3)) M) h
noncomputable def zgL (O : Oracle E1) (a0 : Ym) (a1 : Yf) (a2 : Int) (a3 : Int) : Option Yz :=
  (if (decide (a3 < a2)) = true then ((idx a1 a3).bind fun x1 => (if (List.length a0 + List.length ([x1.2.1, x1.2.2.1] : Ym)) * 24 ≤ 140737488355328 then (zfl O (a0 ++ ([x1.2.1, x1.2.2.1] : Ym)) a1 a2 (i64.wrap (a3 + 1))) else none)) else (some (.inl (a0, ()))))
theorem zl1 (a0) (a1) (a2) (a3) {r} (h : zgL M a0 a1 a2 a3 = some r) : zfl M a0 a1 a2 a3 = some r := fixL (E := E1) ((fun O => (by kernel_rfl : zfl (Φ E1 O) a0 a1 a2 a3 = zgL O a0 a1 a2 a3)) M) h
noncomputable def zlp (O : Oracle E1) (a0 : Yf) : Option Yh :=
  ((zfl O [] a0 (a0.length : Int) (0 : Int)).bind (Sum.elim (fun y1 => (some ((y1.1, ()), ()))) (fun r2 => (some r2))))
theorem ztO (a0) {r} (h : zlp M a0 = some r) : zcg M a0 = some r := fixC (E := E1) ((fun O => (by kernel_rfl : zcg (Φ E1 O) a0 = zlp O a0)) M) h
end Go.Proofs.YtkgpnekonnopgaaGreatMs.Ev
