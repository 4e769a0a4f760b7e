/- A text of its own: Eq4; no condition but those that each theorem names. -/
import Derived.Test.YtkgpnekonnopgaaGreatIrNm
import Derived.KernelRfl
namespace Go.Proofs.YtkgpnekonnopgaaGreatIr.Ev
open Go Go.IntKind
set_option maxRecDepth 100000
set_option autoImplicit false
set_option linter.unusedVariables false
noncomputable def zbB (O : Oracle E1) (a0 : Yb) (a1 : YE × Unit) : Option Yc :=
  ((zbQ O a0 a1).bind fun r1 => (some (((decide (r1.1.1 ≥ 0)), ()), ())))
theorem zho (a0) (a1) {r} (h : zbB M a0 a1 = some r) : zaS M a0 a1 = some r := fixC (E := E1) ((fun O => (by kernel_rfl : zaS (Φ E1 O) a0 a1 = zbB O a0 a1)) M) h
noncomputable def znX (O : Oracle E1) (a0 : YE) (a1 : Yb) : Option Yc :=
  ((zaS O a1 (a0, ())).bind fun r1 => (some (((!r1.1.1), ()), ())))
theorem zwK (a0) (a1) {r} (h : znX M a0 a1 = some r) : zjo M a0 a1 = some r := fixC (E := E1) ((fun O => (by kernel_rfl : zjo (Φ E1 O) a0 a1 = znX O a0 a1)) M) h
noncomputable def zjd (O : Oracle E1) (a0 : Int) (a1 : YE) (a2 : Yb) : Option Yj :=
  ((idx a2 a0).bind fun x1 => ((idx a1 x1).bind fun x2 => (some ((x2.2.2.2.1, ()), ()))))
theorem zqJ (a0) (a1) (a2) {r} (h : zjd M a0 a1 a2 = some r) : zad M a0 a1 a2 = some r := fixC (E := E1) ((fun O => (by kernel_rfl : zad (Φ E1 O) a0 a1 a2 = zjd O a0 a1 a2)) M) h
noncomputable def zja (O : Oracle E1) (a0 : Int) (a1 : Int) (a2 : Yb) (a3 : Yb) : Option Yc :=
  (if ((a2.length : Int) == a0) = true then (some ((((a3.length : Int) == a1), ()), ())) else (some ((false, ()), ())))
theorem zrz (a0) (a1) (a2) (a3) {r} (h : zja M a0 a1 a2 a3 = some r) : zcg M a0 a1 a2 a3 = some r := fixC (E := E1) ((fun O => (by kernel_rfl : zcg (Φ E1 O) a0 a1 a2 a3 = zja O a0 a1 a2 a3)) M) h
noncomputable def zg4 (O : Oracle E1) (a0 : Ym) (a1 : Yf) (a2 : Int) (a3 : Int) : Option Yy :=
  (if (decide (a3 < a2)) = true then ((idx a1 a3).bind fun x1 => (if (List.length a0 + List.length ([x1.2.1, x1.2.2.1] : Ym)) * 24 ≤ 140737488355328 then (zfs O (a0 ++ ([x1.2.1, x1.2.2.1] : Ym)) a1 a2 (i64.wrap (a3 + 1))) else none)) else (some (.inl (a0, ()))))
theorem zmh (a0) (a1) (a2) (a3) {r} (h : zg4 M a0 a1 a2 a3 = some r) : zfs M a0 a1 a2 a3 = some r := fixL (E := E1) ((fun O => (by kernel_rfl : zfs (Φ E1 O) a0 a1 a2 a3 = zg4 O a0 a1 a2 a3)) M) h
noncomputable def zlz (O : Oracle E1) (a0 : Yf) : Option Yh :=
  ((zfs O [] a0 (a0.length : Int) (0 : Int)).bind (Sum.elim (fun y1 => (some ((y1.1, ()), ()))) (fun r2 => (some r2))))
theorem zt1 (a0) {r} (h : zlz M a0 = some r) : zcv M a0 = some r := fixC (E := E1) ((fun O => (by kernel_rfl : zcv (Φ E1 O) a0 = zlz O a0)) M) h
noncomputable def zkz (O : Oracle E1) (a0 : Yf) (a1 : Ym) : Option Yj :=
  (if a0.length ≤ 1000000 ∧ 2 * a0.length ≤ a1.length then some ((wtZ a0 a1, ()), ()) else none)
theorem zsz (a0) (a1) {r} (h : zkz M a0 a1 = some r) : zcm M a0 a1 = some r := fixC (E := E1) ((fun O => (by kernel_rfl : zcm (Φ E1 O) a0 a1 = zkz O a0 a1)) M) h
noncomputable def zg8 (O : Oracle E1) (a0 : List (Int × Int)) (a1 : Ym) (a2 : Ym) (a3 : Int) (a4 : Int) : Option Yy :=
  (if (decide (a4 < a3)) = true then ((idx a2 a4).bind fun x1 => (if List.length x1 * 8 ≤ 140737488355328 then (if 0 ≤ a4 ∧ a4 < (a1.length : Int) then ((a1[a4.toNat]?).bind fun x2 => ((zd7 O a0 (a1.set a4.toNat x1) a4 a2 a3 a4 x1 (x1.length : Int) (0 : Int)).bind (Sum.elim (fun y3 => (zfD O y3.1 y3.2.1 y3.2.2.1 y3.2.2.2.1 (i64.wrap (y3.2.2.2.2.1 + 1)))) (fun r4 => (some (.inr r4)))))) else none) else none)) else (some (.inl (a1, ()))))
theorem zmg (a0) (a1) (a2) (a3) (a4) {r} (h : zg8 M a0 a1 a2 a3 a4 = some r) : zfD M a0 a1 a2 a3 a4 = some r := fixL (E := E1) ((fun O => (by kernel_rfl : zfD (Φ E1 O) a0 a1 a2 a3 a4 = zg8 O a0 a1 a2 a3 a4)) M) h
noncomputable def zfK (O : Oracle E1) (a0 : List (Int × Int)) (a1 : Ym) (a2 : Int) (a3 : Ym) (a4 : Int) (a5 : Int) (a6 : Yb) (a7 : Int) (a8 : Int) : Option (YB ⊕ Yh) :=
  (if (decide (a8 < a7)) = true then ((((idx a6 a8).bind fun x2 => (if (decide (x2 ≥ 0)) = true then (some (.inl (a0, a1, a2, a3, a4, a5, a6, a7, a8, ()))) else (((if (!(mhas a0 x2)) = true then (some (.inl ((mput a0 x2 (i64.wrap ((-1 : Int) - (a0.length : Int)))), a1, a2, a8, x2, a3, a4, a5, a6, a7, a8, ()))) else (some (.inl (a0, a1, a2, a8, x2, a3, a4, a5, a6, a7, a8, ())))) : Option (((List (Int × Int)) × Ym × Int × Int × Int × Ym × Int × Int × Yb × Int × Int × Unit) ⊕ YJ)).bind (Sum.elim (fun q3 => (if 0 ≤ q3.2.2.1 ∧ q3.2.2.1 < (q3.2.1.length : Int) then ((q3.2.1[q3.2.2.1.toNat]?).bind fun x4 => (if 0 ≤ q3.2.2.2.1 ∧ q3.2.2.2.1 < (x4.length : Int) then ((x4[q3.2.2.2.1.toNat]?).bind fun x5 => (some (.inl (q3.1, (q3.2.1.set q3.2.2.1.toNat (x4.set q3.2.2.2.1.toNat (mget q3.1 q3.2.2.2.2.1 (0 : Int)))), q3.2.2.1, q3.2.2.2.2.2.1, q3.2.2.2.2.2.2.1, q3.2.2.2.2.2.2.2.1, q3.2.2.2.2.2.2.2.2.1, q3.2.2.2.2.2.2.2.2.2.1, q3.2.2.2.2.2.2.2.2.2.2.1, ())))) else none)) else none)) (fun r => some r))))) : Option YJ).bind (Sum.elim (fun q1 => (zd7 O q1.1 q1.2.1 q1.2.2.1 q1.2.2.2.1 q1.2.2.2.2.1 q1.2.2.2.2.2.1 q1.2.2.2.2.2.2.1 q1.2.2.2.2.2.2.2.1 (i64.wrap (q1.2.2.2.2.2.2.2.2.1 + 1)))) (fun r => some r))) else (some (.inl (a0, a1, a3, a4, a5, ()))))
theorem zkV (a0) (a1) (a2) (a3) (a4) (a5) (a6) (a7) (a8) {r} (h : zfK M a0 a1 a2 a3 a4 a5 a6 a7 a8 = some r) : zd7 M a0 a1 a2 a3 a4 a5 a6 a7 a8 = some r := fixL (E := E1) ((fun O => (by kernel_rfl : zd7 (Φ E1 O) a0 a1 a2 a3 a4 a5 a6 a7 a8 = zfK O a0 a1 a2 a3 a4 a5 a6 a7 a8)) M) h
noncomputable def zmz (O : Oracle E1) (a0 : Ym) : Option Yh :=
  (if 0 ≤ (a0.length : Int) ∧ ((24 : Nat) : Int) * (a0.length : Int) ≤ 140737488355328 ∧ (a0.length : Int) = (a0.length : Int) then ((zfD O ([] : List (Int × Int)) (List.replicate (Int.toNat (a0.length : Int)) ([] : Yb)) a0 (a0.length : Int) (0 : Int)).bind (Sum.elim (fun y1 => (some ((y1.1, ()), ()))) (fun r2 => (some r2)))) else none)
theorem zvF (a0) {r} (h : zmz M a0 = some r) : zkg M a0 = some r := fixC (E := E1) ((fun O => (by kernel_rfl : zkg (Φ E1 O) a0 = zmz O a0)) M) h
noncomputable def ziQ (O : Oracle E1) (a0 : Yf) : Option Yj :=
  ((zcv O a0).bind fun r1 => ((zkg O r1.1.1).bind fun r2 => ((zcm O a0 r2.1.1).bind fun r3 => (some ((r3.1.1, ()), ())))))
theorem zqh (a0) {r} (h : ziQ M a0 = some r) : zgq M a0 = some r := fixC (E := E1) ((fun O => (by kernel_rfl : zgq (Φ E1 O) a0 = ziQ O a0)) M) h
noncomputable def zcU (O : Oracle E1) (a0 : Yb) (a1 : Yb) (a2 : Int) (a3 : Int) : Option Yq :=
  (if (decide (a3 < a2)) = true then ((idx a0 a3).bind fun x1 => ((idx a1 a3).bind fun x2 => (if (x1 != x2) = true then (some (.inr ((false, ()), ()))) else (zb8 O a0 a1 a2 (i64.wrap (a3 + 1)))))) else (some (.inl ())))
theorem ziv (a0) (a1) (a2) (a3) {r} (h : zcU M a0 a1 a2 a3 = some r) : zb8 M a0 a1 a2 a3 = some r := fixL (E := E1) ((fun O => (by kernel_rfl : zb8 (Φ E1 O) a0 a1 a2 a3 = zcU O a0 a1 a2 a3)) M) h
noncomputable def zhk (O : Oracle E1) (a0 : Yb) (a1 : Yb) : Option Yc :=
  (if ((a0.length : Int) != (a1.length : Int)) = true then (some ((false, ()), ())) else ((zb8 O a0 a1 (a0.length : Int) (0 : Int)).bind (Sum.elim (fun y1 => (some ((true, ()), ()))) (fun r2 => (some r2)))))
theorem zoV (a0) (a1) {r} (h : zhk M a0 a1 = some r) : zC M a0 a1 = some r := fixC (E := E1) ((fun O => (by kernel_rfl : zC (Φ E1 O) a0 a1 = zhk O a0 a1)) M) h
noncomputable def zlC (O : Oracle E1) (a0 : Ya) : Option ((Ya × Unit) × (Unit)) :=
  (if List.length a0.2.1 * 8 ≤ 140737488355328 then (if List.length a0.2.2.1 * 8 ≤ 140737488355328 then (some (((a0.1, a0.2.1, a0.2.2.1, ()), ()), ())) else none) else none)
theorem zuD (a0) {r} (h : zlC M a0 = some r) : zhR M a0 = some r := fixC (E := E1) ((fun O => (by kernel_rfl : zhR (Φ E1 O) a0 = zlC O a0)) M) h
noncomputable def zkB (O : Oracle E1) (a0 : Ya) (a1 : Ya) : Option Yc :=
  ((zC O a0.2.1 a1.2.1).bind fun r1 => (if r1.1.1 = true then ((zC O a0.2.2.1 a1.2.2.1).bind fun r2 => (if r2.1.1 = true then (some ((true, ()), ())) else ((zC O a0.2.1 a1.2.2.1).bind fun r3 => (if r3.1.1 = true then ((zC O a0.2.2.1 a1.2.1).bind fun r4 => (some ((r4.1.1, ()), ()))) else (some ((false, ()), ())))))) else ((zC O a0.2.1 a1.2.2.1).bind fun r5 => (if r5.1.1 = true then ((zC O a0.2.2.1 a1.2.1).bind fun r6 => (some ((r6.1.1, ()), ()))) else (some ((false, ()), ()))))))
theorem zsL (a0) (a1) {r} (h : zkB M a0 a1 = some r) : zij M a0 a1 = some r := fixC (E := E1) ((fun O => (by kernel_rfl : zij (Φ E1 O) a0 a1 = zkB O a0 a1)) M) h
noncomputable def zm9 (O : Oracle E1) (a0 : Ya) (a1 : Ya) : Option Yc :=
  (if (a1.1 == a0.1) = true then ((zij O (a1.1, a1.2.1, a1.2.2.1, ()) (a0.1, a0.2.1, a0.2.2.1, ())).bind fun r1 => (some ((r1.1.1, ()), ()))) else (some ((false, ()), ())))
theorem zvI (a0) (a1) {r} (h : zm9 M a0 a1 = some r) : zki M a0 a1 = some r := fixC (E := E1) ((fun O => (by kernel_rfl : zki (Φ E1 O) a0 a1 = zm9 O a0 a1)) M) h
noncomputable def zL (O : Oracle E1) (a0 : Yf) (a1 : Ya × Unit) (a2 : Int) (a3 : Int) : Option Ys :=
  (if (decide (a3 < a2)) = true then ((idx a0 a3).bind fun x1 => ((zki O (x1.1, x1.2.1, x1.2.2.1, ()) a1.1).bind fun r2 => (if r2.1.1 = true then (some (.inr ((a3, ()), ()))) else (zO O a0 a1 a2 (i64.wrap (a3 + 1)))))) else (some (.inl ())))
theorem zaU (a0) (a1) (a2) (a3) {r} (h : zL M a0 a1 a2 a3 = some r) : zO M a0 a1 a2 a3 = some r := fixL (E := E1) ((fun O => (by kernel_rfl : zO (Φ E1 O) a0 a1 a2 a3 = zL O a0 a1 a2 a3)) M) h
noncomputable def zat (O : Oracle E1) (a0 : Yf) (a1 : Ya × Unit) : Option Ye :=
  ((zO O a0 a1 (a0.length : Int) (0 : Int)).bind (Sum.elim (fun y1 => (some (((-1 : Int), ()), ()))) (fun r2 => (some r2))))
theorem zcd (a0) (a1) {r} (h : zat M a0 a1 = some r) : zbd M a0 a1 = some r := fixC (E := E1) ((fun O => (by kernel_rfl : zbd (Φ E1 O) a0 a1 = zat O a0 a1)) M) h
noncomputable def za0 (O : Oracle E1) (a0 : Yf) (a1 : Ya × Unit) : Option Yc :=
  ((zbd O a0 a1).bind fun r1 => (some (((decide (r1.1.1 ≥ 0)), ()), ())))
theorem zfl (a0) (a1) {r} (h : za0 M a0 a1 = some r) : zN M a0 a1 = some r := fixC (E := E1) ((fun O => (by kernel_rfl : zN (Φ E1 O) a0 a1 = za0 O a0 a1)) M) h
noncomputable def zi1 (O : Oracle E1) (a0 : Yf) (a1 : Yf) (a2 : Int) (a3 : Int) : Option Yw :=
  (if (decide (a3 < a2)) = true then ((((idx a1 a3).bind fun x2 => (if (!x2.1) = true then ((zC O x2.2.1 x2.2.2.1).bind fun r3 => (if r3.1.1 = true then (some (.inl (a0, a1, a2, a3, ()))) else ((zN O a0 ((x2.1, x2.2.1, x2.2.2.1, ()), ())).bind fun r4 => (if (!r4.1.1) = true then ((zhR O ((x2.1, x2.2.1, x2.2.2.1, ()).1, (x2.1, x2.2.1, x2.2.2.1, ()).2.1, (x2.1, x2.2.1, x2.2.2.1, ()).2.2.1, ())).bind fun r5 => (if (List.length a0 + List.length ([(r5.1.1.1, r5.1.1.2.1, r5.1.1.2.2.1, ())] : Yf)) * 56 ≤ 140737488355328 then (some (.inl ((a0 ++ ([(r5.1.1.1, r5.1.1.2.1, r5.1.1.2.2.1, ())] : Yf)), a1, a2, a3, ()))) else none)) else (some (.inl (a0, a1, a2, a3, ()))))))) else ((zN O a0 ((x2.1, x2.2.1, x2.2.2.1, ()), ())).bind fun r6 => (if (!r6.1.1) = true then ((zhR O ((x2.1, x2.2.1, x2.2.2.1, ()).1, (x2.1, x2.2.1, x2.2.2.1, ()).2.1, (x2.1, x2.2.1, x2.2.2.1, ()).2.2.1, ())).bind fun r7 => (if (List.length a0 + List.length ([(r7.1.1.1, r7.1.1.2.1, r7.1.1.2.2.1, ())] : Yf)) * 56 ≤ 140737488355328 then (some (.inl ((a0 ++ ([(r7.1.1.1, r7.1.1.2.1, r7.1.1.2.2.1, ())] : Yf)), a1, a2, a3, ()))) else none)) else (some (.inl (a0, a1, a2, a3, ()))))))) : Option ((Yf × Yf × Int × Int × Unit) ⊕ ((Yf × Unit) ⊕ (Yj)))).bind (Sum.elim (fun q1 => (zen O q1.1 q1.2.1 q1.2.2.1 (i64.wrap (q1.2.2.2.1 + 1)))) (fun r => some r))) else (some (.inl (a0, ()))))
theorem zow (a0) (a1) (a2) (a3) {r} (h : zi1 M a0 a1 a2 a3 = some r) : zen M a0 a1 a2 a3 = some r := fixL (E := E1) ((fun O => (by kernel_rfl : zen (Φ E1 O) a0 a1 a2 a3 = zi1 O a0 a1 a2 a3)) M) h
noncomputable def zoA (O : Oracle E1) (a0 : Yf) : Option Yj :=
  ((zen O [] a0 (a0.length : Int) (0 : Int)).bind (Sum.elim (fun y1 => (some ((y1.1, ()), ()))) (fun r2 => (some r2))))
theorem zxq (a0) {r} (h : zoA M a0 = some r) : zl7 M a0 = some r := fixC (E := E1) ((fun O => (by kernel_rfl : zl7 (Φ E1 O) a0 = zoA O a0)) M) h
noncomputable def zkt (O : Oracle E1) (a0 : Yf) : Option Yj :=
  ((zl7 O a0).bind fun r1 => ((zgq O r1.1.1).bind fun r2 => (some ((r2.1.1, ()), ()))))
theorem zs7 (a0) {r} (h : zkt M a0 = some r) : zcp M a0 = some r := fixC (E := E1) ((fun O => (by kernel_rfl : zcp (Φ E1 O) a0 = zkt O a0)) M) h
noncomputable def zlc (O : Oracle E1) (a0 : Yf) (a1 : Int) : Option Yl :=
  (if (a1 == 0) = true then (some ((a0, true, ()), ())) else (some ((a0, (a1 == 5), ()), ())))
theorem ztd (a0) (a1) {r} (h : zlc M a0 a1 = some r) : zfb M a0 a1 = some r := fixC (E := E1) ((fun O => (by kernel_rfl : zfb (Φ E1 O) a0 a1 = zlc O a0 a1)) M) h
noncomputable def zgI (O : Oracle E1) (a0 : Yf) (a1 : Int) (a2 : Bool) : Option Yc :=
  (if (decide (a1 ≥ 0)) = true then (if (decide (a1 < (a0.length : Int))) = true then ((idx a0 a1).bind fun x1 => (some (((x1.1 == a2), ()), ()))) else (some ((false, ()), ()))) else (some ((false, ()), ())))
theorem zkp (a0) (a1) (a2) {r} (h : zgI M a0 a1 a2 = some r) : zcq M a0 a1 a2 = some r := fixC (E := E1) ((fun O => (by kernel_rfl : zcq (Φ E1 O) a0 a1 a2 = zgI O a0 a1 a2)) M) h
noncomputable def zmB (O : Oracle E1) (a0 : Int) : Option Yc :=
  (if (a0 == 0) = true then (some ((true, ()), ())) else (some (((a0 == 1), ()), ())))
theorem zvu (a0) {r} (h : zmB M a0 = some r) : zfm M a0 = some r := fixC (E := E1) ((fun O => (by kernel_rfl : zfm (Φ E1 O) a0 = zmB O a0)) M) h
noncomputable def zkO (O : Oracle E1) (a0 : Ya) (a1 : Int) : Option ((Yb × Yb × Unit) × (Unit)) :=
  (if (a1 == 0) = true then (some ((a0.2.1, a0.2.2.1, ()), ())) else (some ((a0.2.2.1, a0.2.1, ()), ())))
theorem zte (a0) (a1) {r} (h : zkO M a0 a1 = some r) : zax M a0 a1 = some r := fixC (E := E1) ((fun O => (by kernel_rfl : zax (Φ E1 O) a0 a1 = zkO O a0 a1)) M) h
noncomputable def zbU (O : Oracle E1) (a0 : Yb) (a1 : Int) (a2 : Int) (a3 : Int) : Option Ys :=
  (if (decide (a3 < a2)) = true then ((idx a0 a3).bind fun x1 => (if (a1 == x1) = true then (some (.inr ((a3, ()), ()))) else (zb6 O a0 a1 a2 (i64.wrap (a3 + 1))))) else (some (.inl ())))
theorem zfn (a0) (a1) (a2) (a3) {r} (h : zbU M a0 a1 a2 a3 = some r) : zb6 M a0 a1 a2 a3 = some r := fixL (E := E1) ((fun O => (by kernel_rfl : zb6 (Φ E1 O) a0 a1 a2 a3 = zbU O a0 a1 a2 a3)) M) h
noncomputable def zeA (O : Oracle E1) (a0 : Yb) (a1 : Int) : Option Ye :=
  ((zb6 O a0 a1 (a0.length : Int) (0 : Int)).bind (Sum.elim (fun y1 => (some (((-1 : Int), ()), ()))) (fun r2 => (some r2))))
theorem zj6 (a0) (a1) {r} (h : zeA M a0 a1 = some r) : zhf M a0 a1 = some r := fixC (E := E1) ((fun O => (by kernel_rfl : zhf (Φ E1 O) a0 a1 = zeA O a0 a1)) M) h
noncomputable def zds (O : Oracle E1) (a0 : Yb) (a1 : Int) : Option Yc :=
  ((zhf O a0 a1).bind fun r1 => (some (((decide (r1.1.1 ≥ 0)), ()), ())))
theorem znu (a0) (a1) {r} (h : zds M a0 a1 = some r) : za9 M a0 a1 = some r := fixC (E := E1) ((fun O => (by kernel_rfl : za9 (Φ E1 O) a0 a1 = zds O a0 a1)) M) h
noncomputable def zld (O : Oracle E1) (a0 : Yb) (a1 : Int) : Option Yc :=
  ((za9 O a0 (i64.wrap ((-1 : Int) - a1))).bind fun r1 => (some ((r1.1.1, ()), ())))
theorem ztC (a0) (a1) {r} (h : zld M a0 a1 = some r) : zi2 M a0 a1 = some r := fixC (E := E1) ((fun O => (by kernel_rfl : zi2 (Φ E1 O) a0 a1 = zld O a0 a1)) M) h
noncomputable def zZ (O : Oracle E1) (a0 : Ym) (a1 : Int × Unit) (a2 : Int) (a3 : Int) : Option Ys :=
  (if (decide (a3 < a2)) = true then ((idx a0 a3).bind fun x1 => ((zi2 O x1 a1.1).bind fun r2 => (if r2.1.1 = true then (some (.inr ((a3, ()), ()))) else (z9 O a0 a1 a2 (i64.wrap (a3 + 1)))))) else (some (.inl ())))
theorem zbg (a0) (a1) (a2) (a3) {r} (h : zZ M a0 a1 a2 a3 = some r) : z9 M a0 a1 a2 a3 = some r := fixL (E := E1) ((fun O => (by kernel_rfl : z9 (Φ E1 O) a0 a1 a2 a3 = zZ O a0 a1 a2 a3)) M) h
noncomputable def zaK (O : Oracle E1) (a0 : Ym) (a1 : Int × Unit) : Option Ye :=
  ((z9 O a0 a1 (a0.length : Int) (0 : Int)).bind (Sum.elim (fun y1 => (some (((-1 : Int), ()), ()))) (fun r2 => (some r2))))
theorem zcO (a0) (a1) {r} (h : zaK M a0 a1 = some r) : zby M a0 a1 = some r := fixC (E := E1) ((fun O => (by kernel_rfl : zby (Φ E1 O) a0 a1 = zaK O a0 a1)) M) h
noncomputable def zaB (O : Oracle E1) (a0 : Ym) (a1 : Int × Unit) : Option Yc :=
  ((zby O a0 a1).bind fun r1 => (some (((decide (r1.1.1 ≥ 0)), ()), ())))
theorem zgw (a0) (a1) {r} (h : zaB M a0 a1 = some r) : zaz M a0 a1 = some r := fixC (E := E1) ((fun O => (by kernel_rfl : zaz (Φ E1 O) a0 a1 = zaB O a0 a1)) M) h
noncomputable def zhr (O : Oracle E1) (a0 : Ym) (a1 : Yb) (a2 : Int) : Option YF :=
  (if (decide (a2 < 12)) = true then ((((zaz O a0 (a2, ())).bind fun r2 => (if r2.1.1 = true then (if (List.length a1 + List.length ([a2] : Yb)) * 8 ≤ 140737488355328 then (some (.inl (a0, (a1 ++ ([a2] : Yb)), a2, ()))) else none) else (some (.inl (a0, a1, a2, ()))))) : Option ((Ym × Yb × Int × Unit) ⊕ (Yg ⊕ (Yo)))).bind (Sum.elim (fun q1 => (zgj O q1.1 q1.2.1 (i64.wrap (q1.2.2.1 + 1)))) (fun r => some r))) else (some (.inl (a1, ()))))
theorem zne (a0) (a1) (a2) {r} (h : zhr M a0 a1 a2 = some r) : zgj M a0 a1 a2 = some r := fixL (E := E1) ((fun O => (by kernel_rfl : zgj (Φ E1 O) a0 a1 a2 = zhr O a0 a1 a2)) M) h
noncomputable def zmT (O : Oracle E1) (a0 : Ym) : Option Yo :=
  ((zgj O a0 [] (0 : Int)).bind (Sum.elim (fun y1 => (some ((y1.1, ()), ()))) (fun r2 => (some r2))))
theorem zvC (a0) {r} (h : zmT M a0 = some r) : zkd M a0 = some r := fixC (E := E1) ((fun O => (by kernel_rfl : zkd (Φ E1 O) a0 = zmT O a0)) M) h
noncomputable def zh7 (O : Oracle E1) (a0 : Int) (a1 : Yb) (a2 : Int) (a3 : Int) : Option YF :=
  (if (decide (a3 < a2)) = true then (((if 0 ≤ a3 ∧ a3 < (a1.length : Int) then ((a1[a3.toNat]?).bind fun x2 => (if (decide (x2 < 0)) = true then (if 0 ≤ a3 ∧ a3 < (a1.length : Int) then ((a1[a3.toNat]?).bind fun x3 => (some (.inl (a0, (a1.set a3.toNat (i64.wrap (x2 - a0))), a2, a3, ())))) else none) else (some (.inl (a0, a1, a2, a3, ()))))) else none) : Option ((Int × Yb × Int × Int × Unit) ⊕ (Yg ⊕ (Yo)))).bind (Sum.elim (fun q1 => (zgU O q1.1 q1.2.1 q1.2.2.1 (i64.wrap (q1.2.2.2.1 + 1)))) (fun r => some r))) else (some (.inl (a1, ()))))
theorem znB (a0) (a1) (a2) (a3) {r} (h : zh7 M a0 a1 a2 a3 = some r) : zgU M a0 a1 a2 a3 = some r := fixL (E := E1) ((fun O => (by kernel_rfl : zgU (Φ E1 O) a0 a1 a2 a3 = zh7 O a0 a1 a2 a3)) M) h
noncomputable def znS (O : Oracle E1) (a0 : Yb) (a1 : Int) : Option Yo :=
  (if List.length a0 * 8 ≤ 140737488355328 then ((zgU O a1 a0 (a0.length : Int) (0 : Int)).bind (Sum.elim (fun y1 => (some ((y1.1, ()), ()))) (fun r2 => (some r2)))) else none)
theorem zwL (a0) (a1) {r} (h : znS M a0 a1 = some r) : zk3 M a0 a1 = some r := fixC (E := E1) ((fun O => (by kernel_rfl : zk3 (Φ E1 O) a0 a1 = znS O a0 a1)) M) h
noncomputable def zhh (O : Oracle E1) (a0 : Yb) (a1 : Yg) : Option Yc :=
  ((zdp O (a1.1, ()) a0).bind fun r1 => (some (((!r1.1.1), ()), ())))
theorem zoK (a0) (a1) {r} (h : zhh M a0 a1 = some r) : zeH M a0 a1 = some r := fixC (E := E1) ((fun O => (by kernel_rfl : zeH (Φ E1 O) a0 a1 = zhh O a0 a1)) M) h
noncomputable def zE (O : Oracle E1) (a0 : Ym) (a1 : Yg × Unit) (a2 : Int) (a3 : Int) : Option Ys :=
  (if (decide (a3 < a2)) = true then ((idx a0 a3).bind fun x1 => ((zeH O x1 a1.1).bind fun r2 => (if r2.1.1 = true then (some (.inr ((a3, ()), ()))) else (zJ O a0 a1 a2 (i64.wrap (a3 + 1)))))) else (some (.inl ())))
theorem zaI (a0) (a1) (a2) (a3) {r} (h : zE M a0 a1 a2 a3 = some r) : zJ M a0 a1 a2 a3 = some r := fixL (E := E1) ((fun O => (by kernel_rfl : zJ (Φ E1 O) a0 a1 a2 a3 = zE O a0 a1 a2 a3)) M) h
noncomputable def zak (O : Oracle E1) (a0 : Ym) (a1 : Yg × Unit) : Option Ye :=
  ((zJ O a0 a1 (a0.length : Int) (0 : Int)).bind (Sum.elim (fun y1 => (some (((-1 : Int), ()), ()))) (fun r2 => (some r2))))
theorem zbZ (a0) (a1) {r} (h : zak M a0 a1 = some r) : za6 M a0 a1 = some r := fixC (E := E1) ((fun O => (by kernel_rfl : za6 (Φ E1 O) a0 a1 = zak O a0 a1)) M) h
noncomputable def zaP (O : Oracle E1) (a0 : Ym) (a1 : Yg × Unit) : Option Yc :=
  ((za6 O a0 a1).bind fun r1 => (some (((decide (r1.1.1 ≥ 0)), ()), ())))
theorem zeU (a0) (a1) {r} (h : zaP M a0 a1 = some r) : zac M a0 a1 = some r := fixC (E := E1) ((fun O => (by kernel_rfl : zac (Φ E1 O) a0 a1 = zaP O a0 a1)) M) h
end Go.Proofs.YtkgpnekonnopgaaGreatIr.Ev
