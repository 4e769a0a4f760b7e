/- A text of its own: Eq4; no condition but those that each theorem names. -/
import Derived.Test.YtkgpnekonnopgaaGreatMsNm
import Derived.KernelRfl
namespace Go.Proofs.YtkgpnekonnopgaaGreatMs.Ev
open Go Go.IntKind
set_option maxRecDepth 100000
set_option autoImplicit false
set_option linter.unusedVariables false
noncomputable def zj3 (O : Oracle E1) (a0 : Yf) (a1 : Ym) : Option Yj :=
  (if a0.length ≤ 1000000 ∧ 2 * a0.length ≤ a1.length then some ((wtZ a0 a1, ()), ()) else none)
theorem zsI (a0) (a1) {r} (h : zj3 M a0 a1 = some r) : zca M a0 a1 = some r := fixC (E := E1) ((fun O => (by kernel_rfl : zca (Φ E1 O) a0 a1 = zj3 O a0 a1)) M) h
noncomputable def zgv (O : Oracle E1) (a0 : List (Int × Int)) (a1 : Ym) (a2 : Ym) (a3 : Int) (a4 : Int) : Option Yz :=
  (if (decide (a4 < a3)) = true then ((idx a2 a4).bind fun x1 => (if List.length x1 * 8 ≤ 140737488355328 then (if 0 ≤ a4 ∧ a4 < (a1.length : Int) then ((a1[a4.toNat]?).bind fun x2 => ((zdP O a0 (a1.set a4.toNat x1) a4 a2 a3 a4 x1 (x1.length : Int) (0 : Int)).bind (Sum.elim (fun y3 => (ze9 O y3.1 y3.2.1 y3.2.2.1 y3.2.2.2.1 (i64.wrap (y3.2.2.2.2.1 + 1)))) (fun r4 => (some (.inr r4)))))) else none) else none)) else (some (.inl (a1, ()))))
theorem zl6 (a0) (a1) (a2) (a3) (a4) {r} (h : zgv M a0 a1 a2 a3 a4 = some r) : ze9 M a0 a1 a2 a3 a4 = some r := fixL (E := E1) ((fun O => (by kernel_rfl : ze9 (Φ E1 O) a0 a1 a2 a3 a4 = zgv O a0 a1 a2 a3 a4)) M) h
noncomputable def zfz (O : Oracle E1) (a0 : List (Int × Int)) (a1 : Ym) (a2 : Int) (a3 : Ym) (a4 : Int) (a5 : Int) (a6 : Yb) (a7 : Int) (a8 : Int) : Option (YD ⊕ Yh) :=
  (if (decide (a8 < a7)) = true then ((((idx a6 a8).bind fun x2 => (if (decide (x2 ≥ 0)) = true then (some (.inl (a0, a1, a2, a3, a4, a5, a6, a7, a8, ()))) else (((if (!(mhas a0 x2)) = true then (some (.inl ((mput a0 x2 (i64.wrap ((-1 : Int) - (a0.length : Int)))), a1, a2, a8, x2, a3, a4, a5, a6, a7, a8, ()))) else (some (.inl (a0, a1, a2, a8, x2, a3, a4, a5, a6, a7, a8, ())))) : Option (((List (Int × Int)) × Ym × Int × Int × Int × Ym × Int × Int × Yb × Int × Int × Unit) ⊕ YK)).bind (Sum.elim (fun q3 => (if 0 ≤ q3.2.2.1 ∧ q3.2.2.1 < (q3.2.1.length : Int) then ((q3.2.1[q3.2.2.1.toNat]?).bind fun x4 => (if 0 ≤ q3.2.2.2.1 ∧ q3.2.2.2.1 < (x4.length : Int) then ((x4[q3.2.2.2.1.toNat]?).bind fun x5 => (some (.inl (q3.1, (q3.2.1.set q3.2.2.1.toNat (x4.set q3.2.2.2.1.toNat (mget q3.1 q3.2.2.2.2.1 (0 : Int)))), q3.2.2.1, q3.2.2.2.2.2.1, q3.2.2.2.2.2.2.1, q3.2.2.2.2.2.2.2.1, q3.2.2.2.2.2.2.2.2.1, q3.2.2.2.2.2.2.2.2.2.1, q3.2.2.2.2.2.2.2.2.2.2.1, ())))) else none)) else none)) (fun r => some r))))) : Option YK).bind (Sum.elim (fun q1 => (zdP O q1.1 q1.2.1 q1.2.2.1 q1.2.2.2.1 q1.2.2.2.2.1 q1.2.2.2.2.2.1 q1.2.2.2.2.2.2.1 q1.2.2.2.2.2.2.2.1 (i64.wrap (q1.2.2.2.2.2.2.2.2.1 + 1)))) (fun r => some r))) else (some (.inl (a0, a1, a3, a4, a5, ()))))
theorem zkn (a0) (a1) (a2) (a3) (a4) (a5) (a6) (a7) (a8) {r} (h : zfz M a0 a1 a2 a3 a4 a5 a6 a7 a8 = some r) : zdP M a0 a1 a2 a3 a4 a5 a6 a7 a8 = some r := fixL (E := E1) ((fun O => (by kernel_rfl : zdP (Φ E1 O) a0 a1 a2 a3 a4 a5 a6 a7 a8 = zfz O a0 a1 a2 a3 a4 a5 a6 a7 a8)) M) h
noncomputable def zmL (O : Oracle E1) (a0 : Ym) : Option Yh :=
  (if 0 ≤ (a0.length : Int) ∧ ((24 : Nat) : Int) * (a0.length : Int) ≤ 140737488355328 ∧ (a0.length : Int) = (a0.length : Int) then ((ze9 O ([] : List (Int × Int)) (List.replicate (Int.toNat (a0.length : Int)) ([] : Yb)) a0 (a0.length : Int) (0 : Int)).bind (Sum.elim (fun y1 => (some ((y1.1, ()), ()))) (fun r2 => (some r2)))) else none)
theorem zvz (a0) {r} (h : zmL M a0 = some r) : zjU M a0 = some r := fixC (E := E1) ((fun O => (by kernel_rfl : zjU (Φ E1 O) a0 = zmL O a0)) M) h
noncomputable def zik (O : Oracle E1) (a0 : Yf) : Option Yj :=
  ((zcg O a0).bind fun r1 => ((zjU O r1.1.1).bind fun r2 => ((zca O a0 r2.1.1).bind fun r3 => (some ((r3.1.1, ()), ())))))
theorem zp8 (a0) {r} (h : zik M a0 = some r) : zga M a0 = some r := fixC (E := E1) ((fun O => (by kernel_rfl : zga (Φ E1 O) a0 = zik O a0)) M) h
noncomputable def zcG (O : Oracle E1) (a0 : Yb) (a1 : Yb) (a2 : Int) (a3 : Int) : Option Ys :=
  (if (decide (a3 < a2)) = true then ((idx a0 a3).bind fun x1 => ((idx a1 a3).bind fun x2 => (if (x1 != x2) = true then (some (.inr ((false, ()), ()))) else (zbT O a0 a1 a2 (i64.wrap (a3 + 1)))))) else (some (.inl ())))
theorem zh0 (a0) (a1) (a2) (a3) {r} (h : zcG M a0 a1 a2 a3 = some r) : zbT M a0 a1 a2 a3 = some r := fixL (E := E1) ((fun O => (by kernel_rfl : zbT (Φ E1 O) a0 a1 a2 a3 = zcG O a0 a1 a2 a3)) M) h
noncomputable def zgZ (O : Oracle E1) (a0 : Yb) (a1 : Yb) : Option Yc :=
  (if ((a0.length : Int) != (a1.length : Int)) = true then (some ((false, ()), ())) else ((zbT O a0 a1 (a0.length : Int) (0 : Int)).bind (Sum.elim (fun y1 => (some ((true, ()), ()))) (fun r2 => (some r2)))))
theorem zom (a0) (a1) {r} (h : zgZ M a0 a1 = some r) : zJ M a0 a1 = some r := fixC (E := E1) ((fun O => (by kernel_rfl : zJ (Φ E1 O) a0 a1 = zgZ O a0 a1)) M) h
noncomputable def zln (O : Oracle E1) (a0 : Ya) : Option ((Ya × Unit) × (Unit)) :=
  (if List.length a0.2.1 * 8 ≤ 140737488355328 then (if List.length a0.2.2.1 * 8 ≤ 140737488355328 then (some (((a0.1, a0.2.1, a0.2.2.1, ()), ()), ())) else none) else none)
theorem ztX (a0) {r} (h : zln M a0 = some r) : zhx M a0 = some r := fixC (E := E1) ((fun O => (by kernel_rfl : zhx (Φ E1 O) a0 = zln O a0)) M) h
noncomputable def zkc (O : Oracle E1) (a0 : Ya) (a1 : Ya) : Option Yc :=
  ((zJ O a0.2.1 a1.2.1).bind fun r1 => (if r1.1.1 = true then ((zJ O a0.2.2.1 a1.2.2.1).bind fun r2 => (if r2.1.1 = true then (some ((true, ()), ())) else ((zJ O a0.2.1 a1.2.2.1).bind fun r3 => (if r3.1.1 = true then ((zJ O a0.2.2.1 a1.2.1).bind fun r4 => (some ((r4.1.1, ()), ()))) else (some ((false, ()), ())))))) else ((zJ O a0.2.1 a1.2.2.1).bind fun r5 => (if r5.1.1 = true then ((zJ O a0.2.2.1 a1.2.1).bind fun r6 => (some ((r6.1.1, ()), ()))) else (some ((false, ()), ()))))))
theorem zsk (a0) (a1) {r} (h : zkc M a0 a1 = some r) : zhM M a0 a1 = some r := fixC (E := E1) ((fun O => (by kernel_rfl : zhM (Φ E1 O) a0 a1 = zkc O a0 a1)) M) h
noncomputable def zmF (O : Oracle E1) (a0 : Ya) (a1 : Ya) : Option Yc :=
  (if (a1.1 == a0.1) = true then ((zhM O (a1.1, a1.2.1, a1.2.2.1, ()) (a0.1, a0.2.1, a0.2.2.1, ())).bind fun r1 => (some ((r1.1.1, ()), ()))) else (some ((false, ()), ())))
theorem zvr (a0) (a1) {r} (h : zmF M a0 a1 = some r) : zjV M a0 a1 = some r := fixC (E := E1) ((fun O => (by kernel_rfl : zjV (Φ E1 O) a0 a1 = zmF O a0 a1)) M) h
noncomputable def zE (O : Oracle E1) (a0 : Yf) (a1 : Ya × Unit) (a2 : Int) (a3 : Int) : Option Yv :=
  (if (decide (a3 < a2)) = true then ((idx a0 a3).bind fun x1 => ((zjV O (x1.1, x1.2.1, x1.2.2.1, ()) a1.1).bind fun r2 => (if r2.1.1 = true then (some (.inr ((a3, ()), ()))) else (zH O a0 a1 a2 (i64.wrap (a3 + 1)))))) else (some (.inl ())))
theorem zaM (a0) (a1) (a2) (a3) {r} (h : zE M a0 a1 a2 a3 = some r) : zH M a0 a1 a2 a3 = some r := fixL (E := E1) ((fun O => (by kernel_rfl : zH (Φ E1 O) a0 a1 a2 a3 = zE O a0 a1 a2 a3)) M) h
noncomputable def zak (O : Oracle E1) (a0 : Yf) (a1 : Ya × Unit) : Option Ye :=
  ((zH O a0 a1 (a0.length : Int) (0 : Int)).bind (Sum.elim (fun y1 => (some (((-1 : Int), ()), ()))) (fun r2 => (some r2))))
theorem zbV (a0) (a1) {r} (h : zak M a0 a1 = some r) : za5 M a0 a1 = some r := fixC (E := E1) ((fun O => (by kernel_rfl : za5 (Φ E1 O) a0 a1 = zak O a0 a1)) M) h
noncomputable def zaS (O : Oracle E1) (a0 : Yf) (a1 : Ya × Unit) : Option Yc :=
  ((za5 O a0 a1).bind fun r1 => (some (((decide (r1.1.1 ≥ 0)), ()), ())))
theorem ze0 (a0) (a1) {r} (h : zaS M a0 a1 = some r) : zG M a0 a1 = some r := fixC (E := E1) ((fun O => (by kernel_rfl : zG (Φ E1 O) a0 a1 = zaS O a0 a1)) M) h
noncomputable def ziy (O : Oracle E1) (a0 : Yf) (a1 : Yf) (a2 : Int) (a3 : Int) : Option Yw :=
  (if (decide (a3 < a2)) = true then ((((idx a1 a3).bind fun x2 => (if (!x2.1) = true then ((zJ O x2.2.1 x2.2.2.1).bind fun r3 => (if r3.1.1 = true then (some (.inl (a0, a1, a2, a3, ()))) else ((zG O a0 ((x2.1, x2.2.1, x2.2.2.1, ()), ())).bind fun r4 => (if (!r4.1.1) = true then ((zhx O ((x2.1, x2.2.1, x2.2.2.1, ()).1, (x2.1, x2.2.1, x2.2.2.1, ()).2.1, (x2.1, x2.2.1, x2.2.2.1, ()).2.2.1, ())).bind fun r5 => (if (List.length a0 + List.length ([(r5.1.1.1, r5.1.1.2.1, r5.1.1.2.2.1, ())] : Yf)) * 56 ≤ 140737488355328 then (some (.inl ((a0 ++ ([(r5.1.1.1, r5.1.1.2.1, r5.1.1.2.2.1, ())] : Yf)), a1, a2, a3, ()))) else none)) else (some (.inl (a0, a1, a2, a3, ()))))))) else ((zG O a0 ((x2.1, x2.2.1, x2.2.2.1, ()), ())).bind fun r6 => (if (!r6.1.1) = true then ((zhx O ((x2.1, x2.2.1, x2.2.2.1, ()).1, (x2.1, x2.2.1, x2.2.2.1, ()).2.1, (x2.1, x2.2.1, x2.2.2.1, ()).2.2.1, ())).bind fun r7 => (if (List.length a0 + List.length ([(r7.1.1.1, r7.1.1.2.1, r7.1.1.2.2.1, ())] : Yf)) * 56 ≤ 140737488355328 then (some (.inl ((a0 ++ ([(r7.1.1.1, r7.1.1.2.1, r7.1.1.2.2.1, ())] : Yf)), a1, a2, a3, ()))) else none)) else (some (.inl (a0, a1, a2, a3, ()))))))) : Option ((Yf × Yf × Int × Int × Unit) ⊕ ((Yf × Unit) ⊕ (Yj)))).bind (Sum.elim (fun q1 => (zd6 O q1.1 q1.2.1 q1.2.2.1 (i64.wrap (q1.2.2.2.1 + 1)))) (fun r => some r))) else (some (.inl (a0, ()))))
theorem zof (a0) (a1) (a2) (a3) {r} (h : ziy M a0 a1 a2 a3 = some r) : zd6 M a0 a1 a2 a3 = some r := fixL (E := E1) ((fun O => (by kernel_rfl : zd6 (Φ E1 O) a0 a1 a2 a3 = ziy O a0 a1 a2 a3)) M) h
noncomputable def zoo (O : Oracle E1) (a0 : Yf) : Option Yj :=
  ((zd6 O [] a0 (a0.length : Int) (0 : Int)).bind (Sum.elim (fun y1 => (some ((y1.1, ()), ()))) (fun r2 => (some r2))))
theorem zwW (a0) {r} (h : zoo M a0 = some r) : zlU M a0 = some r := fixC (E := E1) ((fun O => (by kernel_rfl : zlU (Φ E1 O) a0 = zoo O a0)) M) h
noncomputable def zj5 (O : Oracle E1) (a0 : Yf) : Option Yj :=
  ((zlU O a0).bind fun r1 => ((zga O r1.1.1).bind fun r2 => (some ((r2.1.1, ()), ()))))
theorem zsS (a0) {r} (h : zj5 M a0 = some r) : zb2 M a0 = some r := fixC (E := E1) ((fun O => (by kernel_rfl : zb2 (Φ E1 O) a0 = zj5 O a0)) M) h
noncomputable def zk4 (O : Oracle E1) (a0 : Yf) (a1 : Int) : Option Yl :=
  (if (a1 == 0) = true then (some ((a0, true, ()), ())) else (some ((a0, (a1 == 5), ()), ())))
theorem ztu (a0) (a1) {r} (h : zk4 M a0 a1 = some r) : zeR M a0 a1 = some r := fixC (E := E1) ((fun O => (by kernel_rfl : zeR (Φ E1 O) a0 a1 = zk4 O a0 a1)) M) h
noncomputable def zgm (O : Oracle E1) (a0 : Yf) (a1 : Int) (a2 : Bool) : Option Yc :=
  (if (decide (a1 ≥ 0)) = true then (if (decide (a1 < (a0.length : Int))) = true then ((idx a0 a1).bind fun x1 => (some (((x1.1 == a2), ()), ()))) else (some ((false, ()), ()))) else (some ((false, ()), ())))
theorem zjQ (a0) (a1) (a2) {r} (h : zgm M a0 a1 a2 = some r) : zcd M a0 a1 a2 = some r := fixC (E := E1) ((fun O => (by kernel_rfl : zcd (Φ E1 O) a0 a1 a2 = zgm O a0 a1 a2)) M) h
noncomputable def zmD (O : Oracle E1) (a0 : Int) : Option Yc :=
  (if (a0 == 0) = true then (some ((true, ()), ())) else (some (((a0 == 1), ()), ())))
theorem zuY (a0) {r} (h : zmD M a0 = some r) : ze3 M a0 = some r := fixC (E := E1) ((fun O => (by kernel_rfl : ze3 (Φ E1 O) a0 = zmD O a0)) M) h
noncomputable def zkV (O : Oracle E1) (a0 : Ya) (a1 : Int) : Option ((Yb × Yb × Unit) × (Unit)) :=
  (if (a1 == 0) = true then (some ((a0.2.1, a0.2.2.1, ()), ())) else (some ((a0.2.2.1, a0.2.1, ()), ())))
theorem zty (a0) (a1) {r} (h : zkV M a0 a1 = some r) : zao M a0 a1 = some r := fixC (E := E1) ((fun O => (by kernel_rfl : zao (Φ E1 O) a0 a1 = zkV O a0 a1)) M) h
noncomputable def zbJ (O : Oracle E1) (a0 : Yb) (a1 : Int) (a2 : Int) (a3 : Int) : Option Yv :=
  (if (decide (a3 < a2)) = true then ((idx a0 a3).bind fun x1 => (if (a1 == x1) = true then (some (.inr ((a3, ()), ()))) else (zbS O a0 a1 a2 (i64.wrap (a3 + 1))))) else (some (.inl ())))
theorem ze5 (a0) (a1) (a2) (a3) {r} (h : zbJ M a0 a1 a2 a3 = some r) : zbS M a0 a1 a2 a3 = some r := fixL (E := E1) ((fun O => (by kernel_rfl : zbS (Φ E1 O) a0 a1 a2 a3 = zbJ O a0 a1 a2 a3)) M) h
noncomputable def zej (O : Oracle E1) (a0 : Yb) (a1 : Int) : Option Ye :=
  ((zbS O a0 a1 (a0.length : Int) (0 : Int)).bind (Sum.elim (fun y1 => (some (((-1 : Int), ()), ()))) (fun r2 => (some r2))))
theorem zjB (a0) (a1) {r} (h : zej M a0 a1 = some r) : zg3 M a0 a1 = some r := fixC (E := E1) ((fun O => (by kernel_rfl : zg3 (Φ E1 O) a0 a1 = zej O a0 a1)) M) h
noncomputable def zdc (O : Oracle E1) (a0 : Yb) (a1 : Int) : Option Yc :=
  ((zg3 O a0 a1).bind fun r1 => (some (((decide (r1.1.1 ≥ 0)), ()), ())))
theorem znd (a0) (a1) {r} (h : zdc M a0 a1 = some r) : zaZ M a0 a1 = some r := fixC (E := E1) ((fun O => (by kernel_rfl : zaZ (Φ E1 O) a0 a1 = zdc O a0 a1)) M) h
noncomputable def zkU (O : Oracle E1) (a0 : Yb) (a1 : Int) : Option Yc :=
  ((zaZ O a0 (i64.wrap ((-1 : Int) - a1))).bind fun r1 => (some ((r1.1.1, ()), ())))
theorem zs5 (a0) (a1) {r} (h : zkU M a0 a1 = some r) : ziE M a0 a1 = some r := fixC (E := E1) ((fun O => (by kernel_rfl : ziE (Φ E1 O) a0 a1 = zkU O a0 a1)) M) h
noncomputable def zS (O : Oracle E1) (a0 : Ym) (a1 : Yq) (a2 : Int) (a3 : Int) : Option Yv :=
  (if (decide (a3 < a2)) = true then ((idx a0 a3).bind fun x1 => ((ziE O x1 a1.1).bind fun r2 => (if r2.1.1 = true then (some (.inr ((a3, ()), ()))) else (zV O a0 a1 a2 (i64.wrap (a3 + 1)))))) else (some (.inl ())))
theorem zba (a0) (a1) (a2) (a3) {r} (h : zS M a0 a1 a2 a3 = some r) : zV M a0 a1 a2 a3 = some r := fixL (E := E1) ((fun O => (by kernel_rfl : zV (Φ E1 O) a0 a1 a2 a3 = zS O a0 a1 a2 a3)) M) h
noncomputable def zaz (O : Oracle E1) (a0 : Ym) (a1 : Yq) : Option Ye :=
  ((zV O a0 a1 (a0.length : Int) (0 : Int)).bind (Sum.elim (fun y1 => (some (((-1 : Int), ()), ()))) (fun r2 => (some r2))))
theorem zcD (a0) (a1) {r} (h : zaz M a0 a1 = some r) : zbs M a0 a1 = some r := fixC (E := E1) ((fun O => (by kernel_rfl : zbs (Φ E1 O) a0 a1 = zaz O a0 a1)) M) h
noncomputable def zar (O : Oracle E1) (a0 : Ym) (a1 : Yq) : Option Yc :=
  ((zbs O a0 a1).bind fun r1 => (some (((decide (r1.1.1 ≥ 0)), ()), ())))
theorem zgg (a0) (a1) {r} (h : zar M a0 a1 = some r) : zap M a0 a1 = some r := fixC (E := E1) ((fun O => (by kernel_rfl : zap (Φ E1 O) a0 a1 = zar O a0 a1)) M) h
noncomputable def zhj (O : Oracle E1) (a0 : Ym) (a1 : Yb) (a2 : Int) : Option YH :=
  (if (decide (a2 < 12)) = true then ((((zap O a0 (a2, ())).bind fun r2 => (if r2.1.1 = true then (if (List.length a1 + List.length ([a2] : Yb)) * 8 ≤ 140737488355328 then (some (.inl (a0, (a1 ++ ([a2] : Yb)), a2, ()))) else none) else (some (.inl (a0, a1, a2, ()))))) : Option ((Ym × Yb × Int × Unit) ⊕ (Yg ⊕ (Yo)))).bind (Sum.elim (fun q1 => (zfN O q1.1 q1.2.1 (i64.wrap (q1.2.2.1 + 1)))) (fun r => some r))) else (some (.inl (a1, ()))))
theorem zm5 (a0) (a1) (a2) {r} (h : zhj M a0 a1 a2 = some r) : zfN M a0 a1 a2 = some r := fixL (E := E1) ((fun O => (by kernel_rfl : zfN (Φ E1 O) a0 a1 a2 = zhj O a0 a1 a2)) M) h
noncomputable def zmX (O : Oracle E1) (a0 : Ym) : Option Yo :=
  ((zfN O a0 [] (0 : Int)).bind (Sum.elim (fun y1 => (some ((y1.1, ()), ()))) (fun r2 => (some r2))))
theorem zvA (a0) {r} (h : zmX M a0 = some r) : zjM M a0 = some r := fixC (E := E1) ((fun O => (by kernel_rfl : zjM (Φ E1 O) a0 = zmX O a0)) M) h
noncomputable def zhD (O : Oracle E1) (a0 : Int) (a1 : Yb) (a2 : Int) (a3 : Int) : Option YH :=
  (if (decide (a3 < a2)) = true then (((if 0 ≤ a3 ∧ a3 < (a1.length : Int) then ((a1[a3.toNat]?).bind fun x2 => (if (decide (x2 < 0)) = true then (if 0 ≤ a3 ∧ a3 < (a1.length : Int) then ((a1[a3.toNat]?).bind fun x3 => (some (.inl (a0, (a1.set a3.toNat (i64.wrap (x2 - a0))), a2, a3, ())))) else none) else (some (.inl (a0, a1, a2, a3, ()))))) else none) : Option ((Int × Yb × Int × Int × Unit) ⊕ (Yg ⊕ (Yo)))).bind (Sum.elim (fun q1 => (zgU O q1.1 q1.2.1 q1.2.2.1 (i64.wrap (q1.2.2.2.1 + 1)))) (fun r => some r))) else (some (.inl (a1, ()))))
theorem zny (a0) (a1) (a2) (a3) {r} (h : zhD M a0 a1 a2 a3 = some r) : zgU M a0 a1 a2 a3 = some r := fixL (E := E1) ((fun O => (by kernel_rfl : zgU (Φ E1 O) a0 a1 a2 a3 = zhD O a0 a1 a2 a3)) M) h
noncomputable def znz (O : Oracle E1) (a0 : Yb) (a1 : Int) : Option Yo :=
  (if List.length a0 * 8 ≤ 140737488355328 then ((zgU O a1 a0 (a0.length : Int) (0 : Int)).bind (Sum.elim (fun y1 => (some ((y1.1, ()), ()))) (fun r2 => (some r2)))) else none)
theorem zvN (a0) (a1) {r} (h : znz M a0 a1 = some r) : zku M a0 a1 = some r := fixC (E := E1) ((fun O => (by kernel_rfl : zku (Φ E1 O) a0 a1 = znz O a0 a1)) M) h
noncomputable def zg1 (O : Oracle E1) (a0 : Yb) (a1 : Yg) : Option Yc :=
  ((zcX O (a1.1, ()) a0).bind fun r1 => (some (((!r1.1.1), ()), ())))
theorem zox (a0) (a1) {r} (h : zg1 M a0 a1 = some r) : zem M a0 a1 = some r := fixC (E := E1) ((fun O => (by kernel_rfl : zem (Φ E1 O) a0 a1 = zg1 O a0 a1)) M) h
noncomputable def zu (O : Oracle E1) (a0 : Ym) (a1 : Yg × Unit) (a2 : Int) (a3 : Int) : Option Yv :=
  (if (decide (a3 < a2)) = true then ((idx a0 a3).bind fun x1 => ((zem O x1 a1.1).bind fun r2 => (if r2.1.1 = true then (some (.inr ((a3, ()), ()))) else (zC O a0 a1 a2 (i64.wrap (a3 + 1)))))) else (some (.inl ())))
theorem zaD (a0) (a1) (a2) (a3) {r} (h : zu M a0 a1 a2 a3 = some r) : zC M a0 a1 a2 a3 = some r := fixL (E := E1) ((fun O => (by kernel_rfl : zC (Φ E1 O) a0 a1 a2 a3 = zu O a0 a1 a2 a3)) M) h
noncomputable def zab (O : Oracle E1) (a0 : Ym) (a1 : Yg × Unit) : Option Ye :=
  ((zC O a0 a1 (a0.length : Int) (0 : Int)).bind (Sum.elim (fun y1 => (some (((-1 : Int), ()), ()))) (fun r2 => (some r2))))
theorem zbM (a0) (a1) {r} (h : zab M a0 a1 = some r) : zaW M a0 a1 = some r := fixC (E := E1) ((fun O => (by kernel_rfl : zaW (Φ E1 O) a0 a1 = zab O a0 a1)) M) h
noncomputable def zaF (O : Oracle E1) (a0 : Ym) (a1 : Yg × Unit) : Option Yc :=
  ((zaW O a0 a1).bind fun r1 => (some (((decide (r1.1.1 ≥ 0)), ()), ())))
theorem zeq (a0) (a1) {r} (h : zaF M a0 a1 = some r) : z5 M a0 a1 = some r := fixC (E := E1) ((fun O => (by kernel_rfl : z5 (Φ E1 O) a0 a1 = zaF O a0 a1)) M) h
noncomputable def zhX (O : Oracle E1) (a0 : Yg) (a1 : Ym) : Option Yc :=
  ((z5 O a1 ((a0.1, ()), ())).bind fun r1 => (some (((!r1.1.1), ()), ())))
theorem zpt (a0) (a1) {r} (h : zhX M a0 a1 = some r) : zdt M a0 a1 = some r := fixC (E := E1) ((fun O => (by kernel_rfl : zdt (Φ E1 O) a0 a1 = zhX O a0 a1)) M) h
noncomputable def zd8 (O : Oracle E1) (a0 : Yf) (a1 : Yg) (a2 : Int) (a3 : List Yu) (a4 : Int) (a5 : Int) : Option ((Yf × Yg × (List Yu) × Unit) ⊕ Yl) :=
  (if (decide (a5 < a4)) = true then (if 0 ≤ a5 ∧ a5 < (a3.length : Int) then ((seeO a3 a5.toNat).bind fun x1 => ((zku O x1 a2).bind fun r2 => (if 0 ≤ a5 ∧ a5 < (a3.length : Int) then ((a3[a5.toNat]?).bind fun x3 => (zbX O a0 (a1.1, ()) a2 (a3.set a5.toNat (some (true, r2.1.1) : Yu)) a4 (i64.wrap (a5 + 1)))) else none))) else none) else (some (.inl (a0, (a1.1, ()), a3, ()))))
theorem zjt (a0) (a1) (a2) (a3) (a4) (a5) {r} (h : zd8 M a0 a1 a2 a3 a4 a5 = some r) : zbX M a0 a1 a2 a3 a4 a5 = some r := fixL (E := E1) ((fun O => (by kernel_rfl : zbX (Φ E1 O) a0 a1 a2 a3 a4 a5 = zd8 O a0 a1 a2 a3 a4 a5)) M) h
noncomputable def zjp (O : Oracle E1) (a0 : Yg) (a1 : Yf) (a2 : Yf) : Option Yl :=
  ((((zcg O a1).bind fun r2 => ((zjM O r2.1.1).bind fun r3 => (if (decide ((r3.1.1.length : Int) > (0 : Int))) = true then (if 0 ≤ (i64.wrap ((r3.1.1.length : Int) - (1 : Int))) ∧ (i64.wrap ((r3.1.1.length : Int) - (1 : Int))) < (r3.1.1.length : Int) then ((r3.1.1[(Int.toNat (i64.wrap ((r3.1.1.length : Int) - (1 : Int))))]?).bind fun x4 => (some (.inl (a2, (a0.1, ()), (i64.wrap (x4 + 1)), ())))) else none) else (some (.inl (a2, (a0.1, ()), (0 : Int), ())))))) : Option ((Yf × Yg × Int × Unit) ⊕ (Yf × Bool × Unit) × (Unit))).bind (Sum.elim (fun q1 => ((zcg O q1.1).bind fun r5 => ((zbX O q1.1 (q1.2.1.1, ()) q1.2.2.1 (List.map (fun x => (some (false, x) : Yu)) r5.1.1) (r5.1.1.length : Int) (0 : Int)).bind (Sum.elim (fun y6 => (if allOw y6.2.2.1 = true then ((zdt O (y6.2.1.1, ()) (forceL y6.2.2.1)).bind fun r8 => (if (!r8.1.1) = true then (some (([], false, ()), ())) else ((zca O y6.1 (forceL y6.2.2.1)).bind fun r9 => (some ((r9.1.1, true, ()), ()))))) else none)) (fun r7 => (some r7)))))) (fun r => some r)))
theorem zrA (a0) (a1) (a2) {r} (h : zjp M a0 a1 a2 = some r) : zhd M a0 a1 a2 = some r := fixC (E := E1) ((fun O => (by kernel_rfl : zhd (Φ E1 O) a0 a1 a2 = zjp O a0 a1 a2)) M) h
noncomputable def zf6 (O : Oracle E1) (a0 : Yb) (a1 : Int) (a2 : Yg) (a3 : Int) : Option YF :=
  (if (decide (a3 > 0)) = true then ((idx a0 a1).bind fun x1 => ((zdY O (a2.1, ()) x1).bind fun r2 => (zex O a0 (i64.wrap (a1 + 1)) (a2.1, ()) (i64.wrap (a3 + (i64.wrap (r2.1.1 - 1))))))) else (some (.inl (a1, ()))))
theorem zld (a0) (a1) (a2) (a3) {r} (h : zf6 M a0 a1 a2 a3 = some r) : zex M a0 a1 a2 a3 = some r := fixL (E := E1) ((fun O => (by kernel_rfl : zex (Φ E1 O) a0 a1 a2 a3 = zf6 O a0 a1 a2 a3)) M) h
noncomputable def zgM (O : Oracle E1) (a0 : Yg) (a1 : Yb) (a2 : Int) : Option Ye :=
  ((zex O a1 a2 (a0.1, ()) (1 : Int)).bind (Sum.elim (fun y1 => (some ((y1.1, ()), ()))) (fun r2 => (some r2))))
theorem zk0 (a0) (a1) (a2) {r} (h : zgM M a0 a1 a2 = some r) : zcp M a0 a1 a2 = some r := fixC (E := E1) ((fun O => (by kernel_rfl : zcp (Φ E1 O) a0 a1 a2 = zgM O a0 a1 a2)) M) h
noncomputable def zkb (O : Oracle E1) (a0 : Yg) (a1 : Yb) (a2 : Int) : Option Yo :=
  ((zcp O (a0.1, ()) a1 a2).bind fun r1 => (if 0 ≤ a2 ∧ a2 ≤ r1.1.1 ∧ r1.1.1 ≤ (a1.length : Int) then (if List.length ((a1.take r1.1.1.toNat).drop a2.toNat) * 8 ≤ 140737488355328 then (some ((((a1.take r1.1.1.toNat).drop a2.toNat), ()), ())) else none) else none))
theorem zse (a0) (a1) (a2) {r} (h : zkb M a0 a1 a2 = some r) : zau M a0 a1 a2 = some r := fixC (E := E1) ((fun O => (by kernel_rfl : zau (Φ E1 O) a0 a1 a2 = zkb O a0 a1 a2)) M) h
end Go.Proofs.YtkgpnekonnopgaaGreatMs.Ev
