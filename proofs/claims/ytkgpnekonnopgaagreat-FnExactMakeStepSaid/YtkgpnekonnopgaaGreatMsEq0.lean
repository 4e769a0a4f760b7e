/- A text of its own: Eq0; no condition but those that each theorem names. -/
import Derived.Test.YtkgpnekonnopgaaGreatMsNm
import Derived.KernelRfl
namespace Go.Proofs.YtkgpnekonnopgaaGreatMs.Ev
open Go Go.IntKind
set_option maxRecDepth 100000
set_option autoImplicit false
set_option linter.unusedVariables false
noncomputable def zmw (O : Oracle E1) (a0 : Yb) (a1 : Int) : Option Ye :=
  (if (decide ((i64.wrap (a1 - (a0.length : Int))) < (0 : Int))) = true then (some (((-1 : Int), ()), ())) else (some (((i64.wrap (a1 - (a0.length : Int))), ()), ())))
theorem zuX (a0) (a1) {r} (h : zmw M a0 a1 = some r) : zdE M a0 a1 = some r := fixC (E := E1) ((fun O => (by kernel_rfl : zdE (Φ E1 O) a0 a1 = zmw O a0 a1)) M) h
noncomputable def zmT (O : Oracle E1) (a0 : Yg) (a1 : Int) : Option Ye :=
  ((zdE O a0.1 a1).bind fun r1 => (if (decide (r1.1.1 < 0)) = true then (some (((-1 : Int), ()), ())) else (some ((r1.1.1, ()), ()))))
theorem zvw (a0) (a1) {r} (h : zmT M a0 a1 = some r) : zjR M a0 a1 = some r := fixC (E := E1) ((fun O => (by kernel_rfl : zjR (Φ E1 O) a0 a1 = zmT O a0 a1)) M) h
noncomputable def ziL (O : Oracle E1) (a0 : Ya) (a1 : Int) : Option Ye :=
  ((zdE O a0.2.1 a1).bind fun r1 => (if (decide (r1.1.1 < 0)) = true then (some (((-1 : Int), ()), ())) else ((zdE O a0.2.2.1 r1.1.1).bind fun r2 => (if (decide (r2.1.1 < 0)) = true then (some (((-1 : Int), ()), ())) else (some ((r2.1.1, ()), ()))))))
theorem znq (a0) (a1) {r} (h : ziL M a0 a1 = some r) : zko M a0 a1 = some r := fixC (E := E1) ((fun O => (by kernel_rfl : zko (Φ E1 O) a0 a1 = ziL O a0 a1)) M) h
noncomputable def zer (O : Oracle E1) (a0 : Yf) (a1 : Int) (a2 : Int) : Option YF :=
  (if (decide (a2 < (a0.length : Int))) = true then ((idx a0 a2).bind fun x1 => ((zko O (x1.1, x1.2.1, x1.2.2.1, ()) a1).bind fun r2 => (if (decide (r2.1.1 < 0)) = true then (some (.inr (((-1 : Int), ()), ()))) else (zfm O a0 r2.1.1 (i64.wrap (a2 + 1)))))) else (some (.inl (a1, ()))))
theorem ziJ (a0) (a1) (a2) {r} (h : zer M a0 a1 a2 = some r) : zfm M a0 a1 a2 = some r := fixL (E := E1) ((fun O => (by kernel_rfl : zfm (Φ E1 O) a0 a1 a2 = zer O a0 a1 a2)) M) h
noncomputable def zh2 (O : Oracle E1) (a0 : Yf) (a1 : Int) : Option Ye :=
  (if (decide ((i64.wrap (a1 - (a0.length : Int))) < (0 : Int))) = true then (some (((-1 : Int), ()), ())) else ((zfm O a0 (i64.wrap (a1 - (a0.length : Int))) (0 : Int)).bind (Sum.elim (fun y1 => (some ((y1.1, ()), ()))) (fun r2 => (some r2)))))
theorem zmO (a0) (a1) {r} (h : zh2 M a0 a1 = some r) : zh7 M a0 a1 = some r := fixC (E := E1) ((fun O => (by kernel_rfl : zh7 (Φ E1 O) a0 a1 = zh2 O a0 a1)) M) h
noncomputable def zdO (O : Oracle E1) (a0 : YC) (a1 : Int) (a2 : Int) : Option YF :=
  (if (decide (a2 < (a0.length : Int))) = true then ((idx a0 a2).bind fun x1 => ((zh7 O x1 a1).bind fun r2 => (if (decide (r2.1.1 < 0)) = true then (some (.inr (((-1 : Int), ()), ()))) else (zeo O a0 r2.1.1 (i64.wrap (a2 + 1)))))) else (some (.inl (a1, ()))))
theorem zir (a0) (a1) (a2) {r} (h : zdO M a0 a1 a2 = some r) : zeo M a0 a1 a2 = some r := fixL (E := E1) ((fun O => (by kernel_rfl : zeo (Φ E1 O) a0 a1 a2 = zdO O a0 a1 a2)) M) h
noncomputable def zhn (O : Oracle E1) (a0 : YC) (a1 : Int) : Option Ye :=
  (if (decide ((i64.wrap (a1 - (a0.length : Int))) < (0 : Int))) = true then (some (((-1 : Int), ()), ())) else ((zeo O a0 (i64.wrap (a1 - (a0.length : Int))) (0 : Int)).bind (Sum.elim (fun y1 => (some ((y1.1, ()), ()))) (fun r2 => (some r2)))))
theorem zlK (a0) (a1) {r} (h : zhn M a0 a1 = some r) : zi4 M a0 a1 = some r := fixC (E := E1) ((fun O => (by kernel_rfl : zi4 (Φ E1 O) a0 a1 = zhn O a0 a1)) M) h
noncomputable def zgq (O : Oracle E1) (a0 : Yd) (a1 : Int) : Option Ye :=
  ((zdE O a0.2.1 a1).bind fun r1 => (if (decide (r1.1.1 < 0)) = true then (some (((-1 : Int), ()), ())) else ((zdE O a0.2.2.1 r1.1.1).bind fun r2 => (if (decide (r2.1.1 < 0)) = true then (some (((-1 : Int), ()), ())) else ((zh7 O a0.2.2.2.1 r2.1.1).bind fun r3 => (if (decide (r3.1.1 < 0)) = true then (some (((-1 : Int), ()), ())) else (some ((r3.1.1, ()), ()))))))))
theorem zjH (a0) (a1) {r} (h : zgq M a0 a1 = some r) : zjT M a0 a1 = some r := fixC (E := E1) ((fun O => (by kernel_rfl : zjT (Φ E1 O) a0 a1 = zgq O a0 a1)) M) h
noncomputable def zdV (O : Oracle E1) (a0 : List Yd) (a1 : Int) (a2 : Int) : Option YF :=
  (if (decide (a2 < (a0.length : Int))) = true then ((idx a0 a2).bind fun x1 => ((zjT O (x1.1, x1.2.1, x1.2.2.1, x1.2.2.2.1, ()) a1).bind fun r2 => (if (decide (r2.1.1 < 0)) = true then (some (.inr (((-1 : Int), ()), ()))) else (zet O a0 r2.1.1 (i64.wrap (a2 + 1)))))) else (some (.inl (a1, ()))))
theorem zil (a0) (a1) (a2) {r} (h : zdV M a0 a1 a2 = some r) : zet M a0 a1 a2 = some r := fixL (E := E1) ((fun O => (by kernel_rfl : zet (Φ E1 O) a0 a1 a2 = zdV O a0 a1 a2)) M) h
noncomputable def zhA (O : Oracle E1) (a0 : List Yd) (a1 : Int) : Option Ye :=
  (if (decide ((i64.wrap (a1 - (a0.length : Int))) < (0 : Int))) = true then (some (((-1 : Int), ()), ())) else ((zet O a0 (i64.wrap (a1 - (a0.length : Int))) (0 : Int)).bind (Sum.elim (fun y1 => (some ((y1.1, ()), ()))) (fun r2 => (some r2)))))
theorem zlL (a0) (a1) {r} (h : zhA M a0 a1 = some r) : zjd M a0 a1 = some r := fixC (E := E1) ((fun O => (by kernel_rfl : zjd (Φ E1 O) a0 a1 = zhA O a0 a1)) M) h
noncomputable def zg9 (O : Oracle E1) (a0 : Yb) (a1 : Yb) (a2 : Int) : Option YH :=
  (if (decide (a2 < (a0.length : Int))) = true then ((idx a0 a2).bind fun x1 => (if 0 ≤ a2 ∧ a2 < (a1.length : Int) then ((a1[a2.toNat]?).bind fun x2 => (zfQ O a0 (a1.set a2.toNat x1) (i64.wrap (a2 + 1)))) else none)) else (some (.inl (a1, ()))))
theorem zmZ (a0) (a1) (a2) {r} (h : zg9 M a0 a1 a2 = some r) : zfQ M a0 a1 a2 = some r := fixL (E := E1) ((fun O => (by kernel_rfl : zfQ (Φ E1 O) a0 a1 a2 = zg9 O a0 a1 a2)) M) h
noncomputable def zmK (O : Oracle E1) (a0 : Yb) : Option Yo :=
  (if 0 ≤ (a0.length : Int) ∧ ((8 : Nat) : Int) * (a0.length : Int) ≤ 140737488355328 ∧ (a0.length : Int) = (a0.length : Int) then ((zfQ O a0 (List.replicate (Int.toNat (a0.length : Int)) (0 : Int)) (0 : Int)).bind (Sum.elim (fun y1 => (some ((y1.1, ()), ()))) (fun r2 => (some r2)))) else none)
theorem zvh (a0) {r} (h : zmK M a0 = some r) : zaw M a0 = some r := fixC (E := E1) ((fun O => (by kernel_rfl : zaw (Φ E1 O) a0 = zmK O a0)) M) h
noncomputable def zmr (O : Oracle E1) (a0 : Yg) : Option ((Yg × Unit) × (Unit)) :=
  ((zaw O a0.1).bind fun r1 => (some (((r1.1.1, ()), ()), ())))
theorem zvy (a0) {r} (h : zmr M a0 = some r) : ze4 M a0 = some r := fixC (E := E1) ((fun O => (by kernel_rfl : ze4 (Φ E1 O) a0 = zmr O a0)) M) h
noncomputable def znS (O : Oracle E1) (a0 : Ya) : Option ((Ya × Unit) × (Unit)) :=
  ((zaw O a0.2.1).bind fun r1 => ((zaw O a0.2.2.1).bind fun r2 => (some (((a0.1, r1.1.1, r2.1.1, ()), ()), ()))))
theorem zwr (a0) {r} (h : znS M a0 = some r) : zk2 M a0 = some r := fixC (E := E1) ((fun O => (by kernel_rfl : zk2 (Φ E1 O) a0 = znS O a0)) M) h
noncomputable def zg6 (O : Oracle E1) (a0 : Yf) (a1 : Yf) (a2 : Int) : Option Yw :=
  (if (decide (a2 < (a0.length : Int))) = true then ((idx a0 a2).bind fun x1 => ((zk2 O (x1.1, x1.2.1, x1.2.2.1, ())).bind fun r2 => (if 0 ≤ a2 ∧ a2 < (a1.length : Int) then ((a1[a2.toNat]?).bind fun x3 => (zf2 O a0 (a1.set a2.toNat (r2.1.1.1, r2.1.1.2.1, r2.1.1.2.2.1, ())) (i64.wrap (a2 + 1)))) else none))) else (some (.inl (a1, ()))))
theorem zm6 (a0) (a1) (a2) {r} (h : zg6 M a0 a1 a2 = some r) : zf2 M a0 a1 a2 = some r := fixL (E := E1) ((fun O => (by kernel_rfl : zf2 (Φ E1 O) a0 a1 a2 = zg6 O a0 a1 a2)) M) h
noncomputable def zmC (O : Oracle E1) (a0 : Yf) : Option Yj :=
  (if 0 ≤ (a0.length : Int) ∧ ((56 : Nat) : Int) * (a0.length : Int) ≤ 140737488355328 ∧ (a0.length : Int) = (a0.length : Int) then ((zf2 O a0 (List.replicate (Int.toNat (a0.length : Int)) (false, [], [], ())) (0 : Int)).bind (Sum.elim (fun y1 => (some ((y1.1, ()), ()))) (fun r2 => (some r2)))) else none)
theorem zve (a0) {r} (h : zmC M a0 = some r) : zh4 M a0 = some r := fixC (E := E1) ((fun O => (by kernel_rfl : zh4 (Φ E1 O) a0 = zmC O a0)) M) h
noncomputable def zgx (O : Oracle E1) (a0 : YC) (a1 : YC) (a2 : Int) : Option ((YC × Unit) ⊕ ((YC × Unit) × (Unit))) :=
  (if (decide (a2 < (a0.length : Int))) = true then ((idx a0 a2).bind fun x1 => ((zh4 O x1).bind fun r2 => (if 0 ≤ a2 ∧ a2 < (a1.length : Int) then ((a1[a2.toNat]?).bind fun x3 => (zfi O a0 (a1.set a2.toNat r2.1.1) (i64.wrap (a2 + 1)))) else none))) else (some (.inl (a1, ()))))
theorem zmj (a0) (a1) (a2) {r} (h : zgx M a0 a1 a2 = some r) : zfi M a0 a1 a2 = some r := fixL (E := E1) ((fun O => (by kernel_rfl : zfi (Φ E1 O) a0 a1 a2 = zgx O a0 a1 a2)) M) h
noncomputable def zlj (O : Oracle E1) (a0 : YC) : Option ((YC × Unit) × (Unit)) :=
  (if 0 ≤ (a0.length : Int) ∧ ((24 : Nat) : Int) * (a0.length : Int) ≤ 140737488355328 ∧ (a0.length : Int) = (a0.length : Int) then ((zfi O a0 (List.replicate (Int.toNat (a0.length : Int)) ([] : Yf)) (0 : Int)).bind (Sum.elim (fun y1 => (some ((y1.1, ()), ()))) (fun r2 => (some r2)))) else none)
theorem zud (a0) {r} (h : zlj M a0 = some r) : zdZ M a0 = some r := fixC (E := E1) ((fun O => (by kernel_rfl : zdZ (Φ E1 O) a0 = zlj O a0)) M) h
noncomputable def zmW (O : Oracle E1) (a0 : Yd) : Option ((Yd × Unit) × (Unit)) :=
  ((zaw O a0.2.1).bind fun r1 => ((zaw O a0.2.2.1).bind fun r2 => ((zh4 O a0.2.2.2.1).bind fun r3 => (some (((a0.1, r1.1.1, r2.1.1, r3.1.1, ()), ()), ())))))
theorem zuV (a0) {r} (h : zmW M a0 = some r) : zjJ M a0 = some r := fixC (E := E1) ((fun O => (by kernel_rfl : zjJ (Φ E1 O) a0 = zmW O a0)) M) h
noncomputable def zgN (O : Oracle E1) (a0 : List Yd) (a1 : List Yd) (a2 : Int) : Option (YE ⊕ (YE × (Unit))) :=
  (if (decide (a2 < (a0.length : Int))) = true then ((idx a0 a2).bind fun x1 => ((zjJ O (x1.1, x1.2.1, x1.2.2.1, x1.2.2.2.1, ())).bind fun r2 => (if 0 ≤ a2 ∧ a2 < (a1.length : Int) then ((a1[a2.toNat]?).bind fun x3 => (zfk O a0 (a1.set a2.toNat (r2.1.1.1, r2.1.1.2.1, r2.1.1.2.2.1, r2.1.1.2.2.2.1, ())) (i64.wrap (a2 + 1)))) else none))) else (some (.inl (a1, ()))))
theorem zl9 (a0) (a1) (a2) {r} (h : zgN M a0 a1 a2 = some r) : zfk M a0 a1 a2 = some r := fixL (E := E1) ((fun O => (by kernel_rfl : zfk (Φ E1 O) a0 a1 a2 = zgN O a0 a1 a2)) M) h
noncomputable def zlO (O : Oracle E1) (a0 : List Yd) : Option (YE × (Unit)) :=
  (if 0 ≤ (a0.length : Int) ∧ ((80 : Nat) : Int) * (a0.length : Int) ≤ 140737488355328 ∧ (a0.length : Int) = (a0.length : Int) then ((zfk O a0 (List.replicate (Int.toNat (a0.length : Int)) ((0 : Int), [], [], [], ())) (0 : Int)).bind (Sum.elim (fun y1 => (some ((y1.1, ()), ()))) (fun r2 => (some r2)))) else none)
theorem zup (a0) {r} (h : zlO M a0 = some r) : zd2 M a0 = some r := fixC (E := E1) ((fun O => (by kernel_rfl : zd2 (Φ E1 O) a0 = zlO O a0)) M) h
noncomputable def zhb (O : Oracle E1) (a0 : Yb) (a1 : Yb) (a2 : Int) : Option Ys :=
  (if (decide (a2 < (a0.length : Int))) = true then ((idx a0 a2).bind fun x1 => ((idx a1 a2).bind fun x2 => (if (x1 != x2) = true then (some (.inr ((false, ()), ()))) else (zfR O a0 a1 (i64.wrap (a2 + 1)))))) else (some (.inl ())))
theorem zm9 (a0) (a1) (a2) {r} (h : zhb M a0 a1 a2 = some r) : zfR M a0 a1 a2 = some r := fixL (E := E1) ((fun O => (by kernel_rfl : zfR (Φ E1 O) a0 a1 a2 = zhb O a0 a1 a2)) M) h
noncomputable def zmx (O : Oracle E1) (a0 : Yb) (a1 : Yb) : Option Yc :=
  (if ((a0.length : Int) != (a1.length : Int)) = true then (some ((false, ()), ())) else ((zfR O a0 a1 (0 : Int)).bind (Sum.elim (fun y1 => (some ((true, ()), ()))) (fun r2 => (some r2)))))
theorem zuZ (a0) (a1) {r} (h : zmx M a0 a1 = some r) : zcc M a0 a1 = some r := fixC (E := E1) ((fun O => (by kernel_rfl : zcc (Φ E1 O) a0 a1 = zmx O a0 a1)) M) h
noncomputable def zmV (O : Oracle E1) (a0 : Yg) (a1 : Yg) : Option Yc :=
  ((zcc O a0.1 a1.1).bind fun r1 => (if (!r1.1.1) = true then (some ((false, ()), ())) else (some ((true, ()), ()))))
theorem zvq (a0) (a1) {r} (h : zmV M a0 a1 = some r) : zjO M a0 a1 = some r := fixC (E := E1) ((fun O => (by kernel_rfl : zjO (Φ E1 O) a0 a1 = zmV O a0 a1)) M) h
noncomputable def znH (O : Oracle E1) (a0 : Ya) (a1 : Ya) : Option Yc :=
  (if (!(a0.1 == a1.1)) = true then (some ((false, ()), ())) else ((zcc O a0.2.1 a1.2.1).bind fun r1 => (if (!r1.1.1) = true then (some ((false, ()), ())) else ((zcc O a0.2.2.1 a1.2.2.1).bind fun r2 => (if (!r2.1.1) = true then (some ((false, ()), ())) else (some ((true, ()), ())))))))
theorem zwD (a0) (a1) {r} (h : znH M a0 a1 = some r) : zkD M a0 a1 = some r := fixC (E := E1) ((fun O => (by kernel_rfl : zkD (Φ E1 O) a0 a1 = znH O a0 a1)) M) h
noncomputable def zhm (O : Oracle E1) (a0 : Yf) (a1 : Yf) (a2 : Int) : Option Ys :=
  (if (decide (a2 < (a0.length : Int))) = true then ((idx a0 a2).bind fun x1 => ((idx a1 a2).bind fun x2 => ((zkD O (x1.1, x1.2.1, x1.2.2.1, ()) (x2.1, x2.2.1, x2.2.2.1, ())).bind fun r3 => (if (!r3.1.1) = true then (some (.inr ((false, ()), ()))) else (zfX O a0 a1 (i64.wrap (a2 + 1))))))) else (some (.inl ())))
theorem zm1 (a0) (a1) (a2) {r} (h : zhm M a0 a1 a2 = some r) : zfX M a0 a1 a2 = some r := fixL (E := E1) ((fun O => (by kernel_rfl : zfX (Φ E1 O) a0 a1 a2 = zhm O a0 a1 a2)) M) h
noncomputable def zmU (O : Oracle E1) (a0 : Yf) (a1 : Yf) : Option Yc :=
  (if ((a0.length : Int) != (a1.length : Int)) = true then (some ((false, ()), ())) else ((zfX O a0 a1 (0 : Int)).bind (Sum.elim (fun y1 => (some ((true, ()), ()))) (fun r2 => (some r2)))))
theorem zu6 (a0) (a1) {r} (h : zmU M a0 a1 = some r) : zhY M a0 a1 = some r := fixC (E := E1) ((fun O => (by kernel_rfl : zhY (Φ E1 O) a0 a1 = zmU O a0 a1)) M) h
noncomputable def zgI (O : Oracle E1) (a0 : YC) (a1 : YC) (a2 : Int) : Option Ys :=
  (if (decide (a2 < (a0.length : Int))) = true then ((idx a0 a2).bind fun x1 => ((idx a1 a2).bind fun x2 => ((zhY O x1 x2).bind fun r3 => (if (!r3.1.1) = true then (some (.inr ((false, ()), ()))) else (zfp O a0 a1 (i64.wrap (a2 + 1))))))) else (some (.inl ())))
theorem zme (a0) (a1) (a2) {r} (h : zgI M a0 a1 a2 = some r) : zfp M a0 a1 a2 = some r := fixL (E := E1) ((fun O => (by kernel_rfl : zfp (Φ E1 O) a0 a1 a2 = zgI O a0 a1 a2)) M) h
noncomputable def zlt (O : Oracle E1) (a0 : YC) (a1 : YC) : Option Yc :=
  (if ((a0.length : Int) != (a1.length : Int)) = true then (some ((false, ()), ())) else ((zfp O a0 a1 (0 : Int)).bind (Sum.elim (fun y1 => (some ((true, ()), ()))) (fun r2 => (some r2)))))
theorem zt7 (a0) (a1) {r} (h : zlt M a0 a1 = some r) : zi8 M a0 a1 = some r := fixC (E := E1) ((fun O => (by kernel_rfl : zi8 (Φ E1 O) a0 a1 = zlt O a0 a1)) M) h
noncomputable def zms (O : Oracle E1) (a0 : Yd) (a1 : Yd) : Option Yc :=
  (if (a0.1 != a1.1) = true then (some ((false, ()), ())) else ((zcc O a0.2.1 a1.2.1).bind fun r1 => (if (!r1.1.1) = true then (some ((false, ()), ())) else ((zcc O a0.2.2.1 a1.2.2.1).bind fun r2 => (if (!r2.1.1) = true then (some ((false, ()), ())) else ((zhY O a0.2.2.2.1 a1.2.2.2.1).bind fun r3 => (if (!r3.1.1) = true then (some ((false, ()), ())) else (some ((true, ()), ())))))))))
theorem zu0 (a0) (a1) {r} (h : zms M a0 a1 = some r) : ze7 M a0 a1 = some r := fixC (E := E1) ((fun O => (by kernel_rfl : ze7 (Φ E1 O) a0 a1 = zms O a0 a1)) M) h
noncomputable def zgF (O : Oracle E1) (a0 : List Yd) (a1 : List Yd) (a2 : Int) : Option Ys :=
  (if (decide (a2 < (a0.length : Int))) = true then ((idx a0 a2).bind fun x1 => ((idx a1 a2).bind fun x2 => ((ze7 O (x1.1, x1.2.1, x1.2.2.1, x1.2.2.2.1, ()) (x2.1, x2.2.1, x2.2.2.1, x2.2.2.2.1, ())).bind fun r3 => (if (!r3.1.1) = true then (some (.inr ((false, ()), ()))) else (ze8 O a0 a1 (i64.wrap (a2 + 1))))))) else (some (.inl ())))
theorem zl4 (a0) (a1) (a2) {r} (h : zgF M a0 a1 a2 = some r) : ze8 M a0 a1 a2 = some r := fixL (E := E1) ((fun O => (by kernel_rfl : ze8 (Φ E1 O) a0 a1 a2 = zgF O a0 a1 a2)) M) h
noncomputable def zlB (O : Oracle E1) (a0 : List Yd) (a1 : List Yd) : Option Yc :=
  (if ((a0.length : Int) != (a1.length : Int)) = true then (some ((false, ()), ())) else ((ze8 O a0 a1 (0 : Int)).bind (Sum.elim (fun y1 => (some ((true, ()), ()))) (fun r2 => (some r2)))))
theorem zug (a0) (a1) {r} (h : zlB M a0 a1 = some r) : zje M a0 a1 = some r := fixC (E := E1) ((fun O => (by kernel_rfl : zje (Φ E1 O) a0 a1 = zlB O a0 a1)) M) h
noncomputable def zon (O : Oracle E1) (a0 : Int) (a1 : Int) (a2 : Int) : Option Yc :=
  (if (decide (a0 ≥ a1)) = true then (some (((decide (a0 ≤ a2)), ()), ())) else (some ((false, ()), ())))
theorem zw8 (a0) (a1) (a2) {r} (h : zon M a0 a1 a2 = some r) : zay M a0 a1 a2 = some r := fixC (E := E1) ((fun O => (by kernel_rfl : zay (Φ E1 O) a0 a1 a2 = zon O a0 a1 a2)) M) h
noncomputable def zY (O : Oracle E1) (a0 : Yb) (a1 : Int) (a2 : Yg) (a3 : Int) : Option YF :=
  (if (decide (a3 > 0)) = true then (if (decide (a1 ≥ (a0.length : Int))) = true then (some (.inr (((-1 : Int), ()), ()))) else ((idx a0 a1).bind fun x1 => ((zay O x1 (-12 : Int) (i64.wrap ((a2.1.length : Int) - (1 : Int)))).bind fun r2 => (if (!r2.1.1) = true then (some (.inr (((-1 : Int), ()), ()))) else ((((idx a0 a1).bind fun x4 => (if (decide (x4 ≥ 0)) = true then ((idx a0 a1).bind fun x5 => ((idx a2.1 x5).bind fun x6 => (some (.inl (a0, a1, (a2.1, ()), (i64.wrap ((i64.wrap (a3 - 1)) + x6)), ()))))) else (some (.inl (a0, a1, (a2.1, ()), (i64.wrap (a3 - 1)), ()))))) : Option ((Yb × Int × Yg × Int × Unit) ⊕ (Yq ⊕ (Ye)))).bind (Sum.elim (fun q3 => (zdi O q3.1 (i64.wrap (q3.2.1 + 1)) (q3.2.2.1.1, ()) q3.2.2.2.1)) (fun r => some r))))))) else (some (.inl (a1, ()))))
theorem zam (a0) (a1) (a2) (a3) {r} (h : zY M a0 a1 a2 a3 = some r) : zdi M a0 a1 a2 a3 = some r := fixL (E := E1) ((fun O => (by kernel_rfl : zdi (Φ E1 O) a0 a1 a2 a3 = zY O a0 a1 a2 a3)) M) h
noncomputable def zfY (O : Oracle E1) (a0 : Yg) (a1 : Yb) (a2 : Int) : Option Ye :=
  ((zdi O a1 a2 (a0.1, ()) (1 : Int)).bind (Sum.elim (fun y1 => (some ((y1.1, ()), ()))) (fun r2 => (some r2))))
theorem ziW (a0) (a1) (a2) {r} (h : zfY M a0 a1 a2 = some r) : zep M a0 a1 a2 = some r := fixC (E := E1) ((fun O => (by kernel_rfl : zep (Φ E1 O) a0 a1 a2 = zfY O a0 a1 a2)) M) h
noncomputable def ze1 (O : Oracle E1) (a0 : Yg) (a1 : Yb) : Option Yc :=
  ((zay O (a1.length : Int) (1 : Int) (40 : Int)).bind fun r1 => (if r1.1.1 = true then ((zep O (a0.1, ()) a1 (0 : Int)).bind fun r2 => (some (((r2.1.1 == (a1.length : Int)), ()), ()))) else (some ((false, ()), ()))))
theorem zhZ (a0) (a1) {r} (h : ze1 M a0 a1 = some r) : zcb M a0 a1 = some r := fixC (E := E1) ((fun O => (by kernel_rfl : zcb (Φ E1 O) a0 a1 = ze1 O a0 a1)) M) h
noncomputable def zht (O : Oracle E1) (a0 : Yg) (a1 : Ya) : Option Yc :=
  ((zcb O (a0.1, ()) a1.2.1).bind fun r1 => (if r1.1.1 = true then ((zcb O (a0.1, ()) a1.2.2.1).bind fun r2 => (some ((r2.1.1, ()), ()))) else (some ((false, ()), ()))))
theorem zkQ (a0) (a1) {r} (h : zht M a0 a1 = some r) : zhu M a0 a1 = some r := fixC (E := E1) ((fun O => (by kernel_rfl : zhu (Φ E1 O) a0 a1 = zht O a0 a1)) M) h
noncomputable def zaQ (O : Oracle E1) (a0 : Yf) (a1 : Yg) (a2 : Yf) (a3 : Int) (a4 : Int) : Option ((Yf × Unit) ⊕ Yc) :=
  (if (decide (a4 < a3)) = true then ((idx a2 a4).bind fun x1 => ((zhu O (a1.1, ()) (x1.1, x1.2.1, x1.2.2.1, ())).bind fun r2 => (if (!r2.1.1) = true then (some (.inr ((false, ()), ()))) else (za3 O a0 (a1.1, ()) a2 a3 (i64.wrap (a4 + 1)))))) else (some (.inl (a0, ()))))
theorem zaR (a0) (a1) (a2) (a3) (a4) {r} (h : zaQ M a0 a1 a2 a3 a4 = some r) : za3 M a0 a1 a2 a3 a4 = some r := fixL (E := E1) ((fun O => (by kernel_rfl : za3 (Φ E1 O) a0 a1 a2 a3 a4 = zaQ O a0 a1 a2 a3 a4)) M) h
noncomputable def zdn (O : Oracle E1) (a0 : Yg) (a1 : Yf) : Option Yc :=
  ((za3 O a1 (a0.1, ()) a1 (a1.length : Int) (0 : Int)).bind (Sum.elim (fun y1 => (some (((decide ((y1.1.length : Int) ≤ (8 : Int))), ()), ()))) (fun r2 => (some r2))))
theorem zgR (a0) (a1) {r} (h : zdn M a0 a1 = some r) : zaO M a0 a1 = some r := fixC (E := E1) ((fun O => (by kernel_rfl : zaO (Φ E1 O) a0 a1 = zdn O a0 a1)) M) h
noncomputable def zhK (O : Oracle E1) (a0 : Int) (a1 : Int) (a2 : Yb) (a3 : Int) (a4 : Int) : Option Ys :=
  (if (decide (a4 < a3)) = true then ((idx a2 a4).bind fun x1 => ((zay O x1 a0 a1).bind fun r2 => (if (!r2.1.1) = true then (some (.inr ((false, ()), ()))) else (zgS O a0 a1 a2 a3 (i64.wrap (a4 + 1)))))) else (some (.inl ())))
theorem znE (a0) (a1) (a2) (a3) (a4) {r} (h : zhK M a0 a1 a2 a3 a4 = some r) : zgS M a0 a1 a2 a3 a4 = some r := fixL (E := E1) ((fun O => (by kernel_rfl : zgS (Φ E1 O) a0 a1 a2 a3 a4 = zhK O a0 a1 a2 a3 a4)) M) h
noncomputable def znY (O : Oracle E1) (a0 : Yb) (a1 : Int) (a2 : Int) : Option Yc :=
  ((zgS O a1 a2 a0 (a0.length : Int) (0 : Int)).bind (Sum.elim (fun y1 => (some ((true, ()), ()))) (fun r2 => (some r2))))
theorem zws (a0) (a1) (a2) {r} (h : znY M a0 a1 a2 = some r) : zkW M a0 a1 a2 = some r := fixC (E := E1) ((fun O => (by kernel_rfl : zkW (Φ E1 O) a0 a1 a2 = znY O a0 a1 a2)) M) h
end Go.Proofs.YtkgpnekonnopgaaGreatMs.Ev
