/- A text of its own: Eq0; no condition but those that each theorem names. -/
import Derived.Test.YtkgpnekonnopgaaGreatIrNm
import Derived.KernelRfl
namespace Go.Proofs.YtkgpnekonnopgaaGreatIr.Ev
open Go Go.IntKind
set_option maxRecDepth 100000
set_option autoImplicit false
set_option linter.unusedVariables false
noncomputable def zm5 (O : Oracle E1) (a0 : Yb) (a1 : Int) : Option Ye :=
  (if (decide ((i64.wrap (a1 - (a0.length : Int))) < (0 : Int))) = true then (some (((-1 : Int), ()), ())) else (some (((i64.wrap (a1 - (a0.length : Int))), ()), ())))
theorem zvj (a0) (a1) {r} (h : zm5 M a0 a1 = some r) : zd0 M a0 a1 = some r := fixC (E := E1) ((fun O => (by kernel_rfl : zd0 (Φ E1 O) a0 a1 = zm5 O a0 a1)) M) h
noncomputable def zmY (O : Oracle E1) (a0 : Yg) (a1 : Int) : Option Ye :=
  ((zd0 O a0.1 a1).bind fun r1 => (if (decide (r1.1.1 < 0)) = true then (some (((-1 : Int), ()), ())) else (some ((r1.1.1, ()), ()))))
theorem zvG (a0) (a1) {r} (h : zmY M a0 a1 = some r) : zkb M a0 a1 = some r := fixC (E := E1) ((fun O => (by kernel_rfl : zkb (Φ E1 O) a0 a1 = zmY O a0 a1)) M) h
noncomputable def zjp (O : Oracle E1) (a0 : Ya) (a1 : Int) : Option Ye :=
  ((zd0 O a0.2.1 a1).bind fun r1 => (if (decide (r1.1.1 < 0)) = true then (some (((-1 : Int), ()), ())) else ((zd0 O a0.2.2.1 r1.1.1).bind fun r2 => (if (decide (r2.1.1 < 0)) = true then (some (((-1 : Int), ()), ())) else (some ((r2.1.1, ()), ()))))))
theorem zn3 (a0) (a1) {r} (h : zjp M a0 a1 = some r) : zk5 M a0 a1 = some r := fixC (E := E1) ((fun O => (by kernel_rfl : zk5 (Φ E1 O) a0 a1 = zjp O a0 a1)) M) h
noncomputable def zeN (O : Oracle E1) (a0 : Yf) (a1 : Int) (a2 : Int) : Option Yv :=
  (if (decide (a2 < (a0.length : Int))) = true then ((idx a0 a2).bind fun x1 => ((zk5 O (x1.1, x1.2.1, x1.2.2.1, ()) a1).bind fun r2 => (if (decide (r2.1.1 < 0)) = true then (some (.inr (((-1 : Int), ()), ()))) else (zfr O a0 r2.1.1 (i64.wrap (a2 + 1)))))) else (some (.inl (a1, ()))))
theorem zjl (a0) (a1) (a2) {r} (h : zeN M a0 a1 a2 = some r) : zfr M a0 a1 a2 = some r := fixL (E := E1) ((fun O => (by kernel_rfl : zfr (Φ E1 O) a0 a1 a2 = zeN O a0 a1 a2)) M) h
noncomputable def ziC (O : Oracle E1) (a0 : Yf) (a1 : Int) : Option Ye :=
  (if (decide ((i64.wrap (a1 - (a0.length : Int))) < (0 : Int))) = true then (some (((-1 : Int), ()), ())) else ((zfr O a0 (i64.wrap (a1 - (a0.length : Int))) (0 : Int)).bind (Sum.elim (fun y1 => (some ((y1.1, ()), ()))) (fun r2 => (some r2)))))
theorem zmI (a0) (a1) {r} (h : ziC M a0 a1 = some r) : ziD M a0 a1 = some r := fixC (E := E1) ((fun O => (by kernel_rfl : ziD (Φ E1 O) a0 a1 = ziC O a0 a1)) M) h
noncomputable def zea (O : Oracle E1) (a0 : YD) (a1 : Int) (a2 : Int) : Option Yv :=
  (if (decide (a2 < (a0.length : Int))) = true then ((idx a0 a2).bind fun x1 => ((ziD O x1 a1).bind fun r2 => (if (decide (r2.1.1 < 0)) = true then (some (.inr (((-1 : Int), ()), ()))) else (zeM O a0 r2.1.1 (i64.wrap (a2 + 1)))))) else (some (.inl (a1, ()))))
theorem ziW (a0) (a1) (a2) {r} (h : zea M a0 a1 a2 = some r) : zeM M a0 a1 a2 = some r := fixL (E := E1) ((fun O => (by kernel_rfl : zeM (Φ E1 O) a0 a1 a2 = zea O a0 a1 a2)) M) h
noncomputable def zhM (O : Oracle E1) (a0 : YD) (a1 : Int) : Option Ye :=
  (if (decide ((i64.wrap (a1 - (a0.length : Int))) < (0 : Int))) = true then (some (((-1 : Int), ()), ())) else ((zeM O a0 (i64.wrap (a1 - (a0.length : Int))) (0 : Int)).bind (Sum.elim (fun y1 => (some ((y1.1, ()), ()))) (fun r2 => (some r2)))))
theorem zlU (a0) (a1) {r} (h : zhM M a0 a1 = some r) : zjC M a0 a1 = some r := fixC (E := E1) ((fun O => (by kernel_rfl : zjC (Φ E1 O) a0 a1 = zhM O a0 a1)) M) h
noncomputable def zgH (O : Oracle E1) (a0 : Yd) (a1 : Int) : Option Ye :=
  ((zd0 O a0.2.1 a1).bind fun r1 => (if (decide (r1.1.1 < 0)) = true then (some (((-1 : Int), ()), ())) else ((zd0 O a0.2.2.1 r1.1.1).bind fun r2 => (if (decide (r2.1.1 < 0)) = true then (some (((-1 : Int), ()), ())) else ((ziD O a0.2.2.2.1 r2.1.1).bind fun r3 => (if (decide (r3.1.1 < 0)) = true then (some (((-1 : Int), ()), ())) else (some ((r3.1.1, ()), ()))))))))
theorem zj9 (a0) (a1) {r} (h : zgH M a0 a1 = some r) : zkm M a0 a1 = some r := fixC (E := E1) ((fun O => (by kernel_rfl : zkm (Φ E1 O) a0 a1 = zgH O a0 a1)) M) h
noncomputable def zec (O : Oracle E1) (a0 : YE) (a1 : Int) (a2 : Int) : Option Yv :=
  (if (decide (a2 < (a0.length : Int))) = true then ((idx a0 a2).bind fun x1 => ((zkm O (x1.1, x1.2.1, x1.2.2.1, x1.2.2.2.1, ()) a1).bind fun r2 => (if (decide (r2.1.1 < 0)) = true then (some (.inr (((-1 : Int), ()), ()))) else (zeQ O a0 r2.1.1 (i64.wrap (a2 + 1)))))) else (some (.inl (a1, ()))))
theorem ziP (a0) (a1) (a2) {r} (h : zec M a0 a1 a2 = some r) : zeQ M a0 a1 a2 = some r := fixL (E := E1) ((fun O => (by kernel_rfl : zeQ (Φ E1 O) a0 a1 a2 = zec O a0 a1 a2)) M) h
noncomputable def zhQ (O : Oracle E1) (a0 : YE) (a1 : Int) : Option Ye :=
  (if (decide ((i64.wrap (a1 - (a0.length : Int))) < (0 : Int))) = true then (some (((-1 : Int), ()), ())) else ((zeQ O a0 (i64.wrap (a1 - (a0.length : Int))) (0 : Int)).bind (Sum.elim (fun y1 => (some ((y1.1, ()), ()))) (fun r2 => (some r2)))))
theorem zlR (a0) (a1) {r} (h : zhQ M a0 a1 = some r) : zjv M a0 a1 = some r := fixC (E := E1) ((fun O => (by kernel_rfl : zjv (Φ E1 O) a0 a1 = zhQ O a0 a1)) M) h
noncomputable def zhx (O : Oracle E1) (a0 : Yb) (a1 : Yb) (a2 : Int) : Option YF :=
  (if (decide (a2 < (a0.length : Int))) = true then ((idx a0 a2).bind fun x1 => (if 0 ≤ a2 ∧ a2 < (a1.length : Int) then ((a1[a2.toNat]?).bind fun x2 => (zf4 O a0 (a1.set a2.toNat x1) (i64.wrap (a2 + 1)))) else none)) else (some (.inl (a1, ()))))
theorem zng (a0) (a1) (a2) {r} (h : zhx M a0 a1 a2 = some r) : zf4 M a0 a1 a2 = some r := fixL (E := E1) ((fun O => (by kernel_rfl : zf4 (Φ E1 O) a0 a1 a2 = zhx O a0 a1 a2)) M) h
noncomputable def zm2 (O : Oracle E1) (a0 : Yb) : Option Yo :=
  (if 0 ≤ (a0.length : Int) ∧ ((8 : Nat) : Int) * (a0.length : Int) ≤ 140737488355328 ∧ (a0.length : Int) = (a0.length : Int) then ((zf4 O a0 (List.replicate (Int.toNat (a0.length : Int)) (0 : Int)) (0 : Int)).bind (Sum.elim (fun y1 => (some ((y1.1, ()), ()))) (fun r2 => (some r2)))) else none)
theorem zvz (a0) {r} (h : zm2 M a0 = some r) : zdZ M a0 = some r := fixC (E := E1) ((fun O => (by kernel_rfl : zdZ (Φ E1 O) a0 = zm2 O a0)) M) h
noncomputable def zmO (O : Oracle E1) (a0 : Yg) : Option ((Yg × Unit) × (Unit)) :=
  ((zdZ O a0.1).bind fun r1 => (some (((r1.1.1, ()), ()), ())))
theorem zvH (a0) {r} (h : zmO M a0 = some r) : zgB M a0 = some r := fixC (E := E1) ((fun O => (by kernel_rfl : zgB (Φ E1 O) a0 = zmO O a0)) M) h
noncomputable def znM (O : Oracle E1) (a0 : Ya) : Option ((Ya × Unit) × (Unit)) :=
  ((zdZ O a0.2.1).bind fun r1 => ((zdZ O a0.2.2.1).bind fun r2 => (some (((a0.1, r1.1.1, r2.1.1, ()), ()), ()))))
theorem zvR (a0) {r} (h : znM M a0 = some r) : zlj M a0 = some r := fixC (E := E1) ((fun O => (by kernel_rfl : zlj (Φ E1 O) a0 = znM O a0)) M) h
noncomputable def zhD (O : Oracle E1) (a0 : Yf) (a1 : Yf) (a2 : Int) : Option Yw :=
  (if (decide (a2 < (a0.length : Int))) = true then ((idx a0 a2).bind fun x1 => ((zlj O (x1.1, x1.2.1, x1.2.2.1, ())).bind fun r2 => (if 0 ≤ a2 ∧ a2 < (a1.length : Int) then ((a1[a2.toNat]?).bind fun x3 => (zf6 O a0 (a1.set a2.toNat (r2.1.1.1, r2.1.1.2.1, r2.1.1.2.2.1, ())) (i64.wrap (a2 + 1)))) else none))) else (some (.inl (a1, ()))))
theorem znn (a0) (a1) (a2) {r} (h : zhD M a0 a1 a2 = some r) : zf6 M a0 a1 a2 = some r := fixL (E := E1) ((fun O => (by kernel_rfl : zf6 (Φ E1 O) a0 a1 a2 = zhD O a0 a1 a2)) M) h
noncomputable def zmW (O : Oracle E1) (a0 : Yf) : Option Yj :=
  (if 0 ≤ (a0.length : Int) ∧ ((56 : Nat) : Int) * (a0.length : Int) ≤ 140737488355328 ∧ (a0.length : Int) = (a0.length : Int) then ((zf6 O a0 (List.replicate (Int.toNat (a0.length : Int)) (false, [], [], ())) (0 : Int)).bind (Sum.elim (fun y1 => (some ((y1.1, ()), ()))) (fun r2 => (some r2)))) else none)
theorem zu3 (a0) {r} (h : zmW M a0 = some r) : ziu M a0 = some r := fixC (E := E1) ((fun O => (by kernel_rfl : ziu (Φ E1 O) a0 = zmW O a0)) M) h
noncomputable def zgO (O : Oracle E1) (a0 : YD) (a1 : YD) (a2 : Int) : Option ((YD × Unit) ⊕ ((YD × Unit) × (Unit))) :=
  (if (decide (a2 < (a0.length : Int))) = true then ((idx a0 a2).bind fun x1 => ((ziu O x1).bind fun r2 => (if 0 ≤ a2 ∧ a2 < (a1.length : Int) then ((a1[a2.toNat]?).bind fun x3 => (zfv O a0 (a1.set a2.toNat r2.1.1) (i64.wrap (a2 + 1)))) else none))) else (some (.inl (a1, ()))))
theorem zmn (a0) (a1) (a2) {r} (h : zgO M a0 a1 a2 = some r) : zfv M a0 a1 a2 = some r := fixL (E := E1) ((fun O => (by kernel_rfl : zfv (Φ E1 O) a0 a1 a2 = zgO O a0 a1 a2)) M) h
noncomputable def zlV (O : Oracle E1) (a0 : YD) : Option ((YD × Unit) × (Unit)) :=
  (if 0 ≤ (a0.length : Int) ∧ ((24 : Nat) : Int) * (a0.length : Int) ≤ 140737488355328 ∧ (a0.length : Int) = (a0.length : Int) then ((zfv O a0 (List.replicate (Int.toNat (a0.length : Int)) ([] : Yf)) (0 : Int)).bind (Sum.elim (fun y1 => (some ((y1.1, ()), ()))) (fun r2 => (some r2)))) else none)
theorem zuo (a0) {r} (h : zlV M a0 = some r) : zfX M a0 = some r := fixC (E := E1) ((fun O => (by kernel_rfl : zfX (Φ E1 O) a0 = zlV O a0)) M) h
noncomputable def zmF (O : Oracle E1) (a0 : Yd) : Option ((Yd × Unit) × (Unit)) :=
  ((zdZ O a0.2.1).bind fun r1 => ((zdZ O a0.2.2.1).bind fun r2 => ((ziu O a0.2.2.2.1).bind fun r3 => (some (((a0.1, r1.1.1, r2.1.1, r3.1.1, ()), ()), ())))))
theorem zvm (a0) {r} (h : zmF M a0 = some r) : zkh M a0 = some r := fixC (E := E1) ((fun O => (by kernel_rfl : zkh (Φ E1 O) a0 = zmF O a0)) M) h
noncomputable def zhb (O : Oracle E1) (a0 : YE) (a1 : YE) (a2 : Int) : Option ((YE × Unit) ⊕ ((YE × Unit) × (Unit))) :=
  (if (decide (a2 < (a0.length : Int))) = true then ((idx a0 a2).bind fun x1 => ((zkh O (x1.1, x1.2.1, x1.2.2.1, x1.2.2.2.1, ())).bind fun r2 => (if 0 ≤ a2 ∧ a2 < (a1.length : Int) then ((a1[a2.toNat]?).bind fun x3 => (zfy O a0 (a1.set a2.toNat (r2.1.1.1, r2.1.1.2.1, r2.1.1.2.2.1, r2.1.1.2.2.2.1, ())) (i64.wrap (a2 + 1)))) else none))) else (some (.inl (a1, ()))))
theorem zmp (a0) (a1) (a2) {r} (h : zhb M a0 a1 a2 = some r) : zfy M a0 a1 a2 = some r := fixL (E := E1) ((fun O => (by kernel_rfl : zfy (Φ E1 O) a0 a1 a2 = zhb O a0 a1 a2)) M) h
noncomputable def zlD (O : Oracle E1) (a0 : YE) : Option ((YE × Unit) × (Unit)) :=
  (if 0 ≤ (a0.length : Int) ∧ ((80 : Nat) : Int) * (a0.length : Int) ≤ 140737488355328 ∧ (a0.length : Int) = (a0.length : Int) then ((zfy O a0 (List.replicate (Int.toNat (a0.length : Int)) ((0 : Int), [], [], [], ())) (0 : Int)).bind (Sum.elim (fun y1 => (some ((y1.1, ()), ()))) (fun r2 => (some r2)))) else none)
theorem zui (a0) {r} (h : zlD M a0 = some r) : zfW M a0 = some r := fixC (E := E1) ((fun O => (by kernel_rfl : zfW (Φ E1 O) a0 = zlD O a0)) M) h
noncomputable def zhv (O : Oracle E1) (a0 : Yb) (a1 : Yb) (a2 : Int) : Option Yq :=
  (if (decide (a2 < (a0.length : Int))) = true then ((idx a0 a2).bind fun x1 => ((idx a1 a2).bind fun x2 => (if (x1 != x2) = true then (some (.inr ((false, ()), ()))) else (zgg O a0 a1 (i64.wrap (a2 + 1)))))) else (some (.inl ())))
theorem znl (a0) (a1) (a2) {r} (h : zhv M a0 a1 a2 = some r) : zgg M a0 a1 a2 = some r := fixL (E := E1) ((fun O => (by kernel_rfl : zgg (Φ E1 O) a0 a1 a2 = zhv O a0 a1 a2)) M) h
noncomputable def zm7 (O : Oracle E1) (a0 : Yb) (a1 : Yb) : Option Yc :=
  (if ((a0.length : Int) != (a1.length : Int)) = true then (some ((false, ()), ())) else ((zgg O a0 a1 (0 : Int)).bind (Sum.elim (fun y1 => (some ((true, ()), ()))) (fun r2 => (some r2)))))
theorem zvi (a0) (a1) {r} (h : zm7 M a0 a1 = some r) : zdY M a0 a1 = some r := fixC (E := E1) ((fun O => (by kernel_rfl : zdY (Φ E1 O) a0 a1 = zm7 O a0 a1)) M) h
noncomputable def zm4 (O : Oracle E1) (a0 : Yg) (a1 : Yg) : Option Yc :=
  ((zdY O a0.1 a1.1).bind fun r1 => (if (!r1.1.1) = true then (some ((false, ()), ())) else (some ((true, ()), ()))))
theorem zu5 (a0) (a1) {r} (h : zm4 M a0 a1 = some r) : zkq M a0 a1 = some r := fixC (E := E1) ((fun O => (by kernel_rfl : zkq (Φ E1 O) a0 a1 = zm4 O a0 a1)) M) h
noncomputable def znN (O : Oracle E1) (a0 : Ya) (a1 : Ya) : Option Yc :=
  (if (!(a0.1 == a1.1)) = true then (some ((false, ()), ())) else ((zdY O a0.2.1 a1.2.1).bind fun r1 => (if (!r1.1.1) = true then (some ((false, ()), ())) else ((zdY O a0.2.2.1 a1.2.2.1).bind fun r2 => (if (!r2.1.1) = true then (some ((false, ()), ())) else (some ((true, ()), ())))))))
theorem zvU (a0) (a1) {r} (h : znN M a0 a1 = some r) : zlk M a0 a1 = some r := fixC (E := E1) ((fun O => (by kernel_rfl : zlk (Φ E1 O) a0 a1 = znN O a0 a1)) M) h
noncomputable def zhw (O : Oracle E1) (a0 : Yf) (a1 : Yf) (a2 : Int) : Option Yq :=
  (if (decide (a2 < (a0.length : Int))) = true then ((idx a0 a2).bind fun x1 => ((idx a1 a2).bind fun x2 => ((zlk O (x1.1, x1.2.1, x1.2.2.1, ()) (x2.1, x2.2.1, x2.2.2.1, ())).bind fun r3 => (if (!r3.1.1) = true then (some (.inr ((false, ()), ()))) else (zf1 O a0 a1 (i64.wrap (a2 + 1))))))) else (some (.inl ())))
theorem znf (a0) (a1) (a2) {r} (h : zhw M a0 a1 a2 = some r) : zf1 M a0 a1 a2 = some r := fixL (E := E1) ((fun O => (by kernel_rfl : zf1 (Φ E1 O) a0 a1 a2 = zhw O a0 a1 a2)) M) h
noncomputable def zmX (O : Oracle E1) (a0 : Yf) (a1 : Yf) : Option Yc :=
  (if ((a0.length : Int) != (a1.length : Int)) = true then (some ((false, ()), ())) else ((zf1 O a0 a1 (0 : Int)).bind (Sum.elim (fun y1 => (some ((true, ()), ()))) (fun r2 => (some r2)))))
theorem zvv (a0) (a1) {r} (h : zmX M a0 a1 = some r) : ziy M a0 a1 = some r := fixC (E := E1) ((fun O => (by kernel_rfl : ziy (Φ E1 O) a0 a1 = zmX O a0 a1)) M) h
noncomputable def zgN (O : Oracle E1) (a0 : YD) (a1 : YD) (a2 : Int) : Option Yq :=
  (if (decide (a2 < (a0.length : Int))) = true then ((idx a0 a2).bind fun x1 => ((idx a1 a2).bind fun x2 => ((ziy O x1 x2).bind fun r3 => (if (!r3.1.1) = true then (some (.inr ((false, ()), ()))) else (zfq O a0 a1 (i64.wrap (a2 + 1))))))) else (some (.inl ())))
theorem zmu (a0) (a1) (a2) {r} (h : zgN M a0 a1 a2 = some r) : zfq M a0 a1 a2 = some r := fixL (E := E1) ((fun O => (by kernel_rfl : zfq (Φ E1 O) a0 a1 a2 = zgN O a0 a1 a2)) M) h
noncomputable def zlH (O : Oracle E1) (a0 : YD) (a1 : YD) : Option Yc :=
  (if ((a0.length : Int) != (a1.length : Int)) = true then (some ((false, ()), ())) else ((zfq O a0 a1 (0 : Int)).bind (Sum.elim (fun y1 => (some ((true, ()), ()))) (fun r2 => (some r2)))))
theorem zt0 (a0) (a1) {r} (h : zlH M a0 a1 = some r) : zjJ M a0 a1 = some r := fixC (E := E1) ((fun O => (by kernel_rfl : zjJ (Φ E1 O) a0 a1 = zlH O a0 a1)) M) h
noncomputable def zm0 (O : Oracle E1) (a0 : Yd) (a1 : Yd) : Option Yc :=
  (if (a0.1 != a1.1) = true then (some ((false, ()), ())) else ((zdY O a0.2.1 a1.2.1).bind fun r1 => (if (!r1.1.1) = true then (some ((false, ()), ())) else ((zdY O a0.2.2.1 a1.2.2.1).bind fun r2 => (if (!r2.1.1) = true then (some ((false, ()), ())) else ((ziy O a0.2.2.2.1 a1.2.2.2.1).bind fun r3 => (if (!r3.1.1) = true then (some ((false, ()), ())) else (some ((true, ()), ())))))))))
theorem zu6 (a0) (a1) {r} (h : zm0 M a0 a1 = some r) : zkr M a0 a1 = some r := fixC (E := E1) ((fun O => (by kernel_rfl : zkr (Φ E1 O) a0 a1 = zm0 O a0 a1)) M) h
noncomputable def zgL (O : Oracle E1) (a0 : YE) (a1 : YE) (a2 : Int) : Option Yq :=
  (if (decide (a2 < (a0.length : Int))) = true then ((idx a0 a2).bind fun x1 => ((idx a1 a2).bind fun x2 => ((zkr O (x1.1, x1.2.1, x1.2.2.1, x1.2.2.2.1, ()) (x2.1, x2.2.1, x2.2.2.1, x2.2.2.2.1, ())).bind fun r3 => (if (!r3.1.1) = true then (some (.inr ((false, ()), ()))) else (zfF O a0 a1 (i64.wrap (a2 + 1))))))) else (some (.inl ())))
theorem zmd (a0) (a1) (a2) {r} (h : zgL M a0 a1 a2 = some r) : zfF M a0 a1 a2 = some r := fixL (E := E1) ((fun O => (by kernel_rfl : zfF (Φ E1 O) a0 a1 a2 = zgL O a0 a1 a2)) M) h
noncomputable def zlP (O : Oracle E1) (a0 : YE) (a1 : YE) : Option Yc :=
  (if ((a0.length : Int) != (a1.length : Int)) = true then (some ((false, ()), ())) else ((zfF O a0 a1 (0 : Int)).bind (Sum.elim (fun y1 => (some ((true, ()), ()))) (fun r2 => (some r2)))))
theorem zue (a0) (a1) {r} (h : zlP M a0 a1 = some r) : zjB M a0 a1 = some r := fixC (E := E1) ((fun O => (by kernel_rfl : zjB (Φ E1 O) a0 a1 = zlP O a0 a1)) M) h
noncomputable def zoO (O : Oracle E1) (a0 : Int) (a1 : Int) (a2 : Int) : Option Yc :=
  (if (decide (a0 ≥ a1)) = true then (some (((decide (a0 ≤ a2)), ()), ())) else (some ((false, ()), ())))
theorem zxk (a0) (a1) (a2) {r} (h : zoO M a0 a1 a2 = some r) : zaL M a0 a1 a2 = some r := fixC (E := E1) ((fun O => (by kernel_rfl : zaL (Φ E1 O) a0 a1 a2 = zoO O a0 a1 a2)) M) h
noncomputable def zab (O : Oracle E1) (a0 : Yb) (a1 : Int) (a2 : Yg) (a3 : Int) : Option Yv :=
  (if (decide (a3 > 0)) = true then (if (decide (a1 ≥ (a0.length : Int))) = true then (some (.inr (((-1 : Int), ()), ()))) else ((idx a0 a1).bind fun x1 => ((zaL O x1 (-12 : Int) (i64.wrap ((a2.1.length : Int) - (1 : Int)))).bind fun r2 => (if (!r2.1.1) = true then (some (.inr (((-1 : Int), ()), ()))) else ((((idx a0 a1).bind fun x4 => (if (decide (x4 ≥ 0)) = true then ((idx a0 a1).bind fun x5 => ((idx a2.1 x5).bind fun x6 => (some (.inl (a0, a1, (a2.1, ()), (i64.wrap ((i64.wrap (a3 - 1)) + x6)), ()))))) else (some (.inl (a0, a1, (a2.1, ()), (i64.wrap (a3 - 1)), ()))))) : Option ((Yb × Int × Yg × Int × Unit) ⊕ ((Int × Unit) ⊕ (Ye)))).bind (Sum.elim (fun q3 => (zdE O q3.1 (i64.wrap (q3.2.1 + 1)) (q3.2.2.1.1, ()) q3.2.2.2.1)) (fun r => some r))))))) else (some (.inl (a1, ()))))
theorem zaw (a0) (a1) (a2) (a3) {r} (h : zab M a0 a1 a2 a3 = some r) : zdE M a0 a1 a2 a3 = some r := fixL (E := E1) ((fun O => (by kernel_rfl : zdE (Φ E1 O) a0 a1 a2 a3 = zab O a0 a1 a2 a3)) M) h
noncomputable def zf8 (O : Oracle E1) (a0 : Yg) (a1 : Yb) (a2 : Int) : Option Ye :=
  ((zdE O a1 a2 (a0.1, ()) (1 : Int)).bind (Sum.elim (fun y1 => (some ((y1.1, ()), ()))) (fun r2 => (some r2))))
theorem zje (a0) (a1) (a2) {r} (h : zf8 M a0 a1 a2 = some r) : zeS M a0 a1 a2 = some r := fixC (E := E1) ((fun O => (by kernel_rfl : zeS (Φ E1 O) a0 a1 a2 = zf8 O a0 a1 a2)) M) h
noncomputable def zfh (O : Oracle E1) (a0 : Yg) (a1 : Yb) : Option Yc :=
  ((zaL O (a1.length : Int) (1 : Int) (40 : Int)).bind fun r1 => (if r1.1.1 = true then ((zeS O (a0.1, ()) a1 (0 : Int)).bind fun r2 => (some (((r2.1.1 == (a1.length : Int)), ()), ()))) else (some ((false, ()), ()))))
theorem ziE (a0) (a1) {r} (h : zfh M a0 a1 = some r) : zcr M a0 a1 = some r := fixC (E := E1) ((fun O => (by kernel_rfl : zcr (Φ E1 O) a0 a1 = zfh O a0 a1)) M) h
noncomputable def zh0 (O : Oracle E1) (a0 : Yg) (a1 : Ya) : Option Yc :=
  ((zcr O (a0.1, ()) a1.2.1).bind fun r1 => (if r1.1.1 = true then ((zcr O (a0.1, ()) a1.2.2.1).bind fun r2 => (some ((r2.1.1, ()), ()))) else (some ((false, ()), ()))))
theorem zkQ (a0) (a1) {r} (h : zh0 M a0 a1 = some r) : zhT M a0 a1 = some r := fixC (E := E1) ((fun O => (by kernel_rfl : zhT (Φ E1 O) a0 a1 = zh0 O a0 a1)) M) h
noncomputable def zaY (O : Oracle E1) (a0 : Yf) (a1 : Yg) (a2 : Yf) (a3 : Int) (a4 : Int) : Option ((Yf × Unit) ⊕ Yc) :=
  (if (decide (a4 < a3)) = true then ((idx a2 a4).bind fun x1 => ((zhT O (a1.1, ()) (x1.1, x1.2.1, x1.2.2.1, ())).bind fun r2 => (if (!r2.1.1) = true then (some (.inr ((false, ()), ()))) else (zbb O a0 (a1.1, ()) a2 a3 (i64.wrap (a4 + 1)))))) else (some (.inl (a0, ()))))
theorem zaZ (a0) (a1) (a2) (a3) (a4) {r} (h : zaY M a0 a1 a2 a3 a4 = some r) : zbb M a0 a1 a2 a3 a4 = some r := fixL (E := E1) ((fun O => (by kernel_rfl : zbb (Φ E1 O) a0 a1 a2 a3 a4 = zaY O a0 a1 a2 a3 a4)) M) h
noncomputable def zdM (O : Oracle E1) (a0 : Yg) (a1 : Yf) : Option Yc :=
  ((zbb O a1 (a0.1, ()) a1 (a1.length : Int) (0 : Int)).bind (Sum.elim (fun y1 => (some (((decide ((y1.1.length : Int) ≤ (8 : Int))), ()), ()))) (fun r2 => (some r2))))
theorem zhd (a0) (a1) {r} (h : zdM M a0 a1 = some r) : zaX M a0 a1 = some r := fixC (E := E1) ((fun O => (by kernel_rfl : zaX (Φ E1 O) a0 a1 = zdM O a0 a1)) M) h
noncomputable def zih (O : Oracle E1) (a0 : Int) (a1 : Int) (a2 : Yb) (a3 : Int) (a4 : Int) : Option Yq :=
  (if (decide (a4 < a3)) = true then ((idx a2 a4).bind fun x1 => ((zaL O x1 a0 a1).bind fun r2 => (if (!r2.1.1) = true then (some (.inr ((false, ()), ()))) else (zgK O a0 a1 a2 a3 (i64.wrap (a4 + 1)))))) else (some (.inl ())))
theorem zn0 (a0) (a1) (a2) (a3) (a4) {r} (h : zih M a0 a1 a2 a3 a4 = some r) : zgK M a0 a1 a2 a3 a4 = some r := fixL (E := E1) ((fun O => (by kernel_rfl : zgK (Φ E1 O) a0 a1 a2 a3 a4 = zih O a0 a1 a2 a3 a4)) M) h
noncomputable def znO (O : Oracle E1) (a0 : Yb) (a1 : Int) (a2 : Int) : Option Yc :=
  ((zgK O a1 a2 a0 (a0.length : Int) (0 : Int)).bind (Sum.elim (fun y1 => (some ((true, ()), ()))) (fun r2 => (some r2))))
theorem zv5 (a0) (a1) (a2) {r} (h : znO M a0 a1 a2 = some r) : zge M a0 a1 a2 = some r := fixC (E := E1) ((fun O => (by kernel_rfl : zge (Φ E1 O) a0 a1 a2 = znO O a0 a1 a2)) M) h
end Go.Proofs.YtkgpnekonnopgaaGreatIr.Ev
