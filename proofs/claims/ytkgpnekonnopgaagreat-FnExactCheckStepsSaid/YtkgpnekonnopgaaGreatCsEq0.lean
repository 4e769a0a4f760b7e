/- A text of its own: Eq0; no condition but those that each theorem names. -/
import Derived.Test.YtkgpnekonnopgaaGreatCsNm
import Derived.KernelRfl
namespace Go.Proofs.YtkgpnekonnopgaaGreatCs.Ev
open Go Go.IntKind
set_option maxRecDepth 100000
set_option autoImplicit false
set_option linter.unusedVariables false
noncomputable def zmn (O : Oracle E1) (a0 : Yb) (a1 : Int) : Option Ye :=
  (if (decide ((i64.wrap (a1 - (a0.length : Int))) < (0 : Int))) = true then (some (((-1 : Int), ()), ())) else (some (((i64.wrap (a1 - (a0.length : Int))), ()), ())))
theorem zt5 (a0) (a1) {r} (h : zmn M a0 a1 = some r) : zdF M a0 a1 = some r := fixC (E := E1) ((fun O => (by kernel_rfl : zdF (Φ E1 O) a0 a1 = zmn O a0 a1)) M) h
noncomputable def zlP (O : Oracle E1) (a0 : Yg) (a1 : Int) : Option Ye :=
  ((zdF O a0.1 a1).bind fun r1 => (if (decide (r1.1.1 < 0)) = true then (some (((-1 : Int), ()), ())) else (some ((r1.1.1, ()), ()))))
theorem zuo (a0) (a1) {r} (h : zlP M a0 a1 = some r) : zjz M a0 a1 = some r := fixC (E := E1) ((fun O => (by kernel_rfl : zjz (Φ E1 O) a0 a1 = zlP O a0 a1)) M) h
noncomputable def ziH (O : Oracle E1) (a0 : Ya) (a1 : Int) : Option Ye :=
  ((zdF O a0.2.1 a1).bind fun r1 => (if (decide (r1.1.1 < 0)) = true then (some (((-1 : Int), ()), ())) else ((zdF O a0.2.2.1 r1.1.1).bind fun r2 => (if (decide (r2.1.1 < 0)) = true then (some (((-1 : Int), ()), ())) else (some ((r2.1.1, ()), ()))))))
theorem zm9 (a0) (a1) {r} (h : ziH M a0 a1 = some r) : zkk M a0 a1 = some r := fixC (E := E1) ((fun O => (by kernel_rfl : zkk (Φ E1 O) a0 a1 = ziH O a0 a1)) M) h
noncomputable def zep (O : Oracle E1) (a0 : Yf) (a1 : Int) (a2 : Int) : Option Yu :=
  (if (decide (a2 < (a0.length : Int))) = true then ((idx a0 a2).bind fun x1 => ((zkk O (x1.1, x1.2.1, x1.2.2.1, ()) a1).bind fun r2 => (if (decide (r2.1.1 < 0)) = true then (some (.inr (((-1 : Int), ()), ()))) else (zfa O a0 r2.1.1 (i64.wrap (a2 + 1)))))) else (some (.inl (a1, ()))))
theorem ziM (a0) (a1) (a2) {r} (h : zep M a0 a1 a2 = some r) : zfa M a0 a1 a2 = some r := fixL (E := E1) ((fun O => (by kernel_rfl : zfa (Φ E1 O) a0 a1 a2 = zep O a0 a1 a2)) M) h
noncomputable def zhU (O : Oracle E1) (a0 : Yf) (a1 : Int) : Option Ye :=
  (if (decide ((i64.wrap (a1 - (a0.length : Int))) < (0 : Int))) = true then (some (((-1 : Int), ()), ())) else ((zfa O a0 (i64.wrap (a1 - (a0.length : Int))) (0 : Int)).bind (Sum.elim (fun y1 => (some ((y1.1, ()), ()))) (fun r2 => (some r2)))))
theorem zmk (a0) (a1) {r} (h : zhU M a0 a1 = some r) : zhR M a0 a1 = some r := fixC (E := E1) ((fun O => (by kernel_rfl : zhR (Φ E1 O) a0 a1 = zhU O a0 a1)) M) h
noncomputable def zdM (O : Oracle E1) (a0 : YE) (a1 : Int) (a2 : Int) : Option Yu :=
  (if (decide (a2 < (a0.length : Int))) = true then ((idx a0 a2).bind fun x1 => ((zhR O x1 a1).bind fun r2 => (if (decide (r2.1.1 < 0)) = true then (some (.inr (((-1 : Int), ()), ()))) else (zev O a0 r2.1.1 (i64.wrap (a2 + 1)))))) else (some (.inl (a1, ()))))
theorem zib (a0) (a1) (a2) {r} (h : zdM M a0 a1 a2 = some r) : zev M a0 a1 a2 = some r := fixL (E := E1) ((fun O => (by kernel_rfl : zev (Φ E1 O) a0 a1 a2 = zdM O a0 a1 a2)) M) h
noncomputable def zhd (O : Oracle E1) (a0 : YE) (a1 : Int) : Option Ye :=
  (if (decide ((i64.wrap (a1 - (a0.length : Int))) < (0 : Int))) = true then (some (((-1 : Int), ()), ())) else ((zev O a0 (i64.wrap (a1 - (a0.length : Int))) (0 : Int)).bind (Sum.elim (fun y1 => (some ((y1.1, ()), ()))) (fun r2 => (some r2)))))
theorem zkM (a0) (a1) {r} (h : zhd M a0 a1 = some r) : ziR M a0 a1 = some r := fixC (E := E1) ((fun O => (by kernel_rfl : ziR (Φ E1 O) a0 a1 = zhd O a0 a1)) M) h
noncomputable def zf7 (O : Oracle E1) (a0 : Yd) (a1 : Int) : Option Ye :=
  ((zdF O a0.2.1 a1).bind fun r1 => (if (decide (r1.1.1 < 0)) = true then (some (((-1 : Int), ()), ())) else ((zdF O a0.2.2.1 r1.1.1).bind fun r2 => (if (decide (r2.1.1 < 0)) = true then (some (((-1 : Int), ()), ())) else ((zhR O a0.2.2.2.1 r2.1.1).bind fun r3 => (if (decide (r3.1.1 < 0)) = true then (some (((-1 : Int), ()), ())) else (some ((r3.1.1, ()), ()))))))))
theorem zjw (a0) (a1) {r} (h : zf7 M a0 a1 = some r) : zjs M a0 a1 = some r := fixC (E := E1) ((fun O => (by kernel_rfl : zjs (Φ E1 O) a0 a1 = zf7 O a0 a1)) M) h
noncomputable def zdW (O : Oracle E1) (a0 : YJ) (a1 : Int) (a2 : Int) : Option Yu :=
  (if (decide (a2 < (a0.length : Int))) = true then ((idx a0 a2).bind fun x1 => ((zjs O (x1.1, x1.2.1, x1.2.2.1, x1.2.2.2.1, ()) a1).bind fun r2 => (if (decide (r2.1.1 < 0)) = true then (some (.inr (((-1 : Int), ()), ()))) else (zen O a0 r2.1.1 (i64.wrap (a2 + 1)))))) else (some (.inl (a1, ()))))
theorem zh3 (a0) (a1) (a2) {r} (h : zdW M a0 a1 a2 = some r) : zen M a0 a1 a2 = some r := fixL (E := E1) ((fun O => (by kernel_rfl : zen (Φ E1 O) a0 a1 a2 = zdW O a0 a1 a2)) M) h
noncomputable def zhq (O : Oracle E1) (a0 : YJ) (a1 : Int) : Option Ye :=
  (if (decide ((i64.wrap (a1 - (a0.length : Int))) < (0 : Int))) = true then (some (((-1 : Int), ()), ())) else ((zen O a0 (i64.wrap (a1 - (a0.length : Int))) (0 : Int)).bind (Sum.elim (fun y1 => (some ((y1.1, ()), ()))) (fun r2 => (some r2)))))
theorem zlb (a0) (a1) {r} (h : zhq M a0 a1 = some r) : ziY M a0 a1 = some r := fixC (E := E1) ((fun O => (by kernel_rfl : ziY (Φ E1 O) a0 a1 = zhq O a0 a1)) M) h
noncomputable def zn4 (O : Oracle E1) (a0 : Int) (a1 : Int) (a2 : Int) : Option Yc :=
  (if (decide (a0 ≥ a1)) = true then (some (((decide (a0 ≤ a2)), ()), ())) else (some ((false, ()), ())))
theorem zvS (a0) (a1) (a2) {r} (h : zn4 M a0 a1 a2 = some r) : zaw M a0 a1 a2 = some r := fixC (E := E1) ((fun O => (by kernel_rfl : zaw (Φ E1 O) a0 a1 a2 = zn4 O a0 a1 a2)) M) h
noncomputable def zX (O : Oracle E1) (a0 : Yb) (a1 : Int) (a2 : Yg) (a3 : Int) : Option Yu :=
  (if (decide (a3 > 0)) = true then (if (decide (a1 ≥ (a0.length : Int))) = true then (some (.inr (((-1 : Int), ()), ()))) else ((idx a0 a1).bind fun x1 => ((zaw O x1 (-12 : Int) (i64.wrap ((a2.1.length : Int) - (1 : Int)))).bind fun r2 => (if (!r2.1.1) = true then (some (.inr (((-1 : Int), ()), ()))) else ((((idx a0 a1).bind fun x4 => (if (decide (x4 ≥ 0)) = true then ((idx a0 a1).bind fun x5 => ((idx a2.1 x5).bind fun x6 => (some (.inl (a0, a1, (a2.1, ()), (i64.wrap ((i64.wrap (a3 - 1)) + x6)), ()))))) else (some (.inl (a0, a1, (a2.1, ()), (i64.wrap (a3 - 1)), ()))))) : Option ((Yb × Int × Yg × Int × Unit) ⊕ ((Int × Unit) ⊕ (Ye)))).bind (Sum.elim (fun q3 => (zdi O q3.1 (i64.wrap (q3.2.1 + 1)) (q3.2.2.1.1, ()) q3.2.2.2.1)) (fun r => some r))))))) else (some (.inl (a1, ()))))
theorem zal (a0) (a1) (a2) (a3) {r} (h : zX M a0 a1 a2 a3 = some r) : zdi M a0 a1 a2 a3 = some r := fixL (E := E1) ((fun O => (by kernel_rfl : zdi (Φ E1 O) a0 a1 a2 a3 = zX O a0 a1 a2 a3)) M) h
noncomputable def zfz (O : Oracle E1) (a0 : Yg) (a1 : Yb) (a2 : Int) : Option Ye :=
  ((zdi O a1 a2 (a0.1, ()) (1 : Int)).bind (Sum.elim (fun y1 => (some ((y1.1, ()), ()))) (fun r2 => (some r2))))
theorem ziB (a0) (a1) (a2) {r} (h : zfz M a0 a1 a2 = some r) : zeu M a0 a1 a2 = some r := fixC (E := E1) ((fun O => (by kernel_rfl : zeu (Φ E1 O) a0 a1 a2 = zfz O a0 a1 a2)) M) h
noncomputable def zeX (O : Oracle E1) (a0 : Yg) (a1 : Yb) : Option Yc :=
  ((zaw O (a1.length : Int) (1 : Int) (40 : Int)).bind fun r1 => (if r1.1.1 = true then ((zeu O (a0.1, ()) a1 (0 : Int)).bind fun r2 => (some (((r2.1.1 == (a1.length : Int)), ()), ()))) else (some ((false, ()), ()))))
theorem zhV (a0) (a1) {r} (h : zeX M a0 a1 = some r) : zcc M a0 a1 = some r := fixC (E := E1) ((fun O => (by kernel_rfl : zcc (Φ E1 O) a0 a1 = zeX O a0 a1)) M) h
noncomputable def zg9 (O : Oracle E1) (a0 : Yg) (a1 : Ya) : Option Yc :=
  ((zcc O (a0.1, ()) a1.2.1).bind fun r1 => (if r1.1.1 = true then ((zcc O (a0.1, ()) a1.2.2.1).bind fun r2 => (some ((r2.1.1, ()), ()))) else (some ((false, ()), ()))))
theorem zkq (a0) (a1) {r} (h : zg9 M a0 a1 = some r) : zho M a0 a1 = some r := fixC (E := E1) ((fun O => (by kernel_rfl : zho (Φ E1 O) a0 a1 = zg9 O a0 a1)) M) h
noncomputable def zaM (O : Oracle E1) (a0 : Yf) (a1 : Yg) (a2 : Yf) (a3 : Int) (a4 : Int) : Option ((Yf × Unit) ⊕ Yc) :=
  (if (decide (a4 < a3)) = true then ((idx a2 a4).bind fun x1 => ((zho O (a1.1, ()) (x1.1, x1.2.1, x1.2.2.1, ())).bind fun r2 => (if (!r2.1.1) = true then (some (.inr ((false, ()), ()))) else (zaY O a0 (a1.1, ()) a2 a3 (i64.wrap (a4 + 1)))))) else (some (.inl (a0, ()))))
theorem zaL (a0) (a1) (a2) (a3) (a4) {r} (h : zaM M a0 a1 a2 a3 a4 = some r) : zaY M a0 a1 a2 a3 a4 = some r := fixL (E := E1) ((fun O => (by kernel_rfl : zaY (Φ E1 O) a0 a1 a2 a3 a4 = zaM O a0 a1 a2 a3 a4)) M) h
noncomputable def zdk (O : Oracle E1) (a0 : Yg) (a1 : Yf) : Option Yc :=
  ((zaY O a1 (a0.1, ()) a1 (a1.length : Int) (0 : Int)).bind (Sum.elim (fun y1 => (some (((decide ((y1.1.length : Int) ≤ (8 : Int))), ()), ()))) (fun r2 => (some r2))))
theorem zgw (a0) (a1) {r} (h : zdk M a0 a1 = some r) : za3 M a0 a1 = some r := fixC (E := E1) ((fun O => (by kernel_rfl : za3 (Φ E1 O) a0 a1 = zdk O a0 a1)) M) h
noncomputable def zhv (O : Oracle E1) (a0 : Int) (a1 : Int) (a2 : Yb) (a3 : Int) (a4 : Int) : Option Yq :=
  (if (decide (a4 < a3)) = true then ((idx a2 a4).bind fun x1 => ((zaw O x1 a0 a1).bind fun r2 => (if (!r2.1.1) = true then (some (.inr ((false, ()), ()))) else (zgn O a0 a1 a2 a3 (i64.wrap (a4 + 1)))))) else (some (.inl ())))
theorem zmO (a0) (a1) (a2) (a3) (a4) {r} (h : zhv M a0 a1 a2 a3 a4 = some r) : zgn M a0 a1 a2 a3 a4 = some r := fixL (E := E1) ((fun O => (by kernel_rfl : zgn (Φ E1 O) a0 a1 a2 a3 a4 = zhv O a0 a1 a2 a3 a4)) M) h
noncomputable def zm6 (O : Oracle E1) (a0 : Yb) (a1 : Int) (a2 : Int) : Option Yc :=
  ((zgn O a1 a2 a0 (a0.length : Int) (0 : Int)).bind (Sum.elim (fun y1 => (some ((true, ()), ()))) (fun r2 => (some r2))))
theorem zuR (a0) (a1) (a2) {r} (h : zm6 M a0 a1 a2 = some r) : zhi M a0 a1 a2 = some r := fixC (E := E1) ((fun O => (by kernel_rfl : zhi (Φ E1 O) a0 a1 a2 = zm6 O a0 a1 a2)) M) h
noncomputable def zkr (O : Oracle E1) (a0 : Yg) : Option Yc :=
  ((zaw O (a0.1.length : Int) (1 : Int) (10 : Int)).bind fun r1 => (if r1.1.1 = true then ((zhi O a0.1 (0 : Int) (3 : Int)).bind fun r2 => (if r2.1.1 = true then ((idx a0.1 (0 : Int)).bind fun x3 => (some (((x3 == 0), ()), ()))) else (some ((false, ()), ())))) else (some ((false, ()), ()))))
theorem zsk (a0) {r} (h : zkr M a0 = some r) : zik M a0 = some r := fixC (E := E1) ((fun O => (by kernel_rfl : zik (Φ E1 O) a0 = zkr O a0)) M) h
noncomputable def zah (O : Oracle E1) (a0 : YE) (a1 : Yg) (a2 : YE) (a3 : Int) (a4 : Int) : Option ((YE × Yg × Unit) ⊕ Yc) :=
  (if (decide (a4 < a3)) = true then ((idx a2 a4).bind fun x1 => ((za3 O (a1.1, ()) x1).bind fun r2 => (if (!r2.1.1) = true then (some (.inr ((false, ()), ()))) else (zaA O a0 (a1.1, ()) a2 a3 (i64.wrap (a4 + 1)))))) else (some (.inl (a0, (a1.1, ()), ()))))
theorem zag (a0) (a1) (a2) (a3) (a4) {r} (h : zah M a0 a1 a2 a3 a4 = some r) : zaA M a0 a1 a2 a3 a4 = some r := fixL (E := E1) ((fun O => (by kernel_rfl : zaA (Φ E1 O) a0 a1 a2 a3 a4 = zah O a0 a1 a2 a3 a4)) M) h
noncomputable def zcl (O : Oracle E1) (a0 : Yg) (a1 : YE) : Option Yc :=
  ((zaA O a1 (a0.1, ()) a1 (a1.length : Int) (0 : Int)).bind (Sum.elim (fun y1 => ((zik O (y1.2.1.1, ())).bind fun r3 => (if r3.1.1 = true then (some (((decide ((y1.1.length : Int) ≤ (12 : Int))), ()), ())) else (some ((false, ()), ()))))) (fun r2 => (some r2))))
theorem zig (a0) (a1) {r} (h : zcl M a0 a1 = some r) : zeB M a0 a1 = some r := fixC (E := E1) ((fun O => (by kernel_rfl : zeB (Φ E1 O) a0 a1 = zcl O a0 a1)) M) h
noncomputable def zd3 (O : Oracle E1) (a0 : Int) (a1 : Yb) (a2 : Int) (a3 : Int) : Option Yq :=
  (if (decide (a3 < a2)) = true then ((idx a1 a3).bind fun x1 => (if (x1 == a0) = true then (some (.inr ((true, ()), ()))) else (zeP O a0 a1 a2 (i64.wrap (a3 + 1))))) else (some (.inl ())))
theorem zhA (a0) (a1) (a2) (a3) {r} (h : zd3 M a0 a1 a2 a3 = some r) : zeP M a0 a1 a2 a3 = some r := fixL (E := E1) ((fun O => (by kernel_rfl : zeP (Φ E1 O) a0 a1 a2 a3 = zd3 O a0 a1 a2 a3)) M) h
noncomputable def zj2 (O : Oracle E1) (a0 : Yb) (a1 : Int) : Option Yc :=
  ((zeP O a1 a0 (a0.length : Int) (0 : Int)).bind (Sum.elim (fun y1 => (some ((false, ()), ()))) (fun r2 => (some r2))))
theorem zpR (a0) (a1) {r} (h : zj2 M a0 a1 = some r) : zde M a0 a1 = some r := fixC (E := E1) ((fun O => (by kernel_rfl : zde (Φ E1 O) a0 a1 = zj2 O a0 a1)) M) h
noncomputable def zfq (O : Oracle E1) (a0 : Yb) (a1 : Ym) (a2 : Ym) (a3 : Int) (a4 : Int) : Option Yy :=
  (if (decide (a4 < a3)) = true then ((idx a2 a4).bind fun x1 => ((zbK O a0 a1 [] a2 a3 a4 x1 (x1.length : Int) (0 : Int)).bind (Sum.elim (fun y2 => (if (List.length y2.2.1 + List.length ([y2.2.2.1] : Ym)) * 24 ≤ 140737488355328 then (zdQ O y2.1 (y2.2.1 ++ ([y2.2.2.1] : Ym)) y2.2.2.2.1 y2.2.2.2.2.1 (i64.wrap (y2.2.2.2.2.2.1 + 1))) else none)) (fun r3 => (some (.inr r3)))))) else (some (.inl (a1, ()))))
theorem zkp (a0) (a1) (a2) (a3) (a4) {r} (h : zfq M a0 a1 a2 a3 a4 = some r) : zdQ M a0 a1 a2 a3 a4 = some r := fixL (E := E1) ((fun O => (by kernel_rfl : zdQ (Φ E1 O) a0 a1 a2 a3 a4 = zfq O a0 a1 a2 a3 a4)) M) h
noncomputable def zci (O : Oracle E1) (a0 : Yb) (a1 : Ym) (a2 : Yb) (a3 : Ym) (a4 : Int) (a5 : Int) (a6 : Yb) (a7 : Int) (a8 : Int) : Option ((Yb × Ym × Yb × Ym × Int × Int × Unit) ⊕ Yh) :=
  (if (decide (a8 < a7)) = true then ((idx a6 a8).bind fun x1 => (((if (decide (x1 < 0)) = true then ((zde O a0 x1).bind fun r3 => (if (!r3.1.1) = true then (if (List.length a0 + List.length ([x1] : Yb)) * 8 ≤ 140737488355328 then (some (.inl ((a0 ++ ([x1] : Yb)), a1, a2, x1, a3, a4, a5, a6, a7, a8, ()))) else none) else (some (.inl (a0, a1, a2, x1, a3, a4, a5, a6, a7, a8, ()))))) else (some (.inl (a0, a1, a2, x1, a3, a4, a5, a6, a7, a8, ())))) : Option (YD ⊕ ((Yb × Ym × Yb × Ym × Int × Int × Unit) ⊕ (Yh)))).bind (Sum.elim (fun q2 => ((zaU O q2.1 q2.2.1 q2.2.2.1 q2.2.2.2.1 q2.2.2.2.2.1 q2.2.2.2.2.2.1 q2.2.2.2.2.2.2.1 q2.2.2.2.2.2.2.2.1 q2.2.2.2.2.2.2.2.2.1 q2.2.2.2.2.2.2.2.2.2.1 (q2.1.length : Int) (0 : Int)).bind (Sum.elim (fun y4 => (if (List.length y4.2.2.1 + List.length ([y4.2.2.2.1] : Yb)) * 8 ≤ 140737488355328 then (zbK O y4.1 y4.2.1 (y4.2.2.1 ++ ([y4.2.2.2.1] : Yb)) y4.2.2.2.2.1 y4.2.2.2.2.2.1 y4.2.2.2.2.2.2.1 y4.2.2.2.2.2.2.2.1 y4.2.2.2.2.2.2.2.2.1 (i64.wrap (y4.2.2.2.2.2.2.2.2.2.1 + 1))) else none)) (fun r5 => (some (.inr r5)))))) (fun r => some r)))) else (some (.inl (a0, a1, a2, a3, a4, a5, ()))))
theorem zf4 (a0) (a1) (a2) (a3) (a4) (a5) (a6) (a7) (a8) {r} (h : zci M a0 a1 a2 a3 a4 a5 a6 a7 a8 = some r) : zbK M a0 a1 a2 a3 a4 a5 a6 a7 a8 = some r := fixL (E := E1) ((fun O => (by kernel_rfl : zbK (Φ E1 O) a0 a1 a2 a3 a4 a5 a6 a7 a8 = zci O a0 a1 a2 a3 a4 a5 a6 a7 a8)) M) h
noncomputable def zcG (O : Oracle E1) (a0 : Yb) (a1 : Ym) (a2 : Yb) (a3 : Int) (a4 : Ym) (a5 : Int) (a6 : Int) (a7 : Yb) (a8 : Int) (a9 : Int) (a10 : Int) (a11 : Int) : Option (YD ⊕ Yh) :=
  (if (decide (a11 < a10)) = true then (if 0 ≤ a11 ∧ a11 < (a0.length : Int) then ((a0[a11.toNat]?).bind fun x1 => (if (x1 == a3) = true then (some (.inl (a0, a1, a2, (i64.wrap ((-1 : Int) - a11)), a4, a5, a6, a7, a8, a9, ()))) else (zaU O a0 a1 a2 a3 a4 a5 a6 a7 a8 a9 a10 (i64.wrap (a11 + 1))))) else none) else (some (.inl (a0, a1, a2, a3, a4, a5, a6, a7, a8, a9, ()))))
theorem zhQ (a0) (a1) (a2) (a3) (a4) (a5) (a6) (a7) (a8) (a9) (a10) (a11) {r} (h : zcG M a0 a1 a2 a3 a4 a5 a6 a7 a8 a9 a10 a11 = some r) : zaU M a0 a1 a2 a3 a4 a5 a6 a7 a8 a9 a10 a11 = some r := fixL (E := E1) ((fun O => (by kernel_rfl : zaU (Φ E1 O) a0 a1 a2 a3 a4 a5 a6 a7 a8 a9 a10 a11 = zcG O a0 a1 a2 a3 a4 a5 a6 a7 a8 a9 a10 a11)) M) h
noncomputable def zj4 (O : Oracle E1) (a0 : Ym) : Option Yh :=
  ((zdQ O [] [] a0 (a0.length : Int) (0 : Int)).bind (Sum.elim (fun y1 => (some ((y1.1, ()), ()))) (fun r2 => (some r2))))
theorem zr8 (a0) {r} (h : zj4 M a0 = some r) : zih M a0 = some r := fixC (E := E1) ((fun O => (by kernel_rfl : zih (Φ E1 O) a0 = zj4 O a0)) M) h
noncomputable def zgs (O : Oracle E1) (a0 : Ym) (a1 : Yf) (a2 : Int) (a3 : Int) : Option Yy :=
  (if (decide (a3 < a2)) = true then ((idx a1 a3).bind fun x1 => (if (List.length a0 + List.length ([x1.2.1, x1.2.2.1] : Ym)) * 24 ≤ 140737488355328 then (ze8 O (a0 ++ ([x1.2.1, x1.2.2.1] : Ym)) a1 a2 (i64.wrap (a3 + 1))) else none)) else (some (.inl (a0, ()))))
theorem zlF (a0) (a1) (a2) (a3) {r} (h : zgs M a0 a1 a2 a3 = some r) : ze8 M a0 a1 a2 a3 = some r := fixL (E := E1) ((fun O => (by kernel_rfl : ze8 (Φ E1 O) a0 a1 a2 a3 = zgs O a0 a1 a2 a3)) M) h
noncomputable def zkP (O : Oracle E1) (a0 : Yf) : Option Yh :=
  ((ze8 O [] a0 (a0.length : Int) (0 : Int)).bind (Sum.elim (fun y1 => (some ((y1.1, ()), ()))) (fun r2 => (some r2))))
theorem zsX (a0) {r} (h : zkP M a0 = some r) : ziW M a0 = some r := fixC (E := E1) ((fun O => (by kernel_rfl : ziW (Φ E1 O) a0 = zkP O a0)) M) h
noncomputable def zfp (O : Oracle E1) (a0 : Ym) (a1 : Yf) (a2 : Yf) (a3 : Int) (a4 : Int) : Option Yv :=
  (if (decide (a4 < a3)) = true then ((idx a2 a4).bind fun x1 => (if 0 ≤ (i64.wrap ((2 : Int) * a4)) ∧ (i64.wrap ((2 : Int) * a4)) < (a0.length : Int) then ((a0[(Int.toNat (i64.wrap ((2 : Int) * a4)))]?).bind fun x2 => (if 0 ≤ (i64.wrap ((i64.wrap ((2 : Int) * a4)) + (1 : Int))) ∧ (i64.wrap ((i64.wrap ((2 : Int) * a4)) + (1 : Int))) < (a0.length : Int) then ((a0[(Int.toNat (i64.wrap ((i64.wrap ((2 : Int) * a4)) + (1 : Int))))]?).bind fun x3 => (if (List.length a1 + List.length ([(x1.1, x2, x3, ())] : Yf)) * 56 ≤ 140737488355328 then (zdN O a0 (a1 ++ ([(x1.1, x2, x3, ())] : Yf)) a2 a3 (i64.wrap (a4 + 1))) else none)) else none)) else none)) else (some (.inl (a1, ()))))
theorem zkn (a0) (a1) (a2) (a3) (a4) {r} (h : zfp M a0 a1 a2 a3 a4 = some r) : zdN M a0 a1 a2 a3 a4 = some r := fixL (E := E1) ((fun O => (by kernel_rfl : zdN (Φ E1 O) a0 a1 a2 a3 a4 = zfp O a0 a1 a2 a3 a4)) M) h
noncomputable def zkb (O : Oracle E1) (a0 : Yf) : Option Yj :=
  ((ziW O a0).bind fun r1 => ((zih O r1.1.1).bind fun r2 => ((zdN O r2.1.1 [] a0 (a0.length : Int) (0 : Int)).bind (Sum.elim (fun y3 => (some ((y3.1, ()), ()))) (fun r4 => (some r4))))))
theorem zsy (a0) {r} (h : zkb M a0 = some r) : ziq M a0 = some r := fixC (E := E1) ((fun O => (by kernel_rfl : ziq (Φ E1 O) a0 = zkb O a0)) M) h
noncomputable def zgS (O : Oracle E1) (a0 : Yb) (a1 : Yb) (a2 : Int) (a3 : Int) : Option Yq :=
  (if (decide (a3 < a2)) = true then ((idx a0 a3).bind fun x1 => ((idx a1 a3).bind fun x2 => (if (x1 != x2) = true then (some (.inr ((false, ()), ()))) else (zfF O a0 a1 a2 (i64.wrap (a3 + 1)))))) else (some (.inl ())))
theorem zms (a0) (a1) (a2) (a3) {r} (h : zgS M a0 a1 a2 a3 = some r) : zfF M a0 a1 a2 a3 = some r := fixL (E := E1) ((fun O => (by kernel_rfl : zfF (Φ E1 O) a0 a1 a2 a3 = zgS O a0 a1 a2 a3)) M) h
noncomputable def zlY (O : Oracle E1) (a0 : Yb) (a1 : Yb) : Option Yc :=
  (if ((a0.length : Int) != (a1.length : Int)) = true then (some ((false, ()), ())) else ((zfF O a0 a1 (a0.length : Int) (0 : Int)).bind (Sum.elim (fun y1 => (some ((true, ()), ()))) (fun r2 => (some r2)))))
theorem zus (a0) (a1) {r} (h : zlY M a0 a1 = some r) : zaO M a0 a1 = some r := fixC (E := E1) ((fun O => (by kernel_rfl : zaO (Φ E1 O) a0 a1 = zlY O a0 a1)) M) h
noncomputable def zkj (O : Oracle E1) (a0 : Yb) : Option Yo :=
  (if (List.length ([] : Yb) + List.length a0) * 8 ≤ 140737488355328 then (some (((([] : Yb) ++ a0), ()), ())) else none)
theorem zpL (a0) {r} (h : zkj M a0 = some r) : zbr M a0 = some r := fixC (E := E1) ((fun O => (by kernel_rfl : zbr (Φ E1 O) a0 = zkj O a0)) M) h
noncomputable def zhy (O : Oracle E1) (a0 : Yf) (a1 : Yf) (a2 : Int) (a3 : Int) : Option Yv :=
  (if (decide (a3 < a2)) = true then ((idx a1 a3).bind fun x1 => ((zbr O x1.2.1).bind fun r2 => ((zbr O x1.2.2.1).bind fun r3 => (if (List.length a0 + List.length ([(x1.1, r2.1.1, r3.1.1, ())] : Yf)) * 56 ≤ 140737488355328 then (zgg O (a0 ++ ([(x1.1, r2.1.1, r3.1.1, ())] : Yf)) a1 a2 (i64.wrap (a3 + 1))) else none)))) else (some (.inl (a0, ()))))
theorem zmV (a0) (a1) (a2) (a3) {r} (h : zhy M a0 a1 a2 a3 = some r) : zgg M a0 a1 a2 a3 = some r := fixL (E := E1) ((fun O => (by kernel_rfl : zgg (Φ E1 O) a0 a1 a2 a3 = zhy O a0 a1 a2 a3)) M) h
noncomputable def zki (O : Oracle E1) (a0 : Yf) : Option Yj :=
  ((zgg O [] a0 (a0.length : Int) (0 : Int)).bind (Sum.elim (fun y1 => (some ((y1.1, ()), ()))) (fun r2 => (some r2))))
theorem zqz (a0) {r} (h : zki M a0 = some r) : zhb M a0 = some r := fixC (E := E1) ((fun O => (by kernel_rfl : zhb (Φ E1 O) a0 = zki O a0)) M) h
noncomputable def ziu (O : Oracle E1) (a0 : Ya) (a1 : Ya) : Option Yc :=
  ((zaO O a0.2.1 a1.2.1).bind fun r1 => (if r1.1.1 = true then ((zaO O a0.2.2.1 a1.2.2.1).bind fun r2 => (if r2.1.1 = true then (some ((true, ()), ())) else ((zaO O a0.2.1 a1.2.2.1).bind fun r3 => (if r3.1.1 = true then ((zaO O a0.2.2.1 a1.2.1).bind fun r4 => (some ((r4.1.1, ()), ()))) else (some ((false, ()), ())))))) else ((zaO O a0.2.1 a1.2.2.1).bind fun r5 => (if r5.1.1 = true then ((zaO O a0.2.2.1 a1.2.1).bind fun r6 => (some ((r6.1.1, ()), ()))) else (some ((false, ()), ()))))))
theorem zpG (a0) (a1) {r} (h : ziu M a0 a1 = some r) : zgE M a0 a1 = some r := fixC (E := E1) ((fun O => (by kernel_rfl : zgE (Φ E1 O) a0 a1 = ziu O a0 a1)) M) h
noncomputable def zg4 (O : Oracle E1) (a0 : Yf) (a1 : Yf) (a2 : Int) (a3 : Int) : Option Yv :=
  (if (decide (a3 < a2)) = true then ((((idx a1 a3).bind fun x2 => (if (!x2.1) = true then ((zaO O x2.2.1 x2.2.2.1).bind fun r3 => (if r3.1.1 = true then (some (.inl (a0, a1, a2, a3, ()))) else ((zbg O a0 (x2.1, x2.2.1, x2.2.2.1, ()) false a1 a2 a3 (a0.length : Int) (0 : Int)).bind (Sum.elim (fun y4 => (if (!y4.2.2.1) = true then (if (List.length y4.1 + List.length ([(y4.2.1.1, y4.2.1.2.1, y4.2.1.2.2.1, ())] : Yf)) * 56 ≤ 140737488355328 then (some (.inl ((y4.1 ++ ([(y4.2.1.1, y4.2.1.2.1, y4.2.1.2.2.1, ())] : Yf)), y4.2.2.2.1, y4.2.2.2.2.1, y4.2.2.2.2.2.1, ()))) else none) else (some (.inl (y4.1, y4.2.2.2.1, y4.2.2.2.2.1, y4.2.2.2.2.2.1, ()))))) (fun r5 => ((some (.inr r5)).map .inr)))))) else ((zbg O a0 (x2.1, x2.2.1, x2.2.2.1, ()) false a1 a2 a3 (a0.length : Int) (0 : Int)).bind (Sum.elim (fun y6 => (if (!y6.2.2.1) = true then (if (List.length y6.1 + List.length ([(y6.2.1.1, y6.2.1.2.1, y6.2.1.2.2.1, ())] : Yf)) * 56 ≤ 140737488355328 then (some (.inl ((y6.1 ++ ([(y6.2.1.1, y6.2.1.2.1, y6.2.1.2.2.1, ())] : Yf)), y6.2.2.2.1, y6.2.2.2.2.1, y6.2.2.2.2.2.1, ()))) else none) else (some (.inl (y6.1, y6.2.2.2.1, y6.2.2.2.2.1, y6.2.2.2.2.2.1, ()))))) (fun r7 => ((some (.inr r7)).map .inr)))))) : Option ((Yf × Yf × Int × Int × Unit) ⊕ ((Yf × Unit) ⊕ (Yj)))).bind (Sum.elim (fun q1 => (zcL O q1.1 q1.2.1 q1.2.2.1 (i64.wrap (q1.2.2.2.1 + 1)))) (fun r => some r))) else (some (.inl (a0, ()))))
theorem zmr (a0) (a1) (a2) (a3) {r} (h : zg4 M a0 a1 a2 a3 = some r) : zcL M a0 a1 a2 a3 = some r := fixL (E := E1) ((fun O => (by kernel_rfl : zcL (Φ E1 O) a0 a1 a2 a3 = zg4 O a0 a1 a2 a3)) M) h
noncomputable def zeS (O : Oracle E1) (a0 : Yf) (a1 : Ya) (a2 : Bool) (a3 : Yf) (a4 : Int) (a5 : Int) (a6 : Int) (a7 : Int) : Option ((Yf × Ya × Bool × Yf × Int × Int × Unit) ⊕ Yj) :=
  (if (decide (a7 < a6)) = true then (if 0 ≤ a7 ∧ a7 < (a0.length : Int) then ((a0[a7.toNat]?).bind fun x1 => (if a2 = true then (zbg O a0 (a1.1, a1.2.1, a1.2.2.1, ()) true a3 a4 a5 a6 (i64.wrap (a7 + 1))) else (if (a1.1 == x1.1) = true then ((zgE O (a1.1, a1.2.1, a1.2.2.1, ()) (x1.1, x1.2.1, x1.2.2.1, ())).bind fun r2 => (zbg O a0 (a1.1, a1.2.1, a1.2.2.1, ()) r2.1.1 a3 a4 a5 a6 (i64.wrap (a7 + 1)))) else (zbg O a0 (a1.1, a1.2.1, a1.2.2.1, ()) false a3 a4 a5 a6 (i64.wrap (a7 + 1)))))) else none) else (some (.inl (a0, (a1.1, a1.2.1, a1.2.2.1, ()), a2, a3, a4, a5, ()))))
theorem zjV (a0) (a1) (a2) (a3) (a4) (a5) (a6) (a7) {r} (h : zeS M a0 a1 a2 a3 a4 a5 a6 a7 = some r) : zbg M a0 a1 a2 a3 a4 a5 a6 a7 = some r := fixL (E := E1) ((fun O => (by kernel_rfl : zbg (Φ E1 O) a0 a1 a2 a3 a4 a5 a6 a7 = zeS O a0 a1 a2 a3 a4 a5 a6 a7)) M) h
noncomputable def zlW (O : Oracle E1) (a0 : Yf) : Option Yj :=
  ((zcL O [] a0 (a0.length : Int) (0 : Int)).bind (Sum.elim (fun y1 => ((zhb O y1.1).bind fun r3 => (some ((r3.1.1, ()), ())))) (fun r2 => (some r2))))
theorem zuy (a0) {r} (h : zlW M a0 = some r) : zjD M a0 = some r := fixC (E := E1) ((fun O => (by kernel_rfl : zjD (Φ E1 O) a0 = zlW O a0)) M) h
end Go.Proofs.YtkgpnekonnopgaaGreatCs.Ev
