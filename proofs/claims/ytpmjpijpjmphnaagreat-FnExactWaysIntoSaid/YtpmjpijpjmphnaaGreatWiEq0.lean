/- A text of its own: Eq0; no condition but those that each theorem names. -/
import Derived.Test.YtpmjpijpjmphnaaGreatWiNm
import Derived.KernelRfl
/- The functions' equations: printed by sym.py; no condition. -/
namespace Go.Proofs.YtpmjpijpjmphnaaGreatWi.Ev
open Go Go.IntKind
set_option maxRecDepth 100000
set_option autoImplicit false
set_option linter.unusedVariables false

noncomputable def q_laws_szIntS (O : Oracle E1) (a0 : Yb) (a1 : Int) : Option Ye :=
  (if (decide ((i64.wrap (a1 - (a0.length : Int))) < (0 : Int))) = true then (some (((-1 : Int), ()), ())) else (some (((i64.wrap (a1 - (a0.length : Int))), ()), ())))
theorem e_laws_szIntS (a0) (a1) {r} (h : q_laws_szIntS M a0 a1 = some r) : c_laws_szIntS M a0 a1 = some r := fixC (E := E1) ((fun O => (by kernel_rfl : c_laws_szIntS (Φ E1 O) a0 a1 = q_laws_szIntS O a0 a1)) M) h
noncomputable def q_laws_szSign (O : Oracle E1) (a0 : Yf) (a1 : Int) : Option Ye :=
  ((c_laws_szIntS O a0.1 a1).bind fun r1 => (if (decide (r1.1.1 < 0)) = true then (some (((-1 : Int), ()), ())) else (some ((r1.1.1, ()), ()))))
theorem e_laws_szSign (a0) (a1) {r} (h : q_laws_szSign M a0 a1 = some r) : c_laws_szSign M a0 a1 = some r := fixC (E := E1) ((fun O => (by kernel_rfl : c_laws_szSign (Φ E1 O) a0 a1 = q_laws_szSign O a0 a1)) M) h
noncomputable def q_laws_szLit (O : Oracle E1) (a0 : Ya) (a1 : Int) : Option Ye :=
  ((c_laws_szIntS O a0.2.1 a1).bind fun r1 => (if (decide (r1.1.1 < 0)) = true then (some (((-1 : Int), ()), ())) else ((c_laws_szIntS O a0.2.2.1 r1.1.1).bind fun r2 => (if (decide (r2.1.1 < 0)) = true then (some (((-1 : Int), ()), ())) else (some ((r2.1.1, ()), ()))))))
theorem e_laws_szLit (a0) (a1) {r} (h : q_laws_szLit M a0 a1 = some r) : c_laws_szLit M a0 a1 = some r := fixC (E := E1) ((fun O => (by kernel_rfl : c_laws_szLit (Φ E1 O) a0 a1 = q_laws_szLit O a0 a1)) M) h
noncomputable def ql_laws_szLitS_122 (O : Oracle E1) (a0 : Yh) (a1 : Int) (a2 : Int) : Option (Yq ⊕ Ye) :=
  (if (decide (a2 < (a0.length : Int))) = true then ((idx a0 a2).bind fun x1 => ((c_laws_szLit O (x1.1, x1.2.1, x1.2.2.1, ()) a1).bind fun r2 => (if (decide (r2.1.1 < 0)) = true then (some (.inr (((-1 : Int), ()), ()))) else (l_laws_szLitS_122 O a0 r2.1.1 (i64.wrap (a2 + 1)))))) else (some (.inl (a1, ()))))
theorem el_laws_szLitS_122 (a0) (a1) (a2) {r} (h : ql_laws_szLitS_122 M a0 a1 a2 = some r) : l_laws_szLitS_122 M a0 a1 a2 = some r := fixL (E := E1) ((fun O => (by kernel_rfl : l_laws_szLitS_122 (Φ E1 O) a0 a1 a2 = ql_laws_szLitS_122 O a0 a1 a2)) M) h
noncomputable def q_laws_szLitS (O : Oracle E1) (a0 : Yh) (a1 : Int) : Option Ye :=
  (if (decide ((i64.wrap (a1 - (a0.length : Int))) < (0 : Int))) = true then (some (((-1 : Int), ()), ())) else ((l_laws_szLitS_122 O a0 (i64.wrap (a1 - (a0.length : Int))) (0 : Int)).bind (Sum.elim (fun y1 => (some ((y1.1, ()), ()))) (fun r2 => (some r2)))))
theorem e_laws_szLitS (a0) (a1) {r} (h : q_laws_szLitS M a0 a1 = some r) : c_laws_szLitS M a0 a1 = some r := fixC (E := E1) ((fun O => (by kernel_rfl : c_laws_szLitS (Φ E1 O) a0 a1 = q_laws_szLitS O a0 a1)) M) h
noncomputable def ql_laws_toIntS_58 (O : Oracle E1) (a0 : Yb) (a1 : Yb) (a2 : Int) : Option YD :=
  (if (decide (a2 < (a0.length : Int))) = true then ((idx a0 a2).bind fun x1 => (if 0 ≤ a2 ∧ a2 < (a1.length : Int) then ((a1[a2.toNat]?).bind fun x2 => (l_laws_toIntS_58 O a0 (a1.set a2.toNat x1) (i64.wrap (a2 + 1)))) else none)) else (some (.inl (a1, ()))))
theorem el_laws_toIntS_58 (a0) (a1) (a2) {r} (h : ql_laws_toIntS_58 M a0 a1 a2 = some r) : l_laws_toIntS_58 M a0 a1 a2 = some r := fixL (E := E1) ((fun O => (by kernel_rfl : l_laws_toIntS_58 (Φ E1 O) a0 a1 a2 = ql_laws_toIntS_58 O a0 a1 a2)) M) h
noncomputable def q_laws_toIntS (O : Oracle E1) (a0 : Yb) : Option Yl :=
  (if 0 ≤ (a0.length : Int) ∧ ((8 : Nat) : Int) * (a0.length : Int) ≤ 140737488355328 ∧ (a0.length : Int) = (a0.length : Int) then ((l_laws_toIntS_58 O a0 (List.replicate (Int.toNat (a0.length : Int)) (0 : Int)) (0 : Int)).bind (Sum.elim (fun y1 => (some ((y1.1, ()), ()))) (fun r2 => (some r2)))) else none)
theorem e_laws_toIntS (a0) {r} (h : q_laws_toIntS M a0 = some r) : c_laws_toIntS M a0 = some r := fixC (E := E1) ((fun O => (by kernel_rfl : c_laws_toIntS (Φ E1 O) a0 = q_laws_toIntS O a0)) M) h
noncomputable def q_laws_toSign (O : Oracle E1) (a0 : Yf) : Option ((Yf × Unit) × (Unit)) :=
  ((c_laws_toIntS O a0.1).bind fun r1 => (some (((r1.1.1, ()), ()), ())))
theorem e_laws_toSign (a0) {r} (h : q_laws_toSign M a0 = some r) : c_laws_toSign M a0 = some r := fixC (E := E1) ((fun O => (by kernel_rfl : c_laws_toSign (Φ E1 O) a0 = q_laws_toSign O a0)) M) h
noncomputable def q_laws_toLit (O : Oracle E1) (a0 : Ya) : Option ((Ya × Unit) × (Unit)) :=
  ((c_laws_toIntS O a0.2.1).bind fun r1 => ((c_laws_toIntS O a0.2.2.1).bind fun r2 => (some (((a0.1, r1.1.1, r2.1.1, ()), ()), ()))))
theorem e_laws_toLit (a0) {r} (h : q_laws_toLit M a0 = some r) : c_laws_toLit M a0 = some r := fixC (E := E1) ((fun O => (by kernel_rfl : c_laws_toLit (Φ E1 O) a0 = q_laws_toLit O a0)) M) h
noncomputable def ql_laws_toLitS_58 (O : Oracle E1) (a0 : Yh) (a1 : Yh) (a2 : Int) : Option Ys :=
  (if (decide (a2 < (a0.length : Int))) = true then ((idx a0 a2).bind fun x1 => ((c_laws_toLit O (x1.1, x1.2.1, x1.2.2.1, ())).bind fun r2 => (if 0 ≤ a2 ∧ a2 < (a1.length : Int) then ((a1[a2.toNat]?).bind fun x3 => (l_laws_toLitS_58 O a0 (a1.set a2.toNat (r2.1.1.1, r2.1.1.2.1, r2.1.1.2.2.1, ())) (i64.wrap (a2 + 1)))) else none))) else (some (.inl (a1, ()))))
theorem el_laws_toLitS_58 (a0) (a1) (a2) {r} (h : ql_laws_toLitS_58 M a0 a1 a2 = some r) : l_laws_toLitS_58 M a0 a1 a2 = some r := fixL (E := E1) ((fun O => (by kernel_rfl : l_laws_toLitS_58 (Φ E1 O) a0 a1 a2 = ql_laws_toLitS_58 O a0 a1 a2)) M) h
noncomputable def q_laws_toLitS (O : Oracle E1) (a0 : Yh) : Option Yi :=
  (if 0 ≤ (a0.length : Int) ∧ ((56 : Nat) : Int) * (a0.length : Int) ≤ 140737488355328 ∧ (a0.length : Int) = (a0.length : Int) then ((l_laws_toLitS_58 O a0 (List.replicate (Int.toNat (a0.length : Int)) (false, [], [], ())) (0 : Int)).bind (Sum.elim (fun y1 => (some ((y1.1, ()), ()))) (fun r2 => (some r2)))) else none)
theorem e_laws_toLitS (a0) {r} (h : q_laws_toLitS M a0 = some r) : c_laws_toLitS M a0 = some r := fixC (E := E1) ((fun O => (by kernel_rfl : c_laws_toLitS (Φ E1 O) a0 = q_laws_toLitS O a0)) M) h
noncomputable def ql_laws_eqIntS_58 (O : Oracle E1) (a0 : Yb) (a1 : Yb) (a2 : Int) : Option Yr :=
  (if (decide (a2 < (a0.length : Int))) = true then ((idx a0 a2).bind fun x1 => ((idx a1 a2).bind fun x2 => (if (x1 != x2) = true then (some (.inr ((false, ()), ()))) else (l_laws_eqIntS_58 O a0 a1 (i64.wrap (a2 + 1)))))) else (some (.inl ())))
theorem el_laws_eqIntS_58 (a0) (a1) (a2) {r} (h : ql_laws_eqIntS_58 M a0 a1 a2 = some r) : l_laws_eqIntS_58 M a0 a1 a2 = some r := fixL (E := E1) ((fun O => (by kernel_rfl : l_laws_eqIntS_58 (Φ E1 O) a0 a1 a2 = ql_laws_eqIntS_58 O a0 a1 a2)) M) h
noncomputable def q_laws_eqIntS (O : Oracle E1) (a0 : Yb) (a1 : Yb) : Option Yd :=
  (if ((a0.length : Int) != (a1.length : Int)) = true then (some ((false, ()), ())) else ((l_laws_eqIntS_58 O a0 a1 (0 : Int)).bind (Sum.elim (fun y1 => (some ((true, ()), ()))) (fun r2 => (some r2)))))
theorem e_laws_eqIntS (a0) (a1) {r} (h : q_laws_eqIntS M a0 a1 = some r) : c_laws_eqIntS M a0 a1 = some r := fixC (E := E1) ((fun O => (by kernel_rfl : c_laws_eqIntS (Φ E1 O) a0 a1 = q_laws_eqIntS O a0 a1)) M) h
noncomputable def q_laws_eqLit (O : Oracle E1) (a0 : Ya) (a1 : Ya) : Option Yd :=
  (if (!(a0.1 == a1.1)) = true then (some ((false, ()), ())) else ((c_laws_eqIntS O a0.2.1 a1.2.1).bind fun r1 => (if (!r1.1.1) = true then (some ((false, ()), ())) else ((c_laws_eqIntS O a0.2.2.1 a1.2.2.1).bind fun r2 => (if (!r2.1.1) = true then (some ((false, ()), ())) else (some ((true, ()), ())))))))
theorem e_laws_eqLit (a0) (a1) {r} (h : q_laws_eqLit M a0 a1 = some r) : c_laws_eqLit M a0 a1 = some r := fixC (E := E1) ((fun O => (by kernel_rfl : c_laws_eqLit (Φ E1 O) a0 a1 = q_laws_eqLit O a0 a1)) M) h
noncomputable def ql_laws_eqLitS_58 (O : Oracle E1) (a0 : Yh) (a1 : Yh) (a2 : Int) : Option Yr :=
  (if (decide (a2 < (a0.length : Int))) = true then ((idx a0 a2).bind fun x1 => ((idx a1 a2).bind fun x2 => ((c_laws_eqLit O (x1.1, x1.2.1, x1.2.2.1, ()) (x2.1, x2.2.1, x2.2.2.1, ())).bind fun r3 => (if (!r3.1.1) = true then (some (.inr ((false, ()), ()))) else (l_laws_eqLitS_58 O a0 a1 (i64.wrap (a2 + 1))))))) else (some (.inl ())))
theorem el_laws_eqLitS_58 (a0) (a1) (a2) {r} (h : ql_laws_eqLitS_58 M a0 a1 a2 = some r) : l_laws_eqLitS_58 M a0 a1 a2 = some r := fixL (E := E1) ((fun O => (by kernel_rfl : l_laws_eqLitS_58 (Φ E1 O) a0 a1 a2 = ql_laws_eqLitS_58 O a0 a1 a2)) M) h
noncomputable def q_laws_eqLitS (O : Oracle E1) (a0 : Yh) (a1 : Yh) : Option Yd :=
  (if ((a0.length : Int) != (a1.length : Int)) = true then (some ((false, ()), ())) else ((l_laws_eqLitS_58 O a0 a1 (0 : Int)).bind (Sum.elim (fun y1 => (some ((true, ()), ()))) (fun r2 => (some r2)))))
theorem e_laws_eqLitS (a0) (a1) {r} (h : q_laws_eqLitS M a0 a1 = some r) : c_laws_eqLitS M a0 a1 = some r := fixC (E := E1) ((fun O => (by kernel_rfl : c_laws_eqLitS (Φ E1 O) a0 a1 = q_laws_eqLitS O a0 a1)) M) h
noncomputable def q_laws_eqSign (O : Oracle E1) (a0 : Yf) (a1 : Yf) : Option Yd :=
  ((c_laws_eqIntS O a0.1 a1.1).bind fun r1 => (if (!r1.1.1) = true then (some ((false, ()), ())) else (some ((true, ()), ()))))
theorem e_laws_eqSign (a0) (a1) {r} (h : q_laws_eqSign M a0 a1 = some r) : c_laws_eqSign M a0 a1 = some r := fixC (E := E1) ((fun O => (by kernel_rfl : c_laws_eqSign (Φ E1 O) a0 a1 = q_laws_eqSign O a0 a1)) M) h
noncomputable def ql_laws_markIntS_26 (O : Oracle E1) (a0 : Yb) (a1 : Int) (a2 : Int) : Option ((Yb × Int × Unit) ⊕ (Yq × Yf)) :=
  (if (decide (a2 < (a0.length : Int))) = true then (if 0 ≤ a2 ∧ a2 < (a0.length : Int) then ((a0[a2.toNat]?).bind fun x1 => (l_laws_markIntS_26 O (a0.set a2.toNat a1) (i64.wrap (a1 + 1)) (i64.wrap (a2 + 1)))) else none) else (some (.inl (a0, a1, ()))))
theorem el_laws_markIntS_26 (a0) (a1) (a2) {r} (h : ql_laws_markIntS_26 M a0 a1 a2 = some r) : l_laws_markIntS_26 M a0 a1 a2 = some r := fixL (E := E1) ((fun O => (by kernel_rfl : l_laws_markIntS_26 (Φ E1 O) a0 a1 a2 = ql_laws_markIntS_26 O a0 a1 a2)) M) h
noncomputable def q_laws_markIntS (O : Oracle E1) (a0 : Yb) (a1 : Int) : Option (Yq × Yf) :=
  ((l_laws_markIntS_26 O a0 a1 (0 : Int)).bind (Sum.elim (fun y1 => (some ((y1.2.1, ()), (y1.1, ())))) (fun r2 => (some r2))))
theorem e_laws_markIntS (a0) (a1) {r} (h : q_laws_markIntS M a0 a1 = some r) : c_laws_markIntS M a0 a1 = some r := fixC (E := E1) ((fun O => (by kernel_rfl : c_laws_markIntS (Φ E1 O) a0 a1 = q_laws_markIntS O a0 a1)) M) h
noncomputable def q_laws_markSign (O : Oracle E1) (a0 : Yf) (a1 : Int) : Option (Yq × (Yf × Unit)) :=
  ((c_laws_markIntS O a0.1 a1).bind fun r1 => (some ((r1.1.1, ()), ((r1.2.1, ()), ()))))
theorem e_laws_markSign (a0) (a1) {r} (h : q_laws_markSign M a0 a1 = some r) : c_laws_markSign M a0 a1 = some r := fixC (E := E1) ((fun O => (by kernel_rfl : c_laws_markSign (Φ E1 O) a0 a1 = q_laws_markSign O a0 a1)) M) h
noncomputable def ql_laws_markLitS_26 (O : Oracle E1) (a0 : Yh) (a1 : Int) (a2 : Int) : Option ((Yh × Int × Unit) ⊕ (Yq × (Yh × Unit))) :=
  (if (decide (a2 < (a0.length : Int))) = true then (if (3 : Int) = 0 then none else (if 0 ≤ a2 ∧ a2 < (a0.length : Int) then ((a0[a2.toNat]?).bind fun x1 => (if 0 ≤ a2 ∧ a2 < (List.length (a0.set a2.toNat (((Int.tmod a1 (3 : Int)) == (0 : Int)), x1.2.1, x1.2.2.1, ())) : Int) then (((a0.set a2.toNat (((Int.tmod a1 (3 : Int)) == (0 : Int)), x1.2.1, x1.2.2.1, ()))[a2.toNat]?).bind fun x2 => ((c_laws_markIntS O x2.2.1 (i64.wrap (a1 + 1))).bind fun r3 => (if 0 ≤ a2 ∧ a2 < (List.length (a0.set a2.toNat (((Int.tmod a1 (3 : Int)) == (0 : Int)), x1.2.1, x1.2.2.1, ())) : Int) then ((((a0.set a2.toNat (((Int.tmod a1 (3 : Int)) == (0 : Int)), x1.2.1, x1.2.2.1, ())).set a2.toNat (x2.1, r3.2.1, x2.2.2.1, ()))[a2.toNat]?).bind fun x4 => ((c_laws_markIntS O x4.2.2.1 r3.1.1).bind fun r5 => (l_laws_markLitS_26 O (((a0.set a2.toNat (((Int.tmod a1 (3 : Int)) == (0 : Int)), x1.2.1, x1.2.2.1, ())).set a2.toNat (x2.1, r3.2.1, x2.2.2.1, ())).set a2.toNat (x4.1, x4.2.1, r5.2.1, ())) r5.1.1 (i64.wrap (a2 + 1))))) else none))) else none)) else none)) else (some (.inl (a0, a1, ()))))
theorem el_laws_markLitS_26 (a0) (a1) (a2) {r} (h : ql_laws_markLitS_26 M a0 a1 a2 = some r) : l_laws_markLitS_26 M a0 a1 a2 = some r := fixL (E := E1) ((fun O => (by kernel_rfl : l_laws_markLitS_26 (Φ E1 O) a0 a1 a2 = ql_laws_markLitS_26 O a0 a1 a2)) M) h
noncomputable def q_laws_markLitS (O : Oracle E1) (a0 : Yh) (a1 : Int) : Option (Yq × (Yh × Unit)) :=
  ((l_laws_markLitS_26 O a0 a1 (0 : Int)).bind (Sum.elim (fun y1 => (some ((y1.2.1, ()), (y1.1, ())))) (fun r2 => (some r2))))
theorem e_laws_markLitS (a0) (a1) {r} (h : q_laws_markLitS M a0 a1 = some r) : c_laws_markLitS M a0 a1 = some r := fixC (E := E1) ((fun O => (by kernel_rfl : c_laws_markLitS (Φ E1 O) a0 a1 = q_laws_markLitS O a0 a1)) M) h
noncomputable def q_spec_l1In (O : Oracle E1) (a0 : Int) (a1 : Int) (a2 : Int) : Option Yd :=
  (if (decide (a0 ≥ a1)) = true then (some (((decide (a0 ≤ a2)), ()), ())) else (some ((false, ()), ())))
theorem e_spec_l1In (a0) (a1) (a2) {r} (h : q_spec_l1In M a0 a1 a2 = some r) : c_spec_l1In M a0 a1 a2 = some r := fixC (E := E1) ((fun O => (by kernel_rfl : c_spec_l1In (Φ E1 O) a0 a1 a2 = q_spec_l1In O a0 a1 a2)) M) h
noncomputable def ql_spec_l1End_28 (O : Oracle E1) (a0 : Yb) (a1 : Int) (a2 : Yf) (a3 : Int) : Option (Yq ⊕ Ye) :=
  (if (decide (a3 > 0)) = true then (if (decide (a1 ≥ (a0.length : Int))) = true then (some (.inr (((-1 : Int), ()), ()))) else ((idx a0 a1).bind fun x1 => ((c_spec_l1In O x1 (-12 : Int) (i64.wrap ((a2.1.length : Int) - (1 : Int)))).bind fun r2 => (if (!r2.1.1) = true then (some (.inr (((-1 : Int), ()), ()))) else ((((idx a0 a1).bind fun x4 => (if (decide (x4 ≥ 0)) = true then ((idx a0 a1).bind fun x5 => ((idx a2.1 x5).bind fun x6 => (some (.inl (a0, a1, (a2.1, ()), (i64.wrap ((i64.wrap (a3 - 1)) + x6)), ()))))) else (some (.inl (a0, a1, (a2.1, ()), (i64.wrap (a3 - 1)), ()))))) : Option ((Yb × Int × Yf × Int × Unit) ⊕ (Yq ⊕ (Ye)))).bind (Sum.elim (fun q3 => (l_spec_l1End_28 O q3.1 (i64.wrap (q3.2.1 + 1)) (q3.2.2.1.1, ()) q3.2.2.2.1)) (fun r => some r))))))) else (some (.inl (a1, ()))))
theorem el_spec_l1End_28 (a0) (a1) (a2) (a3) {r} (h : ql_spec_l1End_28 M a0 a1 a2 a3 = some r) : l_spec_l1End_28 M a0 a1 a2 a3 = some r := fixL (E := E1) ((fun O => (by kernel_rfl : l_spec_l1End_28 (Φ E1 O) a0 a1 a2 a3 = ql_spec_l1End_28 O a0 a1 a2 a3)) M) h
noncomputable def q_spec_l1End (O : Oracle E1) (a0 : Yf) (a1 : Yb) (a2 : Int) : Option Ye :=
  ((l_spec_l1End_28 O a1 a2 (a0.1, ()) (1 : Int)).bind (Sum.elim (fun y1 => (some ((y1.1, ()), ()))) (fun r2 => (some r2))))
theorem e_spec_l1End (a0) (a1) (a2) {r} (h : q_spec_l1End M a0 a1 a2 = some r) : c_spec_l1End M a0 a1 a2 = some r := fixC (E := E1) ((fun O => (by kernel_rfl : c_spec_l1End (Φ E1 O) a0 a1 a2 = q_spec_l1End O a0 a1 a2)) M) h
noncomputable def q_spec_l1Term (O : Oracle E1) (a0 : Yf) (a1 : Yb) : Option Yd :=
  ((c_spec_l1In O (a1.length : Int) (1 : Int) (40 : Int)).bind fun r1 => (if r1.1.1 = true then ((c_spec_l1End O (a0.1, ()) a1 (0 : Int)).bind fun r2 => (some (((r2.1.1 == (a1.length : Int)), ()), ()))) else (some ((false, ()), ()))))
theorem e_spec_l1Term (a0) (a1) {r} (h : q_spec_l1Term M a0 a1 = some r) : c_spec_l1Term M a0 a1 = some r := fixC (E := E1) ((fun O => (by kernel_rfl : c_spec_l1Term (Φ E1 O) a0 a1 = q_spec_l1Term O a0 a1)) M) h
noncomputable def q_spec_l4Lit (O : Oracle E1) (a0 : Yf) (a1 : Ya) : Option Yd :=
  ((c_spec_l1Term O (a0.1, ()) a1.2.1).bind fun r1 => (if r1.1.1 = true then ((c_spec_l1Term O (a0.1, ()) a1.2.2.1).bind fun r2 => (some ((r2.1.1, ()), ()))) else (some ((false, ()), ()))))
theorem e_spec_l4Lit (a0) (a1) {r} (h : q_spec_l4Lit M a0 a1 = some r) : c_spec_l4Lit M a0 a1 = some r := fixC (E := E1) ((fun O => (by kernel_rfl : c_spec_l4Lit (Φ E1 O) a0 a1 = q_spec_l4Lit O a0 a1)) M) h
noncomputable def ql_spec_l4Clause_26 (O : Oracle E1) (a0 : Yh) (a1 : Yf) (a2 : Yh) (a3 : Int) (a4 : Int) : Option ((Yh × Unit) ⊕ Yd) :=
  (if (decide (a4 < a3)) = true then ((idx a2 a4).bind fun x1 => ((c_spec_l4Lit O (a1.1, ()) (x1.1, x1.2.1, x1.2.2.1, ())).bind fun r2 => (if (!r2.1.1) = true then (some (.inr ((false, ()), ()))) else (l_spec_l4Clause_26 O a0 (a1.1, ()) a2 a3 (i64.wrap (a4 + 1)))))) else (some (.inl (a0, ()))))
theorem el_spec_l4Clause_26 (a0) (a1) (a2) (a3) (a4) {r} (h : ql_spec_l4Clause_26 M a0 a1 a2 a3 a4 = some r) : l_spec_l4Clause_26 M a0 a1 a2 a3 a4 = some r := fixL (E := E1) ((fun O => (by kernel_rfl : l_spec_l4Clause_26 (Φ E1 O) a0 a1 a2 a3 a4 = ql_spec_l4Clause_26 O a0 a1 a2 a3 a4)) M) h
noncomputable def q_spec_l4Clause (O : Oracle E1) (a0 : Yf) (a1 : Yh) : Option Yd :=
  ((l_spec_l4Clause_26 O a1 (a0.1, ()) a1 (a1.length : Int) (0 : Int)).bind (Sum.elim (fun y1 => (some (((decide ((y1.1.length : Int) ≤ (8 : Int))), ()), ()))) (fun r2 => (some r2))))
theorem e_spec_l4Clause (a0) (a1) {r} (h : q_spec_l4Clause M a0 a1 = some r) : c_spec_l4Clause M a0 a1 = some r := fixC (E := E1) ((fun O => (by kernel_rfl : c_spec_l4Clause (Φ E1 O) a0 a1 = q_spec_l4Clause O a0 a1)) M) h
noncomputable def ql_spec_l1All_26 (O : Oracle E1) (a0 : Int) (a1 : Int) (a2 : Yb) (a3 : Int) (a4 : Int) : Option Yr :=
  (if (decide (a4 < a3)) = true then ((idx a2 a4).bind fun x1 => ((c_spec_l1In O x1 a0 a1).bind fun r2 => (if (!r2.1.1) = true then (some (.inr ((false, ()), ()))) else (l_spec_l1All_26 O a0 a1 a2 a3 (i64.wrap (a4 + 1)))))) else (some (.inl ())))
theorem el_spec_l1All_26 (a0) (a1) (a2) (a3) (a4) {r} (h : ql_spec_l1All_26 M a0 a1 a2 a3 a4 = some r) : l_spec_l1All_26 M a0 a1 a2 a3 a4 = some r := fixL (E := E1) ((fun O => (by kernel_rfl : l_spec_l1All_26 (Φ E1 O) a0 a1 a2 a3 a4 = ql_spec_l1All_26 O a0 a1 a2 a3 a4)) M) h
noncomputable def q_spec_l1All (O : Oracle E1) (a0 : Yb) (a1 : Int) (a2 : Int) : Option Yd :=
  ((l_spec_l1All_26 O a1 a2 a0 (a0.length : Int) (0 : Int)).bind (Sum.elim (fun y1 => (some ((true, ()), ()))) (fun r2 => (some r2))))
theorem e_spec_l1All (a0) (a1) (a2) {r} (h : q_spec_l1All M a0 a1 a2 = some r) : c_spec_l1All M a0 a1 a2 = some r := fixC (E := E1) ((fun O => (by kernel_rfl : c_spec_l1All (Φ E1 O) a0 a1 a2 = q_spec_l1All O a0 a1 a2)) M) h
noncomputable def q_spec_GoodSign (O : Oracle E1) (a0 : Yf) : Option Yd :=
  ((c_spec_l1In O (a0.1.length : Int) (1 : Int) (10 : Int)).bind fun r1 => (if r1.1.1 = true then ((c_spec_l1All O a0.1 (0 : Int) (3 : Int)).bind fun r2 => (if r2.1.1 = true then ((idx a0.1 (0 : Int)).bind fun x3 => (some (((x3 == 0), ()), ()))) else (some ((false, ()), ())))) else (some ((false, ()), ()))))
theorem e_spec_GoodSign (a0) {r} (h : q_spec_GoodSign M a0 = some r) : c_spec_GoodSign M a0 = some r := fixC (E := E1) ((fun O => (by kernel_rfl : c_spec_GoodSign (Φ E1 O) a0 = q_spec_GoodSign O a0)) M) h
noncomputable def q_spec_GoodClause (O : Oracle E1) (a0 : Yf) (a1 : Yh) : Option Yd :=
  ((c_spec_GoodSign O (a0.1, ())).bind fun r1 => (if r1.1.1 = true then ((c_spec_l4Clause O (a0.1, ()) a1).bind fun r2 => (some ((r2.1.1, ()), ()))) else (some ((false, ()), ()))))
theorem e_spec_GoodClause (a0) (a1) {r} (h : q_spec_GoodClause M a0 a1 = some r) : c_spec_GoodClause M a0 a1 = some r := fixC (E := E1) ((fun O => (by kernel_rfl : c_spec_GoodClause (Φ E1 O) a0 a1 = q_spec_GoodClause O a0 a1)) M) h
noncomputable def ql_spec_l1Put_28 (O : Oracle E1) (a0 : Yb) (a1 : Int) (a2 : Int) : Option ((Yb × Int × Int × Unit) ⊕ Yl) :=
  (if (decide (a2 < (a0.length : Int))) = true then (if 0 ≤ a2 ∧ a2 < (a0.length : Int) then ((a0[a2.toNat]?).bind fun x1 => (if (decide (x1 < a1)) = true then (l_spec_l1Put_28 O a0 a1 (i64.wrap (a2 + 1))) else (some (.inl (a0, a1, a2, ()))))) else none) else (some (.inl (a0, a1, a2, ()))))
theorem el_spec_l1Put_28 (a0) (a1) (a2) {r} (h : ql_spec_l1Put_28 M a0 a1 a2 = some r) : l_spec_l1Put_28 M a0 a1 a2 = some r := fixL (E := E1) ((fun O => (by kernel_rfl : l_spec_l1Put_28 (Φ E1 O) a0 a1 a2 = ql_spec_l1Put_28 O a0 a1 a2)) M) h
noncomputable def q_spec_l1Put (O : Oracle E1) (a0 : Yb) (a1 : Int) : Option Yl :=
  ((l_spec_l1Put_28 O a0 a1 (0 : Int)).bind (Sum.elim (fun y1 => (if (decide (y1.2.2.1 < (y1.1.length : Int))) = true then (if 0 ≤ y1.2.2.1 ∧ y1.2.2.1 < (y1.1.length : Int) then ((y1.1[y1.2.2.1.toNat]?).bind fun x3 => (if (x3 == y1.2.1) = true then (some ((y1.1, ()), ())) else (if 0 ≤ (0 : Int) ∧ (0 : Int) ≤ y1.2.2.1 ∧ y1.2.2.1 ≤ (y1.1.length : Int) then (if (List.length ([] : Yb) + List.length ((y1.1.take y1.2.2.1.toNat).drop (Int.toNat (0 : Int)))) * 8 ≤ 140737488355328 then (if (List.length (([] : Yb) ++ ((y1.1.take y1.2.2.1.toNat).drop (Int.toNat (0 : Int)))) + List.length ([y1.2.1] : Yb)) * 8 ≤ 140737488355328 then (if 0 ≤ y1.2.2.1 ∧ y1.2.2.1 ≤ (y1.1.length : Int) ∧ (y1.1.length : Int) ≤ (y1.1.length : Int) then (if (List.length ((([] : Yb) ++ ((y1.1.take y1.2.2.1.toNat).drop (Int.toNat (0 : Int)))) ++ ([y1.2.1] : Yb)) + List.length ((y1.1.take (Int.toNat (y1.1.length : Int))).drop y1.2.2.1.toNat)) * 8 ≤ 140737488355328 then (some (((((([] : Yb) ++ ((y1.1.take y1.2.2.1.toNat).drop (Int.toNat (0 : Int)))) ++ ([y1.2.1] : Yb)) ++ ((y1.1.take (Int.toNat (y1.1.length : Int))).drop y1.2.2.1.toNat)), ()), ())) else none) else none) else none) else none) else none))) else none) else (if 0 ≤ (0 : Int) ∧ (0 : Int) ≤ y1.2.2.1 ∧ y1.2.2.1 ≤ (y1.1.length : Int) then (if (List.length ([] : Yb) + List.length ((y1.1.take y1.2.2.1.toNat).drop (Int.toNat (0 : Int)))) * 8 ≤ 140737488355328 then (if (List.length (([] : Yb) ++ ((y1.1.take y1.2.2.1.toNat).drop (Int.toNat (0 : Int)))) + List.length ([y1.2.1] : Yb)) * 8 ≤ 140737488355328 then (if 0 ≤ y1.2.2.1 ∧ y1.2.2.1 ≤ (y1.1.length : Int) ∧ (y1.1.length : Int) ≤ (y1.1.length : Int) then (if (List.length ((([] : Yb) ++ ((y1.1.take y1.2.2.1.toNat).drop (Int.toNat (0 : Int)))) ++ ([y1.2.1] : Yb)) + List.length ((y1.1.take (Int.toNat (y1.1.length : Int))).drop y1.2.2.1.toNat)) * 8 ≤ 140737488355328 then (some (((((([] : Yb) ++ ((y1.1.take y1.2.2.1.toNat).drop (Int.toNat (0 : Int)))) ++ ([y1.2.1] : Yb)) ++ ((y1.1.take (Int.toNat (y1.1.length : Int))).drop y1.2.2.1.toNat)), ()), ())) else none) else none) else none) else none) else none))) (fun r2 => (some r2))))
theorem e_spec_l1Put (a0) (a1) {r} (h : q_spec_l1Put M a0 a1 = some r) : c_spec_l1Put M a0 a1 = some r := fixC (E := E1) ((fun O => (by kernel_rfl : c_spec_l1Put (Φ E1 O) a0 a1 = q_spec_l1Put O a0 a1)) M) h
noncomputable def ql_spec_l1Vars_58 (O : Oracle E1) (a0 : Yb) (a1 : Yb) (a2 : Int) (a3 : Int) : Option YD :=
  (if (decide (a3 < a2)) = true then ((((idx a1 a3).bind fun x2 => (if (decide (x2 < 0)) = true then ((c_spec_l1Put O a0 (i64.wrap ((-1 : Int) - x2))).bind fun r3 => (some (.inl (r3.1.1, a1, a2, a3, ())))) else (some (.inl (a0, a1, a2, a3, ()))))) : Option ((Yb × Yb × Int × Int × Unit) ⊕ (Yf ⊕ (Yl)))).bind (Sum.elim (fun q1 => (l_spec_l1Vars_58 O q1.1 q1.2.1 q1.2.2.1 (i64.wrap (q1.2.2.2.1 + 1)))) (fun r => some r))) else (some (.inl (a0, ()))))
theorem el_spec_l1Vars_58 (a0) (a1) (a2) (a3) {r} (h : ql_spec_l1Vars_58 M a0 a1 a2 a3 = some r) : l_spec_l1Vars_58 M a0 a1 a2 a3 = some r := fixL (E := E1) ((fun O => (by kernel_rfl : l_spec_l1Vars_58 (Φ E1 O) a0 a1 a2 a3 = ql_spec_l1Vars_58 O a0 a1 a2 a3)) M) h
noncomputable def q_spec_l1Vars (O : Oracle E1) (a0 : Yb) : Option Yl :=
  ((l_spec_l1Vars_58 O [] a0 (a0.length : Int) (0 : Int)).bind (Sum.elim (fun y1 => (some ((y1.1, ()), ()))) (fun r2 => (some r2))))
theorem e_spec_l1Vars (a0) {r} (h : q_spec_l1Vars M a0 = some r) : c_spec_l1Vars M a0 = some r := fixC (E := E1) ((fun O => (by kernel_rfl : c_spec_l1Vars (Φ E1 O) a0 = q_spec_l1Vars O a0)) M) h
noncomputable def ql_spec_l4Vars_58 (O : Oracle E1) (a0 : Yb) (a1 : Yh) (a2 : Int) (a3 : Int) : Option YD :=
  (if (decide (a3 < a2)) = true then ((idx a1 a3).bind fun x1 => ((c_spec_l1Vars O x1.2.1).bind fun r2 => ((c_spec_l1Vars O x1.2.2.1).bind fun r3 => (if (List.length r2.1.1 + List.length r3.1.1) * 8 ≤ 140737488355328 then ((l_spec_l4Vars_14950 O a0 a1 a2 a3 (r2.1.1 ++ r3.1.1) (List.length (r2.1.1 ++ r3.1.1) : Int) (0 : Int)).bind (Sum.elim (fun y4 => (l_spec_l4Vars_58 O y4.1 y4.2.1 y4.2.2.1 (i64.wrap (y4.2.2.2.1 + 1)))) (fun r5 => (some (.inr r5))))) else none)))) else (some (.inl (a0, ()))))
theorem el_spec_l4Vars_58 (a0) (a1) (a2) (a3) {r} (h : ql_spec_l4Vars_58 M a0 a1 a2 a3 = some r) : l_spec_l4Vars_58 M a0 a1 a2 a3 = some r := fixL (E := E1) ((fun O => (by kernel_rfl : l_spec_l4Vars_58 (Φ E1 O) a0 a1 a2 a3 = ql_spec_l4Vars_58 O a0 a1 a2 a3)) M) h
noncomputable def ql_spec_l4Vars_14950 (O : Oracle E1) (a0 : Yb) (a1 : Yh) (a2 : Int) (a3 : Int) (a4 : Yb) (a5 : Int) (a6 : Int) : Option ((Yb × Yh × Int × Int × Unit) ⊕ Yl) :=
  (if (decide (a6 < a5)) = true then (if 0 ≤ a6 ∧ a6 < (a4.length : Int) then ((a4[a6.toNat]?).bind fun x1 => ((c_spec_l1Put O a0 x1).bind fun r2 => (l_spec_l4Vars_14950 O r2.1.1 a1 a2 a3 a4 a5 (i64.wrap (a6 + 1))))) else none) else (some (.inl (a0, a1, a2, a3, ()))))
theorem el_spec_l4Vars_14950 (a0) (a1) (a2) (a3) (a4) (a5) (a6) {r} (h : ql_spec_l4Vars_14950 M a0 a1 a2 a3 a4 a5 a6 = some r) : l_spec_l4Vars_14950 M a0 a1 a2 a3 a4 a5 a6 = some r := fixL (E := E1) ((fun O => (by kernel_rfl : l_spec_l4Vars_14950 (Φ E1 O) a0 a1 a2 a3 a4 a5 a6 = ql_spec_l4Vars_14950 O a0 a1 a2 a3 a4 a5 a6)) M) h
noncomputable def q_spec_l4Vars (O : Oracle E1) (a0 : Yh) : Option Yl :=
  ((l_spec_l4Vars_58 O [] a0 (a0.length : Int) (0 : Int)).bind (Sum.elim (fun y1 => (some ((y1.1, ()), ()))) (fun r2 => (some r2))))
theorem e_spec_l4Vars (a0) {r} (h : q_spec_l4Vars M a0 = some r) : c_spec_l4Vars M a0 = some r := fixC (E := E1) ((fun O => (by kernel_rfl : c_spec_l4Vars (Φ E1 O) a0 = q_spec_l4Vars O a0)) M) h
noncomputable def q_spec_l6Shift (O : Oracle E1) (a0 : Yh) : Option Ye :=
  ((c_spec_l4Vars O a0).bind fun r1 => (if ((r1.1.1.length : Int) == (0 : Int)) = true then (some (((0 : Int), ()), ())) else (if 0 ≤ (i64.wrap ((r1.1.1.length : Int) - (1 : Int))) ∧ (i64.wrap ((r1.1.1.length : Int) - (1 : Int))) < (r1.1.1.length : Int) then ((r1.1.1[(Int.toNat (i64.wrap ((r1.1.1.length : Int) - (1 : Int))))]?).bind fun x2 => (some (((i64.wrap (x2 + 1)), ()), ()))) else none)))
theorem e_spec_l6Shift (a0) {r} (h : q_spec_l6Shift M a0 = some r) : c_spec_l6Shift M a0 = some r := fixC (E := E1) ((fun O => (by kernel_rfl : c_spec_l6Shift (Φ E1 O) a0 = q_spec_l6Shift O a0)) M) h
end Go.Proofs.YtpmjpijpjmphnaaGreatWi.Ev
