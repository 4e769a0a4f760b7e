/- The functions' names, at every oracle: printed by sym.py; no condition. -/
import Derived.Test.YtejklhcalinhpaaOwEnv
import Derived.Test.YtejklhcalinhpaaOwEvLm
namespace Go.Proofs.YtejklhcalinhpaaOw.Ev
open Go
set_option maxRecDepth 100000
set_option autoImplicit false
set_option linter.unusedVariables false

noncomputable abbrev M : Oracle E1 := Lm E1
noncomputable def c_laws_szIntS (O : Oracle E1) (a0 : List Int) (a1 : Int) : Option ((Int × Unit) × (Unit)) := O.C 54 (a0, a1, ())
theorem k0_laws_szIntS (a0 : List Int) (a1 : Int) : Ct E1 (fun O => c_laws_szIntS O a0 a1) := by unfold c_laws_szIntS; exact Ct.C (E := E1) 54 (a0, a1, ())
noncomputable def c_laws_szSign (O : Oracle E1) (a0 : (List Int) × Unit) (a1 : Int) : Option ((Int × Unit) × (Unit)) := O.C 11 (a0, a1, ())
theorem k0_laws_szSign (a0 : (List Int) × Unit) (a1 : Int) : Ct E1 (fun O => c_laws_szSign O a0 a1) := by unfold c_laws_szSign; exact Ct.C (E := E1) 11 (a0, a1, ())
noncomputable def c_laws_szIntSS (O : Oracle E1) (a0 : List (List Int)) (a1 : Int) : Option ((Int × Unit) × (Unit)) := O.C 55 (a0, a1, ())
theorem k0_laws_szIntSS (a0 : List (List Int)) (a1 : Int) : Ct E1 (fun O => c_laws_szIntSS O a0 a1) := by unfold c_laws_szIntSS; exact Ct.C (E := E1) 55 (a0, a1, ())
noncomputable def c_laws_szWorld (O : Oracle E1) (a0 : Int × (List (List Int)) × Unit) (a1 : Int) : Option ((Int × Unit) × (Unit)) := O.C 12 (a0, a1, ())
theorem k0_laws_szWorld (a0 : Int × (List (List Int)) × Unit) (a1 : Int) : Ct E1 (fun O => c_laws_szWorld O a0 a1) := by unfold c_laws_szWorld; exact Ct.C (E := E1) 12 (a0, a1, ())
noncomputable def c_spec_l1In (O : Oracle E1) (a0 : Int) (a1 : Int) (a2 : Int) : Option ((Bool × Unit) × (Unit)) := O.C 57 (a0, a1, a2, ())
theorem k0_spec_l1In (a0 : Int) (a1 : Int) (a2 : Int) : Ct E1 (fun O => c_spec_l1In O a0 a1 a2) := by unfold c_spec_l1In; exact Ct.C (E := E1) 57 (a0, a1, a2, ())
noncomputable def c_spec_l1All (O : Oracle E1) (a0 : List Int) (a1 : Int) (a2 : Int) : Option ((Bool × Unit) × (Unit)) := O.C 106 (a0, a1, a2, ())
theorem k0_spec_l1All (a0 : List Int) (a1 : Int) (a2 : Int) : Ct E1 (fun O => c_spec_l1All O a0 a1 a2) := by unfold c_spec_l1All; exact Ct.C (E := E1) 106 (a0, a1, a2, ())
noncomputable def c_spec_GoodSign (O : Oracle E1) (a0 : (List Int) × Unit) : Option ((Bool × Unit) × (Unit)) := O.C 76 (a0, ())
theorem k0_spec_GoodSign (a0 : (List Int) × Unit) : Ct E1 (fun O => c_spec_GoodSign O a0) := by unfold c_spec_GoodSign; exact Ct.C (E := E1) 76 (a0, ())
noncomputable def c_spec_l5Long (O : Oracle E1) (a0 : Int) (a1 : Int) : Option ((Int × Unit) × (Unit)) := O.C 112 (a0, a1, ())
theorem k0_spec_l5Long (a0 : Int) (a1 : Int) : Ct E1 (fun O => c_spec_l5Long O a0 a1) := by unfold c_spec_l5Long; exact Ct.C (E := E1) 112 (a0, a1, ())
noncomputable def c_spec_l5World (O : Oracle E1) (a0 : (List Int) × Unit) (a1 : Int × (List (List Int)) × Unit) : Option ((Bool × Unit) × (Unit)) := O.C 98 (a0, a1, ())
theorem k0_spec_l5World (a0 : (List Int) × Unit) (a1 : Int × (List (List Int)) × Unit) : Ct E1 (fun O => c_spec_l5World O a0 a1) := by unfold c_spec_l5World; exact Ct.C (E := E1) 98 (a0, a1, ())
noncomputable def c_spec_GoodWorld (O : Oracle E1) (a0 : (List Int) × Unit) (a1 : Int × (List (List Int)) × Unit) : Option ((Bool × Unit) × (Unit)) := O.C 56 (a0, a1, ())
theorem k0_spec_GoodWorld (a0 : (List Int) × Unit) (a1 : Int × (List (List Int)) × Unit) : Ct E1 (fun O => c_spec_GoodWorld O a0 a1) := by unfold c_spec_GoodWorld; exact Ct.C (E := E1) 56 (a0, a1, ())
noncomputable def c_spec_l1Own (O : Oracle E1) (a0 : List Int) : Option (((List Int) × Unit) × (Unit)) := O.C 58 (a0, ())
theorem k0_spec_l1Own (a0 : List Int) : Ct E1 (fun O => c_spec_l1Own O a0) := by unfold c_spec_l1Own; exact Ct.C (E := E1) 58 (a0, ())
noncomputable def c_spec_OldWorld (O : Oracle E1) (a0 : (List Int) × Unit) (a1 : Int × (List (List Int)) × Unit) (a2 : Int) : Option (((Int × (List (List Int)) × Unit) × Bool × Unit) × (Unit)) := O.C 13 (a0, a1, a2, ())
theorem k0_spec_OldWorld (a0 : (List Int) × Unit) (a1 : Int × (List (List Int)) × Unit) (a2 : Int) : Ct E1 (fun O => c_spec_OldWorld O a0 a1 a2) := by unfold c_spec_OldWorld; exact Ct.C (E := E1) 13 (a0, a1, a2, ())
noncomputable def c_laws_toIntS (O : Oracle E1) (a0 : List Int) : Option (((List Int) × Unit) × (Unit)) := O.C 59 (a0, ())
theorem k0_laws_toIntS (a0 : List Int) : Ct E1 (fun O => c_laws_toIntS O a0) := by unfold c_laws_toIntS; exact Ct.C (E := E1) 59 (a0, ())
noncomputable def c_laws_toSign (O : Oracle E1) (a0 : (List Int) × Unit) : Option ((((List Int) × Unit) × Unit) × (Unit)) := O.C 14 (a0, ())
theorem k0_laws_toSign (a0 : (List Int) × Unit) : Ct E1 (fun O => c_laws_toSign O a0) := by unfold c_laws_toSign; exact Ct.C (E := E1) 14 (a0, ())
noncomputable def c_laws_toIntSS (O : Oracle E1) (a0 : List (List Int)) : Option (((List (List Int)) × Unit) × (Unit)) := O.C 60 (a0, ())
theorem k0_laws_toIntSS (a0 : List (List Int)) : Ct E1 (fun O => c_laws_toIntSS O a0) := by unfold c_laws_toIntSS; exact Ct.C (E := E1) 60 (a0, ())
noncomputable def c_laws_toWorld (O : Oracle E1) (a0 : Int × (List (List Int)) × Unit) : Option (((Int × (List (List Int)) × Unit) × Unit) × (Unit)) := O.C 15 (a0, ())
theorem k0_laws_toWorld (a0 : Int × (List (List Int)) × Unit) : Ct E1 (fun O => c_laws_toWorld O a0) := by unfold c_laws_toWorld; exact Ct.C (E := E1) 15 (a0, ())
noncomputable def c_impl_GoodSign_1 (O : Oracle E1) (a0 : Int) : Option ((Bool × Unit) × (Unit)) := O.C 114 (a0, ())
theorem k0_impl_GoodSign_1 (a0 : Int) : Ct E1 (fun O => c_impl_GoodSign_1 O a0) := by unfold c_impl_GoodSign_1; exact Ct.C (E := E1) 114 (a0, ())
noncomputable def c_slices_IndexFunc_int_int__impl_GoodSign_1 (O : Oracle E1) (a0 : List Int) (a1 : Unit) : Option ((Int × Unit) × (Unit)) := O.C 7536769 (a0, a1, ())
theorem k0_slices_IndexFunc_int_int__impl_GoodSign_1 (a0 : List Int) (a1 : Unit) : Ct E1 (fun O => c_slices_IndexFunc_int_int__impl_GoodSign_1 O a0 a1) := by unfold c_slices_IndexFunc_int_int__impl_GoodSign_1; exact Ct.C (E := E1) 7536769 (a0, a1, ())
noncomputable def c_slices_ContainsFunc_int_int__impl_GoodSign_1 (O : Oracle E1) (a0 : List Int) (a1 : Unit) : Option ((Bool × Unit) × (Unit)) := O.C 7536753 (a0, a1, ())
theorem k0_slices_ContainsFunc_int_int__impl_GoodSign_1 (a0 : List Int) (a1 : Unit) : Ct E1 (fun O => c_slices_ContainsFunc_int_int__impl_GoodSign_1 O a0 a1) := by unfold c_slices_ContainsFunc_int_int__impl_GoodSign_1; exact Ct.C (E := E1) 7536753 (a0, a1, ())
noncomputable def c_impl_GoodSign (O : Oracle E1) (a0 : (List Int) × Unit) : Option ((Bool × Unit) × (Unit)) := O.C 99 (a0, ())
theorem k0_impl_GoodSign (a0 : (List Int) × Unit) : Ct E1 (fun O => c_impl_GoodSign O a0) := by unfold c_impl_GoodSign; exact Ct.C (E := E1) 99 (a0, ())
noncomputable def c_impl_isSize (O : Oracle E1) (a0 : Int) : Option ((Bool × Unit) × (Unit)) := O.C 115 (a0, ())
theorem k0_impl_isSize (a0 : Int) : Ct E1 (fun O => c_impl_isSize O a0) := by unfold c_impl_isSize; exact Ct.C (E := E1) 115 (a0, ())
noncomputable def c_impl_entries (O : Oracle E1) (a0 : Int) (a1 : Int) : Option ((Int × Unit) × (Unit)) := O.C 116 (a0, a1, ())
theorem k0_impl_entries (a0 : Int) (a1 : Int) : Ct E1 (fun O => c_impl_entries O a0 a1) := by unfold c_impl_entries; exact Ct.C (E := E1) 116 (a0, a1, ())
noncomputable def c_impl_areElements_1 (O : Oracle E1) (a0 : Int) (a1 : Int) : Option ((Bool × Unit) × (Unit)) := O.C 130 (a0, a1, ())
theorem k0_impl_areElements_1 (a0 : Int) (a1 : Int) : Ct E1 (fun O => c_impl_areElements_1 O a0 a1) := by unfold c_impl_areElements_1; exact Ct.C (E := E1) 130 (a0, a1, ())
noncomputable def c_slices_IndexFunc_int_int__impl_areElements_1 (O : Oracle E1) (a0 : List Int) (a1 : Int × Unit) : Option ((Int × Unit) × (Unit)) := O.C 8585345 (a0, a1, ())
theorem k0_slices_IndexFunc_int_int__impl_areElements_1 (a0 : List Int) (a1 : Int × Unit) : Ct E1 (fun O => c_slices_IndexFunc_int_int__impl_areElements_1 O a0 a1) := by unfold c_slices_IndexFunc_int_int__impl_areElements_1; exact Ct.C (E := E1) 8585345 (a0, a1, ())
noncomputable def c_slices_ContainsFunc_int_int__impl_areElements_1 (O : Oracle E1) (a0 : List Int) (a1 : Int × Unit) : Option ((Bool × Unit) × (Unit)) := O.C 8585329 (a0, a1, ())
theorem k0_slices_ContainsFunc_int_int__impl_areElements_1 (a0 : List Int) (a1 : Int × Unit) : Ct E1 (fun O => c_slices_ContainsFunc_int_int__impl_areElements_1 O a0 a1) := by unfold c_slices_ContainsFunc_int_int__impl_areElements_1; exact Ct.C (E := E1) 8585329 (a0, a1, ())
noncomputable def c_impl_areElements (O : Oracle E1) (a0 : Int) (a1 : List Int) : Option ((Bool × Unit) × (Unit)) := O.C 117 (a0, a1, ())
theorem k0_impl_areElements (a0 : Int) (a1 : List Int) : Ct E1 (fun O => c_impl_areElements O a0 a1) := by unfold c_impl_areElements; exact Ct.C (E := E1) 117 (a0, a1, ())
noncomputable def c_impl_Sign_isWorld (O : Oracle E1) (a0 : (List Int) × Unit) (a1 : Int × (List (List Int)) × Unit) : Option ((Bool × Unit) × (Unit)) := O.C 100 (a0, a1, ())
theorem k0_impl_Sign_isWorld (a0 : (List Int) × Unit) (a1 : Int × (List (List Int)) × Unit) : Ct E1 (fun O => c_impl_Sign_isWorld O a0 a1) := by unfold c_impl_Sign_isWorld; exact Ct.C (E := E1) 100 (a0, a1, ())
noncomputable def c_impl_GoodWorld (O : Oracle E1) (a0 : (List Int) × Unit) (a1 : Int × (List (List Int)) × Unit) : Option ((Bool × Unit) × (Unit)) := O.C 61 (a0, a1, ())
theorem k0_impl_GoodWorld (a0 : (List Int) × Unit) (a1 : Int × (List (List Int)) × Unit) : Ct E1 (fun O => c_impl_GoodWorld O a0 a1) := by unfold c_impl_GoodWorld; exact Ct.C (E := E1) 61 (a0, a1, ())
noncomputable def c_impl_OldWorld (O : Oracle E1) (a0 : (List Int) × Unit) (a1 : Int × (List (List Int)) × Unit) (a2 : Int) : Option (((Int × (List (List Int)) × Unit) × Bool × Unit) × (Unit)) := O.C 16 (a0, a1, a2, ())
theorem k0_impl_OldWorld (a0 : (List Int) × Unit) (a1 : Int × (List (List Int)) × Unit) (a2 : Int) : Ct E1 (fun O => c_impl_OldWorld O a0 a1 a2) := by unfold c_impl_OldWorld; exact Ct.C (E := E1) 16 (a0, a1, a2, ())
noncomputable def c_laws_eqIntS (O : Oracle E1) (a0 : List Int) (a1 : List Int) : Option ((Bool × Unit) × (Unit)) := O.C 64 (a0, a1, ())
theorem k0_laws_eqIntS (a0 : List Int) (a1 : List Int) : Ct E1 (fun O => c_laws_eqIntS O a0 a1) := by unfold c_laws_eqIntS; exact Ct.C (E := E1) 64 (a0, a1, ())
noncomputable def c_laws_eqIntSS (O : Oracle E1) (a0 : List (List Int)) (a1 : List (List Int)) : Option ((Bool × Unit) × (Unit)) := O.C 63 (a0, a1, ())
theorem k0_laws_eqIntSS (a0 : List (List Int)) (a1 : List (List Int)) : Ct E1 (fun O => c_laws_eqIntSS O a0 a1) := by unfold c_laws_eqIntSS; exact Ct.C (E := E1) 63 (a0, a1, ())
noncomputable def c_laws_eqWorld (O : Oracle E1) (a0 : Int × (List (List Int)) × Unit) (a1 : Int × (List (List Int)) × Unit) : Option ((Bool × Unit) × (Unit)) := O.C 17 (a0, a1, ())
theorem k0_laws_eqWorld (a0 : Int × (List (List Int)) × Unit) (a1 : Int × (List (List Int)) × Unit) : Ct E1 (fun O => c_laws_eqWorld O a0 a1) := by unfold c_laws_eqWorld; exact Ct.C (E := E1) 17 (a0, a1, ())
noncomputable def c_laws_eqSign (O : Oracle E1) (a0 : (List Int) × Unit) (a1 : (List Int) × Unit) : Option ((Bool × Unit) × (Unit)) := O.C 18 (a0, a1, ())
theorem k0_laws_eqSign (a0 : (List Int) × Unit) (a1 : (List Int) × Unit) : Ct E1 (fun O => c_laws_eqSign O a0 a1) := by unfold c_laws_eqSign; exact Ct.C (E := E1) 18 (a0, a1, ())
noncomputable def c_laws_markIntS (O : Oracle E1) (a0 : List Int) (a1 : Int) : Option ((Int × Unit) × ((List Int) × Unit)) := O.C 65 (a0, a1, ())
theorem k0_laws_markIntS (a0 : List Int) (a1 : Int) : Ct E1 (fun O => c_laws_markIntS O a0 a1) := by unfold c_laws_markIntS; exact Ct.C (E := E1) 65 (a0, a1, ())
noncomputable def c_laws_markSign (O : Oracle E1) (a0 : (List Int) × Unit) (a1 : Int) : Option ((Int × Unit) × (((List Int) × Unit) × Unit)) := O.C 19 (a0, a1, ())
theorem k0_laws_markSign (a0 : (List Int) × Unit) (a1 : Int) : Ct E1 (fun O => c_laws_markSign O a0 a1) := by unfold c_laws_markSign; exact Ct.C (E := E1) 19 (a0, a1, ())
noncomputable def c_laws_markIntSS (O : Oracle E1) (a0 : List (List Int)) (a1 : Int) : Option ((Int × Unit) × ((List (List Int)) × Unit)) := O.C 66 (a0, a1, ())
theorem k0_laws_markIntSS (a0 : List (List Int)) (a1 : Int) : Ct E1 (fun O => c_laws_markIntSS O a0 a1) := by unfold c_laws_markIntSS; exact Ct.C (E := E1) 66 (a0, a1, ())
noncomputable def c_laws_markWorld (O : Oracle E1) (a0 : Int × (List (List Int)) × Unit) (a1 : Int) : Option ((Int × Unit) × ((Int × (List (List Int)) × Unit) × Unit)) := O.C 20 (a0, a1, ())
theorem k0_laws_markWorld (a0 : Int × (List (List Int)) × Unit) (a1 : Int) : Ct E1 (fun O => c_laws_markWorld O a0 a1) := by unfold c_laws_markWorld; exact Ct.C (E := E1) 20 (a0, a1, ())
noncomputable def c_laws_heldIntS (O : Oracle E1) (a0 : List Int) (a1 : Int) : Option ((Int × Unit) × (Unit)) := O.C 101 (a0, a1, ())
theorem k0_laws_heldIntS (a0 : List Int) (a1 : Int) : Ct E1 (fun O => c_laws_heldIntS O a0 a1) := by unfold c_laws_heldIntS; exact Ct.C (E := E1) 101 (a0, a1, ())
noncomputable def c_laws_heldIntSS (O : Oracle E1) (a0 : List (List Int)) (a1 : Int) : Option ((Int × Unit) × (Unit)) := O.C 67 (a0, a1, ())
theorem k0_laws_heldIntSS (a0 : List (List Int)) (a1 : Int) : Ct E1 (fun O => c_laws_heldIntSS O a0 a1) := by unfold c_laws_heldIntSS; exact Ct.C (E := E1) 67 (a0, a1, ())
noncomputable def c_laws_heldWorld (O : Oracle E1) (a0 : Int × (List (List Int)) × Unit) (a1 : Int) : Option ((Int × Unit) × (Unit)) := O.C 21 (a0, a1, ())
theorem k0_laws_heldWorld (a0 : Int × (List (List Int)) × Unit) (a1 : Int) : Ct E1 (fun O => c_laws_heldWorld O a0 a1) := by unfold c_laws_heldWorld; exact Ct.C (E := E1) 21 (a0, a1, ())
noncomputable def c_laws_FnExactOldWorld (O : Oracle E1) (a0 : (List Int) × Unit) (a1 : Int × (List (List Int)) × Unit) (a2 : Int) : Option ((Bool × Unit) × (Unit)) := O.C 4 (a0, a1, a2, ())
theorem k0_laws_FnExactOldWorld (a0 : (List Int) × Unit) (a1 : Int × (List (List Int)) × Unit) (a2 : Int) : Ct E1 (fun O => c_laws_FnExactOldWorld O a0 a1 a2) := by unfold c_laws_FnExactOldWorld; exact Ct.C (E := E1) 4 (a0, a1, a2, ())
noncomputable abbrev lh_laws_szIntSS_122 : LoopH := { key := 244, ht := [0, 1, 5], hτ := (fs [(.sl (.sl (.int .i64))), (.int .i64), (.int .i64)]), ex := 0, ot := [1], oτ := (fs [(.int .i64)]) }
noncomputable def cd_laws_szIntSS_122 : Code := Code.part (bodyOf 55) [1, 1, 1, 0, 1, 0, 0]
noncomputable def l_laws_szIntSS_122 (O : Oracle E1) (a0 : List (List Int)) (a1 : Int) (a2 : Int) : Option ((Int × Unit) ⊕ ((Int × Unit) × (Unit))) := O.L 55 lh_laws_szIntSS_122 cd_laws_szIntSS_122 (a0, a1, a2, ())
theorem k0l_laws_szIntSS_122 (a0 : List (List Int)) (a1 : Int) (a2 : Int) : Ct E1 (fun O => l_laws_szIntSS_122 O a0 a1 a2) := by unfold l_laws_szIntSS_122; exact Ct.L (E := E1) 55 lh_laws_szIntSS_122 cd_laws_szIntSS_122 (a0, a1, a2, ())
noncomputable abbrev lh_spec_l1All_26 : LoopH := { key := 52, ht := [1, 2, 9, 10, 11], hτ := (fs [(.int .i64), (.int .i64), (.sl (.int .i64)), (.int .i64), (.int .i64)]), ex := 0, ot := [], oτ := (fs []) }
noncomputable def cd_spec_l1All_26 : Code := Code.part (bodyOf 106) [1, 0, 1, 0, 0]
noncomputable def l_spec_l1All_26 (O : Oracle E1) (a0 : Int) (a1 : Int) (a2 : List Int) (a3 : Int) (a4 : Int) : Option ((Unit) ⊕ ((Bool × Unit) × (Unit))) := O.L 106 lh_spec_l1All_26 cd_spec_l1All_26 (a0, a1, a2, a3, a4, ())
theorem k0l_spec_l1All_26 (a0 : Int) (a1 : Int) (a2 : List Int) (a3 : Int) (a4 : Int) : Ct E1 (fun O => l_spec_l1All_26 O a0 a1 a2 a3 a4) := by unfold l_spec_l1All_26; exact Ct.L (E := E1) 106 lh_spec_l1All_26 cd_spec_l1All_26 (a0, a1, a2, a3, a4, ())
noncomputable abbrev lh_spec_l5Long_28 : LoopH := { key := 56, ht := [0, 1, 5], hτ := (fs [(.int .i64), (.int .i64), (.int .i64)]), ex := 0, ot := [5], oτ := (fs [(.int .i64)]) }
noncomputable def cd_spec_l5Long_28 : Code := Code.part (bodyOf 112) [1, 1, 0, 0, 0]
noncomputable def l_spec_l5Long_28 (O : Oracle E1) (a0 : Int) (a1 : Int) (a2 : Int) : Option ((Int × Unit) ⊕ ((Int × Unit) × (Unit))) := O.L 112 lh_spec_l5Long_28 cd_spec_l5Long_28 (a0, a1, a2, ())
theorem k0l_spec_l5Long_28 (a0 : Int) (a1 : Int) (a2 : Int) : Ct E1 (fun O => l_spec_l5Long_28 O a0 a1 a2) := by unfold l_spec_l5Long_28; exact Ct.L (E := E1) 112 lh_spec_l5Long_28 cd_spec_l5Long_28 (a0, a1, a2, ())
noncomputable abbrev lh_spec_l5World_58 : LoopH := { key := 116, ht := [2, 3, 21, 22, 23], hτ := (fs [(.box (.agg (fs [(.sl (.int .i64))]))), (.box (.agg (fs [(.int .i64), (.sl (.sl (.int .i64)))]))), (.sl (.sl (.int .i64))), (.int .i64), (.int .i64)]), ex := 0, ot := [], oτ := (fs []) }
noncomputable def cd_spec_l5World_58 : Code := Code.part (bodyOf 98) [1, 1, 0, 1, 0, 0]
noncomputable def l_spec_l5World_58 (O : Oracle E1) (a0 : (List Int) × Unit) (a1 : Int × (List (List Int)) × Unit) (a2 : List (List Int)) (a3 : Int) (a4 : Int) : Option ((Unit) ⊕ ((Bool × Unit) × (Unit))) := O.L 98 lh_spec_l5World_58 cd_spec_l5World_58 (a0, a1, a2, a3, a4, ())
theorem k0l_spec_l5World_58 (a0 : (List Int) × Unit) (a1 : Int × (List (List Int)) × Unit) (a2 : List (List Int)) (a3 : Int) (a4 : Int) : Ct E1 (fun O => l_spec_l5World_58 O a0 a1 a2 a3 a4) := by unfold l_spec_l5World_58; exact Ct.L (E := E1) 98 lh_spec_l5World_58 cd_spec_l5World_58 (a0, a1, a2, a3, a4, ())
noncomputable abbrev lh_spec_OldWorld_122 : LoopH := { key := 244, ht := [6, 8, 30, 31, 32], hτ := (fs [(.box (.agg (fs [(.int .i64), (.own (.sl (.int .i64)))]))), (.box (.agg (fs [(.int .i64), (.own (.sl (.int .i64)))]))), (.sl (.sl (.int .i64))), (.int .i64), (.int .i64)]), ex := 0, ot := [6, 8], oτ := (fs [(.box (.agg (fs [(.int .i64), (.own (.sl (.int .i64)))]))), (.box (.agg (fs [(.int .i64), (.own (.sl (.int .i64)))])))]) }
noncomputable def cd_spec_OldWorld_122 : Code := Code.part (bodyOf 13) [1, 1, 1, 0, 1, 0, 0]
noncomputable def l_spec_OldWorld_122 (O : Oracle E1) (a0 : Int × (List (List Int)) × Unit) (a1 : Int × (List (List Int)) × Unit) (a2 : List (List Int)) (a3 : Int) (a4 : Int) : Option (((Int × (List (List Int)) × Unit) × (Int × (List (List Int)) × Unit) × Unit) ⊕ (((Int × (List (List Int)) × Unit) × Bool × Unit) × (Unit))) := O.L 13 lh_spec_OldWorld_122 cd_spec_OldWorld_122 (a0, a1, a2, a3, a4, ())
theorem k0l_spec_OldWorld_122 (a0 : Int × (List (List Int)) × Unit) (a1 : Int × (List (List Int)) × Unit) (a2 : List (List Int)) (a3 : Int) (a4 : Int) : Ct E1 (fun O => l_spec_OldWorld_122 O a0 a1 a2 a3 a4) := by unfold l_spec_OldWorld_122; exact Ct.L (E := E1) 13 lh_spec_OldWorld_122 cd_spec_OldWorld_122 (a0, a1, a2, a3, a4, ())
noncomputable abbrev lh_laws_toIntS_58 : LoopH := { key := 116, ht := [0, 3, 4], hτ := (fs [(.sl (.int .i64)), (.own (.int .i64)), (.int .i64)]), ex := 0, ot := [3], oτ := (fs [(.own (.int .i64))]) }
noncomputable def cd_laws_toIntS_58 : Code := Code.part (bodyOf 59) [1, 1, 0, 1, 0, 0]
noncomputable def l_laws_toIntS_58 (O : Oracle E1) (a0 : List Int) (a1 : List Int) (a2 : Int) : Option (((List Int) × Unit) ⊕ (((List Int) × Unit) × (Unit))) := O.L 59 lh_laws_toIntS_58 cd_laws_toIntS_58 (a0, a1, a2, ())
theorem k0l_laws_toIntS_58 (a0 : List Int) (a1 : List Int) (a2 : Int) : Ct E1 (fun O => l_laws_toIntS_58 O a0 a1 a2) := by unfold l_laws_toIntS_58; exact Ct.L (E := E1) 59 lh_laws_toIntS_58 cd_laws_toIntS_58 (a0, a1, a2, ())
noncomputable abbrev lh_laws_toIntSS_58 : LoopH := { key := 116, ht := [0, 3, 4], hτ := (fs [(.sl (.sl (.int .i64))), (.own (.own (.int .i64))), (.int .i64)]), ex := 0, ot := [3], oτ := (fs [(.own (.own (.int .i64)))]) }
noncomputable def cd_laws_toIntSS_58 : Code := Code.part (bodyOf 60) [1, 1, 0, 1, 0, 0]
noncomputable def l_laws_toIntSS_58 (O : Oracle E1) (a0 : List (List Int)) (a1 : List (List Int)) (a2 : Int) : Option (((List (List Int)) × Unit) ⊕ (((List (List Int)) × Unit) × (Unit))) := O.L 60 lh_laws_toIntSS_58 cd_laws_toIntSS_58 (a0, a1, a2, ())
theorem k0l_laws_toIntSS_58 (a0 : List (List Int)) (a1 : List (List Int)) (a2 : Int) : Ct E1 (fun O => l_laws_toIntSS_58 O a0 a1 a2) := by unfold l_laws_toIntSS_58; exact Ct.L (E := E1) 60 lh_laws_toIntSS_58 cd_laws_toIntSS_58 (a0, a1, a2, ())
noncomputable abbrev lh_slices_IndexFunc_int_int__impl_GoodSign_1_26 : LoopH := { key := 52, ht := [0, 1, 7, 8], hτ := (fs [(.sl (.int .i64)), (.fn 114 (fs [])), (.int .i64), (.int .i64)]), ex := 0, ot := [], oτ := (fs []) }
noncomputable def cd_slices_IndexFunc_int_int__impl_GoodSign_1_26 : Code := Code.part (bodyOf 129) [1, 0, 1, 0, 0]
noncomputable def l_slices_IndexFunc_int_int__impl_GoodSign_1_26 (O : Oracle E1) (a0 : List Int) (a1 : Unit) (a2 : Int) (a3 : Int) : Option ((Unit) ⊕ ((Int × Unit) × (Unit))) := O.L 7536769 lh_slices_IndexFunc_int_int__impl_GoodSign_1_26 cd_slices_IndexFunc_int_int__impl_GoodSign_1_26 (a0, a1, a2, a3, ())
theorem k0l_slices_IndexFunc_int_int__impl_GoodSign_1_26 (a0 : List Int) (a1 : Unit) (a2 : Int) (a3 : Int) : Ct E1 (fun O => l_slices_IndexFunc_int_int__impl_GoodSign_1_26 O a0 a1 a2 a3) := by unfold l_slices_IndexFunc_int_int__impl_GoodSign_1_26; exact Ct.L (E := E1) 7536769 lh_slices_IndexFunc_int_int__impl_GoodSign_1_26 cd_slices_IndexFunc_int_int__impl_GoodSign_1_26 (a0, a1, a2, a3, ())
noncomputable abbrev lh_impl_entries_58 : LoopH := { key := 116, ht := [0, 5, 6, 7], hτ := (fs [(.int .i64), (.int .i64), (.int .i64), (.int .i64)]), ex := 0, ot := [5], oτ := (fs [(.int .i64)]) }
noncomputable def cd_impl_entries_58 : Code := Code.part (bodyOf 116) [1, 1, 0, 1, 0, 0]
noncomputable def l_impl_entries_58 (O : Oracle E1) (a0 : Int) (a1 : Int) (a2 : Int) (a3 : Int) : Option ((Int × Unit) ⊕ ((Int × Unit) × (Unit))) := O.L 116 lh_impl_entries_58 cd_impl_entries_58 (a0, a1, a2, a3, ())
theorem k0l_impl_entries_58 (a0 : Int) (a1 : Int) (a2 : Int) (a3 : Int) : Ct E1 (fun O => l_impl_entries_58 O a0 a1 a2 a3) := by unfold l_impl_entries_58; exact Ct.L (E := E1) 116 lh_impl_entries_58 cd_impl_entries_58 (a0, a1, a2, a3, ())
noncomputable abbrev lh_slices_IndexFunc_int_int__impl_areElements_1_26 : LoopH := { key := 52, ht := [0, 1, 7, 8], hτ := (fs [(.sl (.int .i64)), (.fn 130 (fs [(.ptr (.int .i64))])), (.int .i64), (.int .i64)]), ex := 0, ot := [], oτ := (fs []) }
noncomputable def cd_slices_IndexFunc_int_int__impl_areElements_1_26 : Code := Code.part (bodyOf 129) [1, 0, 1, 0, 0]
noncomputable def l_slices_IndexFunc_int_int__impl_areElements_1_26 (O : Oracle E1) (a0 : List Int) (a1 : Int × Unit) (a2 : Int) (a3 : Int) : Option ((Unit) ⊕ ((Int × Unit) × (Unit))) := O.L 8585345 lh_slices_IndexFunc_int_int__impl_areElements_1_26 cd_slices_IndexFunc_int_int__impl_areElements_1_26 (a0, a1, a2, a3, ())
theorem k0l_slices_IndexFunc_int_int__impl_areElements_1_26 (a0 : List Int) (a1 : Int × Unit) (a2 : Int) (a3 : Int) : Ct E1 (fun O => l_slices_IndexFunc_int_int__impl_areElements_1_26 O a0 a1 a2 a3) := by unfold l_slices_IndexFunc_int_int__impl_areElements_1_26; exact Ct.L (E := E1) 8585345 lh_slices_IndexFunc_int_int__impl_areElements_1_26 cd_slices_IndexFunc_int_int__impl_areElements_1_26 (a0, a1, a2, a3, ())
noncomputable abbrev lh_impl_Sign_isWorld_58 : LoopH := { key := 116, ht := [2, 3, 21, 22, 23], hτ := (fs [(.box (.agg (fs [(.sl (.int .i64))]))), (.box (.agg (fs [(.int .i64), (.sl (.sl (.int .i64)))]))), (.sl (.sl (.int .i64))), (.int .i64), (.int .i64)]), ex := 0, ot := [], oτ := (fs []) }
noncomputable def cd_impl_Sign_isWorld_58 : Code := Code.part (bodyOf 100) [1, 1, 0, 1, 0, 0]
noncomputable def l_impl_Sign_isWorld_58 (O : Oracle E1) (a0 : (List Int) × Unit) (a1 : Int × (List (List Int)) × Unit) (a2 : List (List Int)) (a3 : Int) (a4 : Int) : Option ((Unit) ⊕ ((Bool × Unit) × (Unit))) := O.L 100 lh_impl_Sign_isWorld_58 cd_impl_Sign_isWorld_58 (a0, a1, a2, a3, a4, ())
theorem k0l_impl_Sign_isWorld_58 (a0 : (List Int) × Unit) (a1 : Int × (List (List Int)) × Unit) (a2 : List (List Int)) (a3 : Int) (a4 : Int) : Ct E1 (fun O => l_impl_Sign_isWorld_58 O a0 a1 a2 a3 a4) := by unfold l_impl_Sign_isWorld_58; exact Ct.L (E := E1) 100 lh_impl_Sign_isWorld_58 cd_impl_Sign_isWorld_58 (a0, a1, a2, a3, a4, ())
noncomputable abbrev lh_impl_OldWorld_122 : LoopH := { key := 244, ht := [6, 8, 33, 34, 35], hτ := (fs [(.box (.agg (fs [(.int .i64), (.own (.own (.int .i64)))]))), (.box (.agg (fs [(.int .i64), (.own (.own (.int .i64)))]))), (.sl (.sl (.int .i64))), (.int .i64), (.int .i64)]), ex := 0, ot := [6, 8], oτ := (fs [(.box (.agg (fs [(.int .i64), (.own (.own (.int .i64)))]))), (.box (.agg (fs [(.int .i64), (.own (.own (.int .i64)))])))]) }
noncomputable def cd_impl_OldWorld_122 : Code := Code.part (bodyOf 16) [1, 1, 1, 0, 1, 0, 0]
noncomputable def l_impl_OldWorld_122 (O : Oracle E1) (a0 : Int × (List (List Int)) × Unit) (a1 : Int × (List (List Int)) × Unit) (a2 : List (List Int)) (a3 : Int) (a4 : Int) : Option (((Int × (List (List Int)) × Unit) × (Int × (List (List Int)) × Unit) × Unit) ⊕ (((Int × (List (List Int)) × Unit) × Bool × Unit) × (Unit))) := O.L 16 lh_impl_OldWorld_122 cd_impl_OldWorld_122 (a0, a1, a2, a3, a4, ())
theorem k0l_impl_OldWorld_122 (a0 : Int × (List (List Int)) × Unit) (a1 : Int × (List (List Int)) × Unit) (a2 : List (List Int)) (a3 : Int) (a4 : Int) : Ct E1 (fun O => l_impl_OldWorld_122 O a0 a1 a2 a3 a4) := by unfold l_impl_OldWorld_122; exact Ct.L (E := E1) 16 lh_impl_OldWorld_122 cd_impl_OldWorld_122 (a0, a1, a2, a3, a4, ())
noncomputable abbrev lh_laws_eqIntS_58 : LoopH := { key := 116, ht := [0, 1, 5], hτ := (fs [(.sl (.int .i64)), (.sl (.int .i64)), (.int .i64)]), ex := 0, ot := [], oτ := (fs []) }
noncomputable def cd_laws_eqIntS_58 : Code := Code.part (bodyOf 64) [1, 1, 0, 1, 0, 0]
noncomputable def l_laws_eqIntS_58 (O : Oracle E1) (a0 : List Int) (a1 : List Int) (a2 : Int) : Option ((Unit) ⊕ ((Bool × Unit) × (Unit))) := O.L 64 lh_laws_eqIntS_58 cd_laws_eqIntS_58 (a0, a1, a2, ())
theorem k0l_laws_eqIntS_58 (a0 : List Int) (a1 : List Int) (a2 : Int) : Ct E1 (fun O => l_laws_eqIntS_58 O a0 a1 a2) := by unfold l_laws_eqIntS_58; exact Ct.L (E := E1) 64 lh_laws_eqIntS_58 cd_laws_eqIntS_58 (a0, a1, a2, ())
noncomputable abbrev lh_laws_eqIntSS_58 : LoopH := { key := 116, ht := [0, 1, 5], hτ := (fs [(.sl (.sl (.int .i64))), (.sl (.sl (.int .i64))), (.int .i64)]), ex := 0, ot := [], oτ := (fs []) }
noncomputable def cd_laws_eqIntSS_58 : Code := Code.part (bodyOf 63) [1, 1, 0, 1, 0, 0]
noncomputable def l_laws_eqIntSS_58 (O : Oracle E1) (a0 : List (List Int)) (a1 : List (List Int)) (a2 : Int) : Option ((Unit) ⊕ ((Bool × Unit) × (Unit))) := O.L 63 lh_laws_eqIntSS_58 cd_laws_eqIntSS_58 (a0, a1, a2, ())
theorem k0l_laws_eqIntSS_58 (a0 : List (List Int)) (a1 : List (List Int)) (a2 : Int) : Ct E1 (fun O => l_laws_eqIntSS_58 O a0 a1 a2) := by unfold l_laws_eqIntSS_58; exact Ct.L (E := E1) 63 lh_laws_eqIntSS_58 cd_laws_eqIntSS_58 (a0, a1, a2, ())
noncomputable abbrev lh_laws_markIntS_26 : LoopH := { key := 52, ht := [0, 1, 5], hτ := (fs [(.own (.int .i64)), (.int .i64), (.int .i64)]), ex := 0, ot := [0, 1], oτ := (fs [(.own (.int .i64)), (.int .i64)]) }
noncomputable def cd_laws_markIntS_26 : Code := Code.part (bodyOf 65) [1, 0, 1, 0, 0]
noncomputable def l_laws_markIntS_26 (O : Oracle E1) (a0 : List Int) (a1 : Int) (a2 : Int) : Option (((List Int) × Int × Unit) ⊕ ((Int × Unit) × ((List Int) × Unit))) := O.L 65 lh_laws_markIntS_26 cd_laws_markIntS_26 (a0, a1, a2, ())
theorem k0l_laws_markIntS_26 (a0 : List Int) (a1 : Int) (a2 : Int) : Ct E1 (fun O => l_laws_markIntS_26 O a0 a1 a2) := by unfold l_laws_markIntS_26; exact Ct.L (E := E1) 65 lh_laws_markIntS_26 cd_laws_markIntS_26 (a0, a1, a2, ())
noncomputable abbrev lh_laws_markIntSS_26 : LoopH := { key := 52, ht := [0, 1, 5], hτ := (fs [(.own (.own (.int .i64))), (.int .i64), (.int .i64)]), ex := 0, ot := [0, 1], oτ := (fs [(.own (.own (.int .i64))), (.int .i64)]) }
noncomputable def cd_laws_markIntSS_26 : Code := Code.part (bodyOf 66) [1, 0, 1, 0, 0]
noncomputable def l_laws_markIntSS_26 (O : Oracle E1) (a0 : List (List Int)) (a1 : Int) (a2 : Int) : Option (((List (List Int)) × Int × Unit) ⊕ ((Int × Unit) × ((List (List Int)) × Unit))) := O.L 66 lh_laws_markIntSS_26 cd_laws_markIntSS_26 (a0, a1, a2, ())
theorem k0l_laws_markIntSS_26 (a0 : List (List Int)) (a1 : Int) (a2 : Int) : Ct E1 (fun O => l_laws_markIntSS_26 O a0 a1 a2) := by unfold l_laws_markIntSS_26; exact Ct.L (E := E1) 66 lh_laws_markIntSS_26 cd_laws_markIntSS_26 (a0, a1, a2, ())
noncomputable abbrev lh_laws_heldIntS_26 : LoopH := { key := 52, ht := [0, 1, 5], hτ := (fs [(.sl (.int .i64)), (.int .i64), (.int .i64)]), ex := 0, ot := [1], oτ := (fs [(.int .i64)]) }
noncomputable def cd_laws_heldIntS_26 : Code := Code.part (bodyOf 101) [1, 0, 1, 0, 0]
noncomputable def l_laws_heldIntS_26 (O : Oracle E1) (a0 : List Int) (a1 : Int) (a2 : Int) : Option ((Int × Unit) ⊕ ((Int × Unit) × (Unit))) := O.L 101 lh_laws_heldIntS_26 cd_laws_heldIntS_26 (a0, a1, a2, ())
theorem k0l_laws_heldIntS_26 (a0 : List Int) (a1 : Int) (a2 : Int) : Ct E1 (fun O => l_laws_heldIntS_26 O a0 a1 a2) := by unfold l_laws_heldIntS_26; exact Ct.L (E := E1) 101 lh_laws_heldIntS_26 cd_laws_heldIntS_26 (a0, a1, a2, ())
noncomputable abbrev lh_laws_heldIntSS_26 : LoopH := { key := 52, ht := [0, 1, 5], hτ := (fs [(.sl (.sl (.int .i64))), (.int .i64), (.int .i64)]), ex := 0, ot := [1], oτ := (fs [(.int .i64)]) }
noncomputable def cd_laws_heldIntSS_26 : Code := Code.part (bodyOf 67) [1, 0, 1, 0, 0]
noncomputable def l_laws_heldIntSS_26 (O : Oracle E1) (a0 : List (List Int)) (a1 : Int) (a2 : Int) : Option ((Int × Unit) ⊕ ((Int × Unit) × (Unit))) := O.L 67 lh_laws_heldIntSS_26 cd_laws_heldIntSS_26 (a0, a1, a2, ())
theorem k0l_laws_heldIntSS_26 (a0 : List (List Int)) (a1 : Int) (a2 : Int) : Ct E1 (fun O => l_laws_heldIntSS_26 O a0 a1 a2) := by unfold l_laws_heldIntSS_26; exact Ct.L (E := E1) 67 lh_laws_heldIntSS_26 cd_laws_heldIntSS_26 (a0, a1, a2, ())
end Go.Proofs.YtejklhcalinhpaaOw.Ev
