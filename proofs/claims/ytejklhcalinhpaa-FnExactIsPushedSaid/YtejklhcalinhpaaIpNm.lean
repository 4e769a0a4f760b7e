/- The functions' names, at every oracle: printed by sym.py; no condition. -/
import Derived.Test.YtejklhcalinhpaaIpEnv
import Derived.Test.YtejklhcalinhpaaIpEvLm
namespace Go.Proofs.YtejklhcalinhpaaIp.Ev
open Go
set_option maxRecDepth 100000
set_option autoImplicit false
set_option linter.unusedVariables false

noncomputable abbrev M : Oracle E1 := Lm E1
noncomputable def c_laws_szIntS (O : Oracle E1) (a0 : List Int) (a1 : Int) : Option ((Int × Unit) × (Unit)) := O.C 54 (a0, a1, ())
theorem k0_laws_szIntS (a0 : List Int) (a1 : Int) : Ct E1 (fun O => c_laws_szIntS O a0 a1) := by unfold c_laws_szIntS; exact Ct.C (E := E1) 54 (a0, a1, ())
noncomputable def c_laws_szSign (O : Oracle E1) (a0 : (List Int) × Unit) (a1 : Int) : Option ((Int × Unit) × (Unit)) := O.C 11 (a0, a1, ())
theorem k0_laws_szSign (a0 : (List Int) × Unit) (a1 : Int) : Ct E1 (fun O => c_laws_szSign O a0 a1) := by unfold c_laws_szSign; exact Ct.C (E := E1) 11 (a0, a1, ())
noncomputable def c_laws_toIntS (O : Oracle E1) (a0 : List Int) : Option (((List Int) × Unit) × (Unit)) := O.C 59 (a0, ())
theorem k0_laws_toIntS (a0 : List Int) : Ct E1 (fun O => c_laws_toIntS O a0) := by unfold c_laws_toIntS; exact Ct.C (E := E1) 59 (a0, ())
noncomputable def c_laws_toSign (O : Oracle E1) (a0 : (List Int) × Unit) : Option ((((List Int) × Unit) × Unit) × (Unit)) := O.C 14 (a0, ())
theorem k0_laws_toSign (a0 : (List Int) × Unit) : Ct E1 (fun O => c_laws_toSign O a0) := by unfold c_laws_toSign; exact Ct.C (E := E1) 14 (a0, ())
noncomputable def c_laws_eqIntS (O : Oracle E1) (a0 : List Int) (a1 : List Int) : Option ((Bool × Unit) × (Unit)) := O.C 64 (a0, a1, ())
theorem k0_laws_eqIntS (a0 : List Int) (a1 : List Int) : Ct E1 (fun O => c_laws_eqIntS O a0 a1) := by unfold c_laws_eqIntS; exact Ct.C (E := E1) 64 (a0, a1, ())
noncomputable def c_laws_eqSign (O : Oracle E1) (a0 : (List Int) × Unit) (a1 : (List Int) × Unit) : Option ((Bool × Unit) × (Unit)) := O.C 18 (a0, a1, ())
theorem k0_laws_eqSign (a0 : (List Int) × Unit) (a1 : (List Int) × Unit) : Ct E1 (fun O => c_laws_eqSign O a0 a1) := by unfold c_laws_eqSign; exact Ct.C (E := E1) 18 (a0, a1, ())
noncomputable def c_laws_szForm (O : Oracle E1) (a0 : Int × Int × (List Int) × (List Int) × Unit) (a1 : Int) : Option ((Int × Unit) × (Unit)) := O.C 75 (a0, a1, ())
theorem k0_laws_szForm (a0 : Int × Int × (List Int) × (List Int) × Unit) (a1 : Int) : Ct E1 (fun O => c_laws_szForm O a0 a1) := by unfold c_laws_szForm; exact Ct.C (E := E1) 75 (a0, a1, ())
noncomputable def c_laws_szFormS (O : Oracle E1) (a0 : List (Int × Int × (List Int) × (List Int) × Unit)) (a1 : Int) : Option ((Int × Unit) × (Unit)) := O.C 27 (a0, a1, ())
theorem k0_laws_szFormS (a0 : List (Int × Int × (List Int) × (List Int) × Unit)) (a1 : Int) : Ct E1 (fun O => c_laws_szFormS O a0 a1) := by unfold c_laws_szFormS; exact Ct.C (E := E1) 27 (a0, a1, ())
noncomputable def c_laws_toForm (O : Oracle E1) (a0 : Int × Int × (List Int) × (List Int) × Unit) : Option (((Int × Int × (List Int) × (List Int) × Unit) × Unit) × (Unit)) := O.C 78 (a0, ())
theorem k0_laws_toForm (a0 : Int × Int × (List Int) × (List Int) × Unit) : Ct E1 (fun O => c_laws_toForm O a0) := by unfold c_laws_toForm; exact Ct.C (E := E1) 78 (a0, ())
noncomputable def c_laws_toFormS (O : Oracle E1) (a0 : List (Int × Int × (List Int) × (List Int) × Unit)) : Option (((List (Int × Int × (List Int) × (List Int) × Unit)) × Unit) × (Unit)) := O.C 29 (a0, ())
theorem k0_laws_toFormS (a0 : List (Int × Int × (List Int) × (List Int) × Unit)) : Ct E1 (fun O => c_laws_toFormS O a0) := by unfold c_laws_toFormS; exact Ct.C (E := E1) 29 (a0, ())
noncomputable def c_laws_eqForm (O : Oracle E1) (a0 : Int × Int × (List Int) × (List Int) × Unit) (a1 : Int × Int × (List Int) × (List Int) × Unit) : Option ((Bool × Unit) × (Unit)) := O.C 80 (a0, a1, ())
theorem k0_laws_eqForm (a0 : Int × Int × (List Int) × (List Int) × Unit) (a1 : Int × Int × (List Int) × (List Int) × Unit) : Ct E1 (fun O => c_laws_eqForm O a0 a1) := by unfold c_laws_eqForm; exact Ct.C (E := E1) 80 (a0, a1, ())
noncomputable def c_laws_eqFormS (O : Oracle E1) (a0 : List (Int × Int × (List Int) × (List Int) × Unit)) (a1 : List (Int × Int × (List Int) × (List Int) × Unit)) : Option ((Bool × Unit) × (Unit)) := O.C 31 (a0, a1, ())
theorem k0_laws_eqFormS (a0 : List (Int × Int × (List Int) × (List Int) × Unit)) (a1 : List (Int × Int × (List Int) × (List Int) × Unit)) : Ct E1 (fun O => c_laws_eqFormS O a0 a1) := by unfold c_laws_eqFormS; exact Ct.C (E := E1) 31 (a0, a1, ())
noncomputable def c_spec_l1In (O : Oracle E1) (a0 : Int) (a1 : Int) (a2 : Int) : Option ((Bool × Unit) × (Unit)) := O.C 57 (a0, a1, a2, ())
theorem k0_spec_l1In (a0 : Int) (a1 : Int) (a2 : Int) : Ct E1 (fun O => c_spec_l1In O a0 a1 a2) := by unfold c_spec_l1In; exact Ct.C (E := E1) 57 (a0, a1, a2, ())
noncomputable def c_spec_l1All (O : Oracle E1) (a0 : List Int) (a1 : Int) (a2 : Int) : Option ((Bool × Unit) × (Unit)) := O.C 106 (a0, a1, a2, ())
theorem k0_spec_l1All (a0 : List Int) (a1 : Int) (a2 : Int) : Ct E1 (fun O => c_spec_l1All O a0 a1 a2) := by unfold c_spec_l1All; exact Ct.C (E := E1) 106 (a0, a1, a2, ())
noncomputable def c_spec_GoodSign (O : Oracle E1) (a0 : (List Int) × Unit) : Option ((Bool × Unit) × (Unit)) := O.C 76 (a0, ())
theorem k0_spec_GoodSign (a0 : (List Int) × Unit) : Ct E1 (fun O => c_spec_GoodSign O a0) := by unfold c_spec_GoodSign; exact Ct.C (E := E1) 76 (a0, ())
noncomputable def c_spec_l14Arity (O : Oracle E1) (a0 : Int) : Option ((Int × Unit) × (Unit)) := O.C 108 (a0, ())
theorem k0_spec_l14Arity (a0 : Int) : Ct E1 (fun O => c_spec_l14Arity O a0) := by unfold c_spec_l14Arity; exact Ct.C (E := E1) 108 (a0, ())
noncomputable def c_spec_l1End (O : Oracle E1) (a0 : (List Int) × Unit) (a1 : List Int) (a2 : Int) : Option ((Int × Unit) × (Unit)) := O.C 131 (a0, a1, a2, ())
theorem k0_spec_l1End (a0 : (List Int) × Unit) (a1 : List Int) (a2 : Int) : Ct E1 (fun O => c_spec_l1End O a0 a1 a2) := by unfold c_spec_l1End; exact Ct.C (E := E1) 131 (a0, a1, a2, ())
noncomputable def c_spec_l1Term (O : Oracle E1) (a0 : (List Int) × Unit) (a1 : List Int) : Option ((Bool × Unit) × (Unit)) := O.C 124 (a0, a1, ())
theorem k0_spec_l1Term (a0 : (List Int) × Unit) (a1 : List Int) : Ct E1 (fun O => c_spec_l1Term O a0 a1) := by unfold c_spec_l1Term; exact Ct.C (E := E1) 124 (a0, a1, ())
noncomputable def c_spec_l1Put (O : Oracle E1) (a0 : List Int) (a1 : Int) : Option (((List Int) × Unit) × (Unit)) := O.C 135 (a0, a1, ())
theorem k0_spec_l1Put (a0 : List Int) (a1 : Int) : Ct E1 (fun O => c_spec_l1Put O a0 a1) := by unfold c_spec_l1Put; exact Ct.C (E := E1) 135 (a0, a1, ())
noncomputable def c_spec_l1Vars (O : Oracle E1) (a0 : List Int) : Option (((List Int) × Unit) × (Unit)) := O.C 125 (a0, ())
theorem k0_spec_l1Vars (a0 : List Int) : Ct E1 (fun O => c_spec_l1Vars O a0) := by unfold c_spec_l1Vars; exact Ct.C (E := E1) 125 (a0, ())
noncomputable def c_spec_l14Node (O : Oracle E1) (a0 : (List Int) × Unit) (a1 : Int × Int × (List Int) × (List Int) × Unit) : Option ((Bool × Unit) × (Unit)) := O.C 107 (a0, a1, ())
theorem k0_spec_l14Node (a0 : (List Int) × Unit) (a1 : Int × Int × (List Int) × (List Int) × Unit) : Ct E1 (fun O => c_spec_l14Node O a0 a1) := by unfold c_spec_l14Node; exact Ct.C (E := E1) 107 (a0, a1, ())
noncomputable def c_spec_l14Form (O : Oracle E1) (a0 : (List Int) × Unit) (a1 : List (Int × Int × (List Int) × (List Int) × Unit)) : Option ((Bool × Unit) × (Unit)) := O.C 77 (a0, a1, ())
theorem k0_spec_l14Form (a0 : (List Int) × Unit) (a1 : List (Int × Int × (List Int) × (List Int) × Unit)) : Ct E1 (fun O => c_spec_l14Form O a0 a1) := by unfold c_spec_l14Form; exact Ct.C (E := E1) 77 (a0, a1, ())
noncomputable def c_spec_GoodForm (O : Oracle E1) (a0 : (List Int) × Unit) (a1 : List (Int × Int × (List Int) × (List Int) × Unit)) : Option ((Bool × Unit) × (Unit)) := O.C 28 (a0, a1, ())
theorem k0_spec_GoodForm (a0 : (List Int) × Unit) (a1 : List (Int × Int × (List Int) × (List Int) × Unit)) : Ct E1 (fun O => c_spec_GoodForm O a0 a1) := by unfold c_spec_GoodForm; exact Ct.C (E := E1) 28 (a0, a1, ())
noncomputable def c_spec_l14Pushed (O : Oracle E1) (a0 : List (Int × Int × (List Int) × (List Int) × Unit)) : Option ((Bool × Unit) × (Unit)) := O.C 96 (a0, ())
theorem k0_spec_l14Pushed (a0 : List (Int × Int × (List Int) × (List Int) × Unit)) : Ct E1 (fun O => c_spec_l14Pushed O a0) := by unfold c_spec_l14Pushed; exact Ct.C (E := E1) 96 (a0, ())
noncomputable def c_spec_IsPushed (O : Oracle E1) (a0 : (List Int) × Unit) (a1 : List (Int × Int × (List Int) × (List Int) × Unit)) : Option ((Bool × Bool × Unit) × (Unit)) := O.C 51 (a0, a1, ())
theorem k0_spec_IsPushed (a0 : (List Int) × Unit) (a1 : List (Int × Int × (List Int) × (List Int) × Unit)) : Ct E1 (fun O => c_spec_IsPushed O a0 a1) := by unfold c_spec_IsPushed; exact Ct.C (E := E1) 51 (a0, a1, ())
noncomputable def c_impl_GoodSign_1 (O : Oracle E1) (a0 : Int) : Option ((Bool × Unit) × (Unit)) := O.C 114 (a0, ())
theorem k0_impl_GoodSign_1 (a0 : Int) : Ct E1 (fun O => c_impl_GoodSign_1 O a0) := by unfold c_impl_GoodSign_1; exact Ct.C (E := E1) 114 (a0, ())
noncomputable def c_slices_IndexFunc_int_int__impl_GoodSign_1 (O : Oracle E1) (a0 : List Int) (a1 : Unit) : Option ((Int × Unit) × (Unit)) := O.C 7536769 (a0, a1, ())
theorem k0_slices_IndexFunc_int_int__impl_GoodSign_1 (a0 : List Int) (a1 : Unit) : Ct E1 (fun O => c_slices_IndexFunc_int_int__impl_GoodSign_1 O a0 a1) := by unfold c_slices_IndexFunc_int_int__impl_GoodSign_1; exact Ct.C (E := E1) 7536769 (a0, a1, ())
noncomputable def c_slices_ContainsFunc_int_int__impl_GoodSign_1 (O : Oracle E1) (a0 : List Int) (a1 : Unit) : Option ((Bool × Unit) × (Unit)) := O.C 7536753 (a0, a1, ())
theorem k0_slices_ContainsFunc_int_int__impl_GoodSign_1 (a0 : List Int) (a1 : Unit) : Ct E1 (fun O => c_slices_ContainsFunc_int_int__impl_GoodSign_1 O a0 a1) := by unfold c_slices_ContainsFunc_int_int__impl_GoodSign_1; exact Ct.C (E := E1) 7536753 (a0, a1, ())
noncomputable def c_impl_GoodSign (O : Oracle E1) (a0 : (List Int) × Unit) : Option ((Bool × Unit) × (Unit)) := O.C 99 (a0, ())
theorem k0_impl_GoodSign (a0 : (List Int) × Unit) : Ct E1 (fun O => c_impl_GoodSign O a0) := by unfold c_impl_GoodSign; exact Ct.C (E := E1) 99 (a0, ())
noncomputable def c_impl_Sign_args (O : Oracle E1) (a0 : (List Int) × Unit) (a1 : Int) : Option ((Int × Unit) × (Unit)) := O.C 134 (a0, a1, ())
theorem k0_impl_Sign_args (a0 : (List Int) × Unit) (a1 : Int) : Ct E1 (fun O => c_impl_Sign_args O a0 a1) := by unfold c_impl_Sign_args; exact Ct.C (E := E1) 134 (a0, a1, ())
noncomputable def c_impl_Sign_isTerm (O : Oracle E1) (a0 : (List Int) × Unit) (a1 : List Int) : Option ((Bool × Unit) × (Unit)) := O.C 133 (a0, a1, ())
theorem k0_impl_Sign_isTerm (a0 : (List Int) × Unit) (a1 : List Int) : Ct E1 (fun O => c_impl_Sign_isTerm O a0 a1) := by unfold c_impl_Sign_isTerm; exact Ct.C (E := E1) 133 (a0, a1, ())
noncomputable def c_impl_Sign_isBound_1 (O : Oracle E1) (a0 : Int) : Option ((Bool × Unit) × (Unit)) := O.C 137 (a0, ())
theorem k0_impl_Sign_isBound_1 (a0 : Int) : Ct E1 (fun O => c_impl_Sign_isBound_1 O a0) := by unfold c_impl_Sign_isBound_1; exact Ct.C (E := E1) 137 (a0, ())
noncomputable def c_slices_IndexFunc_int_int__impl_Sign_isBound_1 (O : Oracle E1) (a0 : List Int) (a1 : Unit) : Option ((Int × Unit) × (Unit)) := O.C 9044097 (a0, a1, ())
theorem k0_slices_IndexFunc_int_int__impl_Sign_isBound_1 (a0 : List Int) (a1 : Unit) : Ct E1 (fun O => c_slices_IndexFunc_int_int__impl_Sign_isBound_1 O a0 a1) := by unfold c_slices_IndexFunc_int_int__impl_Sign_isBound_1; exact Ct.C (E := E1) 9044097 (a0, a1, ())
noncomputable def c_slices_ContainsFunc_int_int__impl_Sign_isBound_1 (O : Oracle E1) (a0 : List Int) (a1 : Unit) : Option ((Bool × Unit) × (Unit)) := O.C 9044081 (a0, a1, ())
theorem k0_slices_ContainsFunc_int_int__impl_Sign_isBound_1 (a0 : List Int) (a1 : Unit) : Ct E1 (fun O => c_slices_ContainsFunc_int_int__impl_Sign_isBound_1 O a0 a1) := by unfold c_slices_ContainsFunc_int_int__impl_Sign_isBound_1; exact Ct.C (E := E1) 9044081 (a0, a1, ())
noncomputable def c_impl_Sign_isBound (O : Oracle E1) (a0 : (List Int) × Unit) (a1 : List Int) : Option ((Bool × Unit) × (Unit)) := O.C 136 (a0, a1, ())
theorem k0_impl_Sign_isBound (a0 : (List Int) × Unit) (a1 : List Int) : Ct E1 (fun O => c_impl_Sign_isBound O a0 a1) := by unfold c_impl_Sign_isBound; exact Ct.C (E := E1) 136 (a0, a1, ())
noncomputable def c_impl_Sign_isNode (O : Oracle E1) (a0 : (List Int) × Unit) (a1 : Int × Int × (List Int) × (List Int) × Unit) : Option ((Bool × Unit) × (Unit)) := O.C 126 (a0, a1, ())
theorem k0_impl_Sign_isNode (a0 : (List Int) × Unit) (a1 : Int × Int × (List Int) × (List Int) × Unit) : Ct E1 (fun O => c_impl_Sign_isNode O a0 a1) := by unfold c_impl_Sign_isNode; exact Ct.C (E := E1) 126 (a0, a1, ())
noncomputable def c_impl_Form_operands (O : Oracle E1) (a0 : Int × Int × (List Int) × (List Int) × Unit) : Option ((Int × Unit) × (Unit)) := O.C 127 (a0, ())
theorem k0_impl_Form_operands (a0 : Int × Int × (List Int) × (List Int) × Unit) : Ct E1 (fun O => c_impl_Form_operands O a0) := by unfold c_impl_Form_operands; exact Ct.C (E := E1) 127 (a0, ())
noncomputable def c_impl_Sign_grow (O : Oracle E1) (a0 : (List Int) × Unit) (a1 : List (Int × Int × (List Int) × (List Int) × Unit)) : Option ((Tree × Bool × Unit) × (Unit)) := O.C 109 (a0, a1, ())
theorem k0_impl_Sign_grow (a0 : (List Int) × Unit) (a1 : List (Int × Int × (List Int) × (List Int) × Unit)) : Ct E1 (fun O => c_impl_Sign_grow O a0 a1) := by unfold c_impl_Sign_grow; exact Ct.C (E := E1) 109 (a0, a1, ())
noncomputable def c_impl_formula (O : Oracle E1) (a0 : (List Int) × Unit) (a1 : List (Int × Int × (List Int) × (List Int) × Unit)) : Option ((Tree × Bool × Unit) × (Unit)) := O.C 79 (a0, a1, ())
theorem k0_impl_formula (a0 : (List Int) × Unit) (a1 : List (Int × Int × (List Int) × (List Int) × Unit)) : Ct E1 (fun O => c_impl_formula O a0 a1) := by unfold c_impl_formula; exact Ct.C (E := E1) 79 (a0, a1, ())
noncomputable def c_impl_GoodForm (O : Oracle E1) (a0 : (List Int) × Unit) (a1 : List (Int × Int × (List Int) × (List Int) × Unit)) : Option ((Bool × Unit) × (Unit)) := O.C 30 (a0, a1, ())
theorem k0_impl_GoodForm (a0 : (List Int) × Unit) (a1 : List (Int × Int × (List Int) × (List Int) × Unit)) : Ct E1 (fun O => c_impl_GoodForm O a0 a1) := by unfold c_impl_GoodForm; exact Ct.C (E := E1) 30 (a0, a1, ())
noncomputable def c_impl_isPushed (O : Oracle E1) (a0 : List (Int × Int × (List Int) × (List Int) × Unit)) : Option ((Bool × Unit) × (Unit)) := O.C 97 (a0, ())
theorem k0_impl_isPushed (a0 : List (Int × Int × (List Int) × (List Int) × Unit)) : Ct E1 (fun O => c_impl_isPushed O a0) := by unfold c_impl_isPushed; exact Ct.C (E := E1) 97 (a0, ())
noncomputable def c_impl_IsPushed (O : Oracle E1) (a0 : (List Int) × Unit) (a1 : List (Int × Int × (List Int) × (List Int) × Unit)) : Option ((Bool × Bool × Unit) × (Unit)) := O.C 52 (a0, a1, ())
theorem k0_impl_IsPushed (a0 : (List Int) × Unit) (a1 : List (Int × Int × (List Int) × (List Int) × Unit)) : Ct E1 (fun O => c_impl_IsPushed O a0 a1) := by unfold c_impl_IsPushed; exact Ct.C (E := E1) 52 (a0, a1, ())
noncomputable def c_laws_FnExactIsPushed (O : Oracle E1) (a0 : (List Int) × Unit) (a1 : List (Int × Int × (List Int) × (List Int) × Unit)) : Option ((Bool × Unit) × (Unit)) := O.C 8 (a0, a1, ())
theorem k0_laws_FnExactIsPushed (a0 : (List Int) × Unit) (a1 : List (Int × Int × (List Int) × (List Int) × Unit)) : Ct E1 (fun O => c_laws_FnExactIsPushed O a0 a1) := by unfold c_laws_FnExactIsPushed; exact Ct.C (E := E1) 8 (a0, a1, ())
noncomputable abbrev lh_laws_toIntS_58 : LoopH := { key := 116, ht := [0, 3, 4], hτ := (fs [(.sl (.int .i64)), (.own (.int .i64)), (.int .i64)]), ex := 0, ot := [3], oτ := (fs [(.own (.int .i64))]) }
noncomputable def cd_laws_toIntS_58 : Code := Code.part (bodyOf 59) [1, 1, 0, 1, 0, 0]
noncomputable def l_laws_toIntS_58 (O : Oracle E1) (a0 : List Int) (a1 : List Int) (a2 : Int) : Option (((List Int) × Unit) ⊕ (((List Int) × Unit) × (Unit))) := O.L 59 lh_laws_toIntS_58 cd_laws_toIntS_58 (a0, a1, a2, ())
theorem k0l_laws_toIntS_58 (a0 : List Int) (a1 : List Int) (a2 : Int) : Ct E1 (fun O => l_laws_toIntS_58 O a0 a1 a2) := by unfold l_laws_toIntS_58; exact Ct.L (E := E1) 59 lh_laws_toIntS_58 cd_laws_toIntS_58 (a0, a1, a2, ())
noncomputable abbrev lh_laws_eqIntS_58 : LoopH := { key := 116, ht := [0, 1, 5], hτ := (fs [(.sl (.int .i64)), (.sl (.int .i64)), (.int .i64)]), ex := 0, ot := [], oτ := (fs []) }
noncomputable def cd_laws_eqIntS_58 : Code := Code.part (bodyOf 64) [1, 1, 0, 1, 0, 0]
noncomputable def l_laws_eqIntS_58 (O : Oracle E1) (a0 : List Int) (a1 : List Int) (a2 : Int) : Option ((Unit) ⊕ ((Bool × Unit) × (Unit))) := O.L 64 lh_laws_eqIntS_58 cd_laws_eqIntS_58 (a0, a1, a2, ())
theorem k0l_laws_eqIntS_58 (a0 : List Int) (a1 : List Int) (a2 : Int) : Ct E1 (fun O => l_laws_eqIntS_58 O a0 a1 a2) := by unfold l_laws_eqIntS_58; exact Ct.L (E := E1) 64 lh_laws_eqIntS_58 cd_laws_eqIntS_58 (a0, a1, a2, ())
noncomputable abbrev lh_laws_szFormS_122 : LoopH := { key := 244, ht := [0, 1, 5], hτ := (fs [(.sl (.agg (fs [(.int .i64), (.int .i64), (.sl (.int .i64)), (.sl (.int .i64))]))), (.int .i64), (.int .i64)]), ex := 0, ot := [1], oτ := (fs [(.int .i64)]) }
noncomputable def cd_laws_szFormS_122 : Code := Code.part (bodyOf 27) [1, 1, 1, 0, 1, 0, 0]
noncomputable def l_laws_szFormS_122 (O : Oracle E1) (a0 : List (Int × Int × (List Int) × (List Int) × Unit)) (a1 : Int) (a2 : Int) : Option ((Int × Unit) ⊕ ((Int × Unit) × (Unit))) := O.L 27 lh_laws_szFormS_122 cd_laws_szFormS_122 (a0, a1, a2, ())
theorem k0l_laws_szFormS_122 (a0 : List (Int × Int × (List Int) × (List Int) × Unit)) (a1 : Int) (a2 : Int) : Ct E1 (fun O => l_laws_szFormS_122 O a0 a1 a2) := by unfold l_laws_szFormS_122; exact Ct.L (E := E1) 27 lh_laws_szFormS_122 cd_laws_szFormS_122 (a0, a1, a2, ())
noncomputable abbrev lh_laws_toFormS_58 : LoopH := { key := 116, ht := [0, 3, 4], hτ := (fs [(.sl (.agg (fs [(.int .i64), (.int .i64), (.sl (.int .i64)), (.sl (.int .i64))]))), (.own (.agg (fs [(.int .i64), (.int .i64), (.sl (.int .i64)), (.sl (.int .i64))]))), (.int .i64)]), ex := 0, ot := [3], oτ := (fs [(.own (.agg (fs [(.int .i64), (.int .i64), (.sl (.int .i64)), (.sl (.int .i64))])))]) }
noncomputable def cd_laws_toFormS_58 : Code := Code.part (bodyOf 29) [1, 1, 0, 1, 0, 0]
noncomputable def l_laws_toFormS_58 (O : Oracle E1) (a0 : List (Int × Int × (List Int) × (List Int) × Unit)) (a1 : List (Int × Int × (List Int) × (List Int) × Unit)) (a2 : Int) : Option (((List (Int × Int × (List Int) × (List Int) × Unit)) × Unit) ⊕ (((List (Int × Int × (List Int) × (List Int) × Unit)) × Unit) × (Unit))) := O.L 29 lh_laws_toFormS_58 cd_laws_toFormS_58 (a0, a1, a2, ())
theorem k0l_laws_toFormS_58 (a0 : List (Int × Int × (List Int) × (List Int) × Unit)) (a1 : List (Int × Int × (List Int) × (List Int) × Unit)) (a2 : Int) : Ct E1 (fun O => l_laws_toFormS_58 O a0 a1 a2) := by unfold l_laws_toFormS_58; exact Ct.L (E := E1) 29 lh_laws_toFormS_58 cd_laws_toFormS_58 (a0, a1, a2, ())
noncomputable abbrev lh_laws_eqFormS_58 : LoopH := { key := 116, ht := [0, 1, 5], hτ := (fs [(.sl (.agg (fs [(.int .i64), (.int .i64), (.sl (.int .i64)), (.sl (.int .i64))]))), (.sl (.agg (fs [(.int .i64), (.int .i64), (.sl (.int .i64)), (.sl (.int .i64))]))), (.int .i64)]), ex := 0, ot := [], oτ := (fs []) }
noncomputable def cd_laws_eqFormS_58 : Code := Code.part (bodyOf 31) [1, 1, 0, 1, 0, 0]
noncomputable def l_laws_eqFormS_58 (O : Oracle E1) (a0 : List (Int × Int × (List Int) × (List Int) × Unit)) (a1 : List (Int × Int × (List Int) × (List Int) × Unit)) (a2 : Int) : Option ((Unit) ⊕ ((Bool × Unit) × (Unit))) := O.L 31 lh_laws_eqFormS_58 cd_laws_eqFormS_58 (a0, a1, a2, ())
theorem k0l_laws_eqFormS_58 (a0 : List (Int × Int × (List Int) × (List Int) × Unit)) (a1 : List (Int × Int × (List Int) × (List Int) × Unit)) (a2 : Int) : Ct E1 (fun O => l_laws_eqFormS_58 O a0 a1 a2) := by unfold l_laws_eqFormS_58; exact Ct.L (E := E1) 31 lh_laws_eqFormS_58 cd_laws_eqFormS_58 (a0, a1, a2, ())
noncomputable abbrev lh_spec_l1All_26 : LoopH := { key := 52, ht := [1, 2, 9, 10, 11], hτ := (fs [(.int .i64), (.int .i64), (.sl (.int .i64)), (.int .i64), (.int .i64)]), ex := 0, ot := [], oτ := (fs []) }
noncomputable def cd_spec_l1All_26 : Code := Code.part (bodyOf 106) [1, 0, 1, 0, 0]
noncomputable def l_spec_l1All_26 (O : Oracle E1) (a0 : Int) (a1 : Int) (a2 : List Int) (a3 : Int) (a4 : Int) : Option ((Unit) ⊕ ((Bool × Unit) × (Unit))) := O.L 106 lh_spec_l1All_26 cd_spec_l1All_26 (a0, a1, a2, a3, a4, ())
theorem k0l_spec_l1All_26 (a0 : Int) (a1 : Int) (a2 : List Int) (a3 : Int) (a4 : Int) : Ct E1 (fun O => l_spec_l1All_26 O a0 a1 a2 a3 a4) := by unfold l_spec_l1All_26; exact Ct.L (E := E1) 106 lh_spec_l1All_26 cd_spec_l1All_26 (a0, a1, a2, a3, a4, ())
noncomputable abbrev lh_spec_l1End_28 : LoopH := { key := 56, ht := [1, 2, 3, 7], hτ := (fs [(.sl (.int .i64)), (.int .i64), (.box (.agg (fs [(.sl (.int .i64))]))), (.int .i64)]), ex := 0, ot := [2], oτ := (fs [(.int .i64)]) }
noncomputable def cd_spec_l1End_28 : Code := Code.part (bodyOf 131) [1, 1, 0, 0, 0]
noncomputable def l_spec_l1End_28 (O : Oracle E1) (a0 : List Int) (a1 : Int) (a2 : (List Int) × Unit) (a3 : Int) : Option ((Int × Unit) ⊕ ((Int × Unit) × (Unit))) := O.L 131 lh_spec_l1End_28 cd_spec_l1End_28 (a0, a1, a2, a3, ())
theorem k0l_spec_l1End_28 (a0 : List Int) (a1 : Int) (a2 : (List Int) × Unit) (a3 : Int) : Ct E1 (fun O => l_spec_l1End_28 O a0 a1 a2 a3) := by unfold l_spec_l1End_28; exact Ct.L (E := E1) 131 lh_spec_l1End_28 cd_spec_l1End_28 (a0, a1, a2, a3, ())
noncomputable abbrev lh_spec_l1Put_28 : LoopH := { key := 56, ht := [0, 1, 5], hτ := (fs [(.own (.int .i64)), (.int .i64), (.int .i64)]), ex := 0, ot := [0, 1, 5], oτ := (fs [(.own (.int .i64)), (.int .i64), (.int .i64)]) }
noncomputable def cd_spec_l1Put_28 : Code := Code.part (bodyOf 135) [1, 1, 0, 0, 0]
noncomputable def l_spec_l1Put_28 (O : Oracle E1) (a0 : List Int) (a1 : Int) (a2 : Int) : Option (((List Int) × Int × Int × Unit) ⊕ (((List Int) × Unit) × (Unit))) := O.L 135 lh_spec_l1Put_28 cd_spec_l1Put_28 (a0, a1, a2, ())
theorem k0l_spec_l1Put_28 (a0 : List Int) (a1 : Int) (a2 : Int) : Ct E1 (fun O => l_spec_l1Put_28 O a0 a1 a2) := by unfold l_spec_l1Put_28; exact Ct.L (E := E1) 135 lh_spec_l1Put_28 cd_spec_l1Put_28 (a0, a1, a2, ())
noncomputable abbrev lh_spec_l1Vars_58 : LoopH := { key := 116, ht := [3, 6, 7, 8], hτ := (fs [(.own (.int .i64)), (.sl (.int .i64)), (.int .i64), (.int .i64)]), ex := 0, ot := [3], oτ := (fs [(.own (.int .i64))]) }
noncomputable def cd_spec_l1Vars_58 : Code := Code.part (bodyOf 125) [1, 1, 0, 1, 0, 0]
noncomputable def l_spec_l1Vars_58 (O : Oracle E1) (a0 : List Int) (a1 : List Int) (a2 : Int) (a3 : Int) : Option (((List Int) × Unit) ⊕ (((List Int) × Unit) × (Unit))) := O.L 125 lh_spec_l1Vars_58 cd_spec_l1Vars_58 (a0, a1, a2, a3, ())
theorem k0l_spec_l1Vars_58 (a0 : List Int) (a1 : List Int) (a2 : Int) (a3 : Int) : Ct E1 (fun O => l_spec_l1Vars_58 O a0 a1 a2 a3) := by unfold l_spec_l1Vars_58; exact Ct.L (E := E1) 125 lh_spec_l1Vars_58 cd_spec_l1Vars_58 (a0, a1, a2, a3, ())
noncomputable abbrev lh_spec_l14Form_122 : LoopH := { key := 244, ht := [2, 5, 12, 13, 14], hτ := (fs [(.box (.agg (fs [(.sl (.int .i64))]))), (.int .i64), (.sl (.agg (fs [(.int .i64), (.int .i64), (.sl (.int .i64)), (.sl (.int .i64))]))), (.int .i64), (.int .i64)]), ex := 0, ot := [5], oτ := (fs [(.int .i64)]) }
noncomputable def cd_spec_l14Form_122 : Code := Code.part (bodyOf 77) [1, 1, 1, 0, 1, 0, 0]
noncomputable def l_spec_l14Form_122 (O : Oracle E1) (a0 : (List Int) × Unit) (a1 : Int) (a2 : List (Int × Int × (List Int) × (List Int) × Unit)) (a3 : Int) (a4 : Int) : Option ((Int × Unit) ⊕ ((Bool × Unit) × (Unit))) := O.L 77 lh_spec_l14Form_122 cd_spec_l14Form_122 (a0, a1, a2, a3, a4, ())
theorem k0l_spec_l14Form_122 (a0 : (List Int) × Unit) (a1 : Int) (a2 : List (Int × Int × (List Int) × (List Int) × Unit)) (a3 : Int) (a4 : Int) : Ct E1 (fun O => l_spec_l14Form_122 O a0 a1 a2 a3 a4) := by unfold l_spec_l14Form_122; exact Ct.L (E := E1) 77 lh_spec_l14Form_122 cd_spec_l14Form_122 (a0, a1, a2, a3, a4, ())
noncomputable abbrev lh_spec_l14Pushed_26 : LoopH := { key := 52, ht := [0, 5, 6, 7], hτ := (fs [(.sl (.agg (fs [(.int .i64), (.int .i64), (.sl (.int .i64)), (.sl (.int .i64))]))), (.sl (.agg (fs [(.int .i64), (.int .i64), (.sl (.int .i64)), (.sl (.int .i64))]))), (.int .i64), (.int .i64)]), ex := 0, ot := [], oτ := (fs []) }
noncomputable def cd_spec_l14Pushed_26 : Code := Code.part (bodyOf 96) [1, 0, 1, 0, 0]
noncomputable def l_spec_l14Pushed_26 (O : Oracle E1) (a0 : List (Int × Int × (List Int) × (List Int) × Unit)) (a1 : List (Int × Int × (List Int) × (List Int) × Unit)) (a2 : Int) (a3 : Int) : Option ((Unit) ⊕ ((Bool × Unit) × (Unit))) := O.L 96 lh_spec_l14Pushed_26 cd_spec_l14Pushed_26 (a0, a1, a2, a3, ())
theorem k0l_spec_l14Pushed_26 (a0 : List (Int × Int × (List Int) × (List Int) × Unit)) (a1 : List (Int × Int × (List Int) × (List Int) × Unit)) (a2 : Int) (a3 : Int) : Ct E1 (fun O => l_spec_l14Pushed_26 O a0 a1 a2 a3) := by unfold l_spec_l14Pushed_26; exact Ct.L (E := E1) 96 lh_spec_l14Pushed_26 cd_spec_l14Pushed_26 (a0, a1, a2, a3, ())
noncomputable abbrev lh_slices_IndexFunc_int_int__impl_GoodSign_1_26 : LoopH := { key := 52, ht := [0, 1, 7, 8], hτ := (fs [(.sl (.int .i64)), (.fn 114 (fs [])), (.int .i64), (.int .i64)]), ex := 0, ot := [], oτ := (fs []) }
noncomputable def cd_slices_IndexFunc_int_int__impl_GoodSign_1_26 : Code := Code.part (bodyOf 129) [1, 0, 1, 0, 0]
noncomputable def l_slices_IndexFunc_int_int__impl_GoodSign_1_26 (O : Oracle E1) (a0 : List Int) (a1 : Unit) (a2 : Int) (a3 : Int) : Option ((Unit) ⊕ ((Int × Unit) × (Unit))) := O.L 7536769 lh_slices_IndexFunc_int_int__impl_GoodSign_1_26 cd_slices_IndexFunc_int_int__impl_GoodSign_1_26 (a0, a1, a2, a3, ())
theorem k0l_slices_IndexFunc_int_int__impl_GoodSign_1_26 (a0 : List Int) (a1 : Unit) (a2 : Int) (a3 : Int) : Ct E1 (fun O => l_slices_IndexFunc_int_int__impl_GoodSign_1_26 O a0 a1 a2 a3) := by unfold l_slices_IndexFunc_int_int__impl_GoodSign_1_26; exact Ct.L (E := E1) 7536769 lh_slices_IndexFunc_int_int__impl_GoodSign_1_26 cd_slices_IndexFunc_int_int__impl_GoodSign_1_26 (a0, a1, a2, a3, ())
noncomputable abbrev lh_impl_Sign_isTerm_122 : LoopH := { key := 244, ht := [2, 5, 11, 12, 13], hτ := (fs [(.box (.agg (fs [(.sl (.int .i64))]))), (.int .i64), (.sl (.int .i64)), (.int .i64), (.int .i64)]), ex := 0, ot := [5], oτ := (fs [(.int .i64)]) }
noncomputable def cd_impl_Sign_isTerm_122 : Code := Code.part (bodyOf 133) [1, 1, 1, 0, 1, 0, 0]
noncomputable def l_impl_Sign_isTerm_122 (O : Oracle E1) (a0 : (List Int) × Unit) (a1 : Int) (a2 : List Int) (a3 : Int) (a4 : Int) : Option ((Int × Unit) ⊕ ((Bool × Unit) × (Unit))) := O.L 133 lh_impl_Sign_isTerm_122 cd_impl_Sign_isTerm_122 (a0, a1, a2, a3, a4, ())
theorem k0l_impl_Sign_isTerm_122 (a0 : (List Int) × Unit) (a1 : Int) (a2 : List Int) (a3 : Int) (a4 : Int) : Ct E1 (fun O => l_impl_Sign_isTerm_122 O a0 a1 a2 a3 a4) := by unfold l_impl_Sign_isTerm_122; exact Ct.L (E := E1) 133 lh_impl_Sign_isTerm_122 cd_impl_Sign_isTerm_122 (a0, a1, a2, a3, a4, ())
noncomputable abbrev lh_slices_IndexFunc_int_int__impl_Sign_isBound_1_26 : LoopH := { key := 52, ht := [0, 1, 7, 8], hτ := (fs [(.sl (.int .i64)), (.fn 137 (fs [])), (.int .i64), (.int .i64)]), ex := 0, ot := [], oτ := (fs []) }
noncomputable def cd_slices_IndexFunc_int_int__impl_Sign_isBound_1_26 : Code := Code.part (bodyOf 129) [1, 0, 1, 0, 0]
noncomputable def l_slices_IndexFunc_int_int__impl_Sign_isBound_1_26 (O : Oracle E1) (a0 : List Int) (a1 : Unit) (a2 : Int) (a3 : Int) : Option ((Unit) ⊕ ((Int × Unit) × (Unit))) := O.L 9044097 lh_slices_IndexFunc_int_int__impl_Sign_isBound_1_26 cd_slices_IndexFunc_int_int__impl_Sign_isBound_1_26 (a0, a1, a2, a3, ())
theorem k0l_slices_IndexFunc_int_int__impl_Sign_isBound_1_26 (a0 : List Int) (a1 : Unit) (a2 : Int) (a3 : Int) : Ct E1 (fun O => l_slices_IndexFunc_int_int__impl_Sign_isBound_1_26 O a0 a1 a2 a3) := by unfold l_slices_IndexFunc_int_int__impl_Sign_isBound_1_26; exact Ct.L (E := E1) 9044097 lh_slices_IndexFunc_int_int__impl_Sign_isBound_1_26 cd_slices_IndexFunc_int_int__impl_Sign_isBound_1_26 (a0, a1, a2, a3, ())
noncomputable abbrev lh_impl_Sign_grow_122 : LoopH := { key := 244, ht := [2, 6, 14, 15, 16], hτ := (fs [(.box (.agg (fs [(.sl (.int .i64))]))), (.own .tree), (.sl (.agg (fs [(.int .i64), (.int .i64), (.sl (.int .i64)), (.sl (.int .i64))]))), (.int .i64), (.int .i64)]), ex := 0, ot := [6], oτ := (fs [(.own .tree)]) }
noncomputable def cd_impl_Sign_grow_122 : Code := Code.part (bodyOf 109) [1, 1, 1, 0, 1, 0, 0]
noncomputable def l_impl_Sign_grow_122 (O : Oracle E1) (a0 : (List Int) × Unit) (a1 : List Tree) (a2 : List (Int × Int × (List Int) × (List Int) × Unit)) (a3 : Int) (a4 : Int) : Option (((List Tree) × Unit) ⊕ ((Tree × Bool × Unit) × (Unit))) := O.L 109 lh_impl_Sign_grow_122 cd_impl_Sign_grow_122 (a0, a1, a2, a3, a4, ())
theorem k0l_impl_Sign_grow_122 (a0 : (List Int) × Unit) (a1 : List Tree) (a2 : List (Int × Int × (List Int) × (List Int) × Unit)) (a3 : Int) (a4 : Int) : Ct E1 (fun O => l_impl_Sign_grow_122 O a0 a1 a2 a3 a4) := by unfold l_impl_Sign_grow_122; exact Ct.L (E := E1) 109 lh_impl_Sign_grow_122 cd_impl_Sign_grow_122 (a0, a1, a2, a3, a4, ())
noncomputable abbrev lh_impl_isPushed_26 : LoopH := { key := 52, ht := [0, 5, 6, 7], hτ := (fs [(.sl (.agg (fs [(.int .i64), (.int .i64), (.sl (.int .i64)), (.sl (.int .i64))]))), (.sl (.agg (fs [(.int .i64), (.int .i64), (.sl (.int .i64)), (.sl (.int .i64))]))), (.int .i64), (.int .i64)]), ex := 0, ot := [], oτ := (fs []) }
noncomputable def cd_impl_isPushed_26 : Code := Code.part (bodyOf 97) [1, 0, 1, 0, 0]
noncomputable def l_impl_isPushed_26 (O : Oracle E1) (a0 : List (Int × Int × (List Int) × (List Int) × Unit)) (a1 : List (Int × Int × (List Int) × (List Int) × Unit)) (a2 : Int) (a3 : Int) : Option ((Unit) ⊕ ((Bool × Unit) × (Unit))) := O.L 97 lh_impl_isPushed_26 cd_impl_isPushed_26 (a0, a1, a2, a3, ())
theorem k0l_impl_isPushed_26 (a0 : List (Int × Int × (List Int) × (List Int) × Unit)) (a1 : List (Int × Int × (List Int) × (List Int) × Unit)) (a2 : Int) (a3 : Int) : Ct E1 (fun O => l_impl_isPushed_26 O a0 a1 a2 a3) := by unfold l_impl_isPushed_26; exact Ct.L (E := E1) 97 lh_impl_isPushed_26 cd_impl_isPushed_26 (a0, a1, a2, a3, ())
end Go.Proofs.YtejklhcalinhpaaIp.Ev
