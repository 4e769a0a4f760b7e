/- A text of its own: Nm; no condition but those that each theorem names. -/
import Derived.Test.YtofkhmedmeihiaaFiEnv
import Derived.Test.YtofkhmedmeihiaaFiEvCl
/- The functions' names, at every oracle: printed by sym.py; no condition. -/
namespace Go.Proofs.YtofkhmedmeihiaaFi.Ev
open Go
set_option maxRecDepth 100000
set_option autoImplicit false
set_option linter.unusedVariables false

noncomputable abbrev M : Oracle E1 := Lm E1
noncomputable def c_laws_szIntS (O : Oracle E1) (a0 : List Int) (a1 : Int) : Option ((Int × Unit) × (Unit)) := O.C 38 (a0, a1, ())
theorem k0_laws_szIntS (a0 : List Int) (a1 : Int) : Ct E1 (fun O => c_laws_szIntS O a0 a1) := by unfold c_laws_szIntS; exact Ct.C (E := E1) 38 (a0, a1, ())
noncomputable def c_laws_szSign (O : Oracle E1) (a0 : (List Int) × Unit) (a1 : Int) : Option ((Int × Unit) × (Unit)) := O.C 9 (a0, a1, ())
theorem k0_laws_szSign (a0 : (List Int) × Unit) (a1 : Int) : Ct E1 (fun O => c_laws_szSign O a0 a1) := by unfold c_laws_szSign; exact Ct.C (E := E1) 9 (a0, a1, ())
noncomputable def c_laws_toIntS (O : Oracle E1) (a0 : List Int) : Option (((List Int) × Unit) × (Unit)) := O.C 42 (a0, ())
theorem k0_laws_toIntS (a0 : List Int) : Ct E1 (fun O => c_laws_toIntS O a0) := by unfold c_laws_toIntS; exact Ct.C (E := E1) 42 (a0, ())
noncomputable def c_laws_toSign (O : Oracle E1) (a0 : (List Int) × Unit) : Option ((((List Int) × Unit) × Unit) × (Unit)) := O.C 11 (a0, ())
theorem k0_laws_toSign (a0 : (List Int) × Unit) : Ct E1 (fun O => c_laws_toSign O a0) := by unfold c_laws_toSign; exact Ct.C (E := E1) 11 (a0, ())
noncomputable def c_laws_eqIntS (O : Oracle E1) (a0 : List Int) (a1 : List Int) : Option ((Bool × Unit) × (Unit)) := O.C 26 (a0, a1, ())
theorem k0_laws_eqIntS (a0 : List Int) (a1 : List Int) : Ct E1 (fun O => c_laws_eqIntS O a0 a1) := by unfold c_laws_eqIntS; exact Ct.C (E := E1) 26 (a0, a1, ())
noncomputable def c_laws_eqSign (O : Oracle E1) (a0 : (List Int) × Unit) (a1 : (List Int) × Unit) : Option ((Bool × Unit) × (Unit)) := O.C 14 (a0, a1, ())
theorem k0_laws_eqSign (a0 : (List Int) × Unit) (a1 : (List Int) × Unit) : Ct E1 (fun O => c_laws_eqSign O a0 a1) := by unfold c_laws_eqSign; exact Ct.C (E := E1) 14 (a0, a1, ())
noncomputable def c_laws_markIntS (O : Oracle E1) (a0 : List Int) (a1 : Int) : Option ((Int × Unit) × ((List Int) × Unit)) := O.C 29 (a0, a1, ())
theorem k0_laws_markIntS (a0 : List Int) (a1 : Int) : Ct E1 (fun O => c_laws_markIntS O a0 a1) := by unfold c_laws_markIntS; exact Ct.C (E := E1) 29 (a0, a1, ())
noncomputable def c_laws_markSign (O : Oracle E1) (a0 : (List Int) × Unit) (a1 : Int) : Option ((Int × Unit) × (((List Int) × Unit) × Unit)) := O.C 15 (a0, a1, ())
theorem k0_laws_markSign (a0 : (List Int) × Unit) (a1 : Int) : Ct E1 (fun O => c_laws_markSign O a0 a1) := by unfold c_laws_markSign; exact Ct.C (E := E1) 15 (a0, a1, ())
noncomputable def c_laws_szForm (O : Oracle E1) (a0 : Int × Int × (List Int) × (List Int) × Unit) (a1 : Int) : Option ((Int × Unit) × (Unit)) := O.C 54 (a0, a1, ())
theorem k0_laws_szForm (a0 : Int × Int × (List Int) × (List Int) × Unit) (a1 : Int) : Ct E1 (fun O => c_laws_szForm O a0 a1) := by unfold c_laws_szForm; exact Ct.C (E := E1) 54 (a0, a1, ())
noncomputable def c_laws_szFormS (O : Oracle E1) (a0 : List (Int × Int × (List Int) × (List Int) × Unit)) (a1 : Int) : Option ((Int × Unit) × (Unit)) := O.C 22 (a0, a1, ())
theorem k0_laws_szFormS (a0 : List (Int × Int × (List Int) × (List Int) × Unit)) (a1 : Int) : Ct E1 (fun O => c_laws_szFormS O a0 a1) := by unfold c_laws_szFormS; exact Ct.C (E := E1) 22 (a0, a1, ())
noncomputable def c_spec_l1In (O : Oracle E1) (a0 : Int) (a1 : Int) (a2 : Int) : Option ((Bool × Unit) × (Unit)) := O.C 40 (a0, a1, a2, ())
theorem k0_spec_l1In (a0 : Int) (a1 : Int) (a2 : Int) : Ct E1 (fun O => c_spec_l1In O a0 a1 a2) := by unfold c_spec_l1In; exact Ct.C (E := E1) 40 (a0, a1, a2, ())
noncomputable def c_spec_l1All (O : Oracle E1) (a0 : List Int) (a1 : Int) (a2 : Int) : Option ((Bool × Unit) × (Unit)) := O.C 71 (a0, a1, a2, ())
theorem k0_spec_l1All (a0 : List Int) (a1 : Int) (a2 : Int) : Ct E1 (fun O => c_spec_l1All O a0 a1 a2) := by unfold c_spec_l1All; exact Ct.C (E := E1) 71 (a0, a1, a2, ())
noncomputable def c_spec_GoodSign (O : Oracle E1) (a0 : (List Int) × Unit) : Option ((Bool × Unit) × (Unit)) := O.C 39 (a0, ())
theorem k0_spec_GoodSign (a0 : (List Int) × Unit) : Ct E1 (fun O => c_spec_GoodSign O a0) := by unfold c_spec_GoodSign; exact Ct.C (E := E1) 39 (a0, ())
noncomputable def c_spec_l14Arity (O : Oracle E1) (a0 : Int) : Option ((Int × Unit) × (Unit)) := O.C 97 (a0, ())
theorem k0_spec_l14Arity (a0 : Int) : Ct E1 (fun O => c_spec_l14Arity O a0) := by unfold c_spec_l14Arity; exact Ct.C (E := E1) 97 (a0, ())
noncomputable def c_spec_l1Put (O : Oracle E1) (a0 : List Int) (a1 : Int) : Option (((List Int) × Unit) × (Unit)) := O.C 91 (a0, a1, ())
theorem k0_spec_l1Put (a0 : List Int) (a1 : Int) : Ct E1 (fun O => c_spec_l1Put O a0 a1) := by unfold c_spec_l1Put; exact Ct.C (E := E1) 91 (a0, a1, ())
noncomputable def c_spec_l1Vars (O : Oracle E1) (a0 : List Int) : Option (((List Int) × Unit) × (Unit)) := O.C 90 (a0, ())
theorem k0_spec_l1Vars (a0 : List Int) : Ct E1 (fun O => c_spec_l1Vars O a0) := by unfold c_spec_l1Vars; exact Ct.C (E := E1) 90 (a0, ())
noncomputable def c_spec_l1End (O : Oracle E1) (a0 : (List Int) × Unit) (a1 : List Int) (a2 : Int) : Option ((Int × Unit) × (Unit)) := O.C 127 (a0, a1, a2, ())
theorem k0_spec_l1End (a0 : (List Int) × Unit) (a1 : List Int) (a2 : Int) : Ct E1 (fun O => c_spec_l1End O a0 a1 a2) := by unfold c_spec_l1End; exact Ct.C (E := E1) 127 (a0, a1, a2, ())
noncomputable def c_spec_l1Term (O : Oracle E1) (a0 : (List Int) × Unit) (a1 : List Int) : Option ((Bool × Unit) × (Unit)) := O.C 114 (a0, a1, ())
theorem k0_spec_l1Term (a0 : (List Int) × Unit) (a1 : List Int) : Ct E1 (fun O => c_spec_l1Term O a0 a1) := by unfold c_spec_l1Term; exact Ct.C (E := E1) 114 (a0, a1, ())
noncomputable def c_spec_l14Node (O : Oracle E1) (a0 : (List Int) × Unit) (a1 : Int × Int × (List Int) × (List Int) × Unit) : Option ((Bool × Unit) × (Unit)) := O.C 98 (a0, a1, ())
theorem k0_spec_l14Node (a0 : (List Int) × Unit) (a1 : Int × Int × (List Int) × (List Int) × Unit) : Ct E1 (fun O => c_spec_l14Node O a0 a1) := by unfold c_spec_l14Node; exact Ct.C (E := E1) 98 (a0, a1, ())
noncomputable def c_spec_l14Form (O : Oracle E1) (a0 : (List Int) × Unit) (a1 : List (Int × Int × (List Int) × (List Int) × Unit)) : Option ((Bool × Unit) × (Unit)) := O.C 62 (a0, a1, ())
theorem k0_spec_l14Form (a0 : (List Int) × Unit) (a1 : List (Int × Int × (List Int) × (List Int) × Unit)) : Ct E1 (fun O => c_spec_l14Form O a0 a1) := by unfold c_spec_l14Form; exact Ct.C (E := E1) 62 (a0, a1, ())
noncomputable def c_spec_GoodForm (O : Oracle E1) (a0 : (List Int) × Unit) (a1 : List (Int × Int × (List Int) × (List Int) × Unit)) : Option ((Bool × Unit) × (Unit)) := O.C 55 (a0, a1, ())
theorem k0_spec_GoodForm (a0 : (List Int) × Unit) (a1 : List (Int × Int × (List Int) × (List Int) × Unit)) : Ct E1 (fun O => c_spec_GoodForm O a0 a1) := by unfold c_spec_GoodForm; exact Ct.C (E := E1) 55 (a0, a1, ())
noncomputable def c_spec_l8Drop (O : Oracle E1) (a0 : List Int) (a1 : Int) : Option (((List Int) × Unit) × (Unit)) := O.C 92 (a0, a1, ())
theorem k0_spec_l8Drop (a0 : List Int) (a1 : Int) : Ct E1 (fun O => c_spec_l8Drop O a0 a1) := by unfold c_spec_l8Drop; exact Ct.C (E := E1) 92 (a0, a1, ())
noncomputable def c_spec_l14First (O : Oracle E1) (a0 : List (Int × Int × (List Int) × (List Int) × Unit)) (a1 : Int) : Option ((Int × Unit) × (Unit)) := O.C 93 (a0, a1, ())
theorem k0_spec_l14First (a0 : List (Int × Int × (List Int) × (List Int) × Unit)) (a1 : Int) : Ct E1 (fun O => c_spec_l14First O a0 a1) := by unfold c_spec_l14First; exact Ct.C (E := E1) 93 (a0, a1, ())
noncomputable def c_spec_l14Free (O : Oracle E1) (a0 : List (Int × Int × (List Int) × (List Int) × Unit)) (a1 : Int) : Option (((List Int) × Unit) × (Unit)) := O.C 56 (a0, a1, ())
theorem k0_spec_l14Free (a0 : List (Int × Int × (List Int) × (List Int) × Unit)) (a1 : Int) : Ct E1 (fun O => c_spec_l14Free O a0 a1) := by unfold c_spec_l14Free; exact Ct.C (E := E1) 56 (a0, a1, ())
noncomputable def c_spec_FreeIn (O : Oracle E1) (a0 : (List Int) × Unit) (a1 : List (Int × Int × (List Int) × (List Int) × Unit)) : Option (((List Int) × Bool × Unit) × (Unit)) := O.C 23 (a0, a1, ())
theorem k0_spec_FreeIn (a0 : (List Int) × Unit) (a1 : List (Int × Int × (List Int) × (List Int) × Unit)) : Ct E1 (fun O => c_spec_FreeIn O a0 a1) := by unfold c_spec_FreeIn; exact Ct.C (E := E1) 23 (a0, a1, ())
noncomputable def c_laws_toForm (O : Oracle E1) (a0 : Int × Int × (List Int) × (List Int) × Unit) : Option (((Int × Int × (List Int) × (List Int) × Unit) × Unit) × (Unit)) := O.C 57 (a0, ())
theorem k0_laws_toForm (a0 : Int × Int × (List Int) × (List Int) × Unit) : Ct E1 (fun O => c_laws_toForm O a0) := by unfold c_laws_toForm; exact Ct.C (E := E1) 57 (a0, ())
noncomputable def c_laws_toFormS (O : Oracle E1) (a0 : List (Int × Int × (List Int) × (List Int) × Unit)) : Option (((List (Int × Int × (List Int) × (List Int) × Unit)) × Unit) × (Unit)) := O.C 24 (a0, ())
theorem k0_laws_toFormS (a0 : List (Int × Int × (List Int) × (List Int) × Unit)) : Ct E1 (fun O => c_laws_toFormS O a0) := by unfold c_laws_toFormS; exact Ct.C (E := E1) 24 (a0, ())
noncomputable def c_impl_GoodSign_1 (O : Oracle E1) (a0 : Int) : Option ((Bool × Unit) × (Unit)) := O.C 75 (a0, ())
theorem k0_impl_GoodSign_1 (a0 : Int) : Ct E1 (fun O => c_impl_GoodSign_1 O a0) := by unfold c_impl_GoodSign_1; exact Ct.C (E := E1) 75 (a0, ())
noncomputable def c_slices_IndexFunc_int_int__impl_GoodSign_1 (O : Oracle E1) (a0 : List Int) (a1 : Unit) : Option ((Int × Unit) × (Unit)) := O.C 4980845 (a0, a1, ())
theorem k0_slices_IndexFunc_int_int__impl_GoodSign_1 (a0 : List Int) (a1 : Unit) : Ct E1 (fun O => c_slices_IndexFunc_int_int__impl_GoodSign_1 O a0 a1) := by unfold c_slices_IndexFunc_int_int__impl_GoodSign_1; exact Ct.C (E := E1) 4980845 (a0, a1, ())
noncomputable def c_slices_ContainsFunc_int_int__impl_GoodSign_1 (O : Oracle E1) (a0 : List Int) (a1 : Unit) : Option ((Bool × Unit) × (Unit)) := O.C 4980810 (a0, a1, ())
theorem k0_slices_ContainsFunc_int_int__impl_GoodSign_1 (a0 : List Int) (a1 : Unit) : Ct E1 (fun O => c_slices_ContainsFunc_int_int__impl_GoodSign_1 O a0 a1) := by unfold c_slices_ContainsFunc_int_int__impl_GoodSign_1; exact Ct.C (E := E1) 4980810 (a0, a1, ())
noncomputable def c_impl_GoodSign (O : Oracle E1) (a0 : (List Int) × Unit) : Option ((Bool × Unit) × (Unit)) := O.C 43 (a0, ())
theorem k0_impl_GoodSign (a0 : (List Int) × Unit) : Ct E1 (fun O => c_impl_GoodSign O a0) := by unfold c_impl_GoodSign; exact Ct.C (E := E1) 43 (a0, ())
noncomputable def c_impl_Sign_args (O : Oracle E1) (a0 : (List Int) × Unit) (a1 : Int) : Option ((Int × Unit) × (Unit)) := O.C 126 (a0, a1, ())
theorem k0_impl_Sign_args (a0 : (List Int) × Unit) (a1 : Int) : Ct E1 (fun O => c_impl_Sign_args O a0 a1) := by unfold c_impl_Sign_args; exact Ct.C (E := E1) 126 (a0, a1, ())
noncomputable def c_impl_Sign_isTerm (O : Oracle E1) (a0 : (List Int) × Unit) (a1 : List Int) : Option ((Bool × Unit) × (Unit)) := O.C 113 (a0, a1, ())
theorem k0_impl_Sign_isTerm (a0 : (List Int) × Unit) (a1 : List Int) : Ct E1 (fun O => c_impl_Sign_isTerm O a0 a1) := by unfold c_impl_Sign_isTerm; exact Ct.C (E := E1) 113 (a0, a1, ())
noncomputable def c_impl_Sign_isBound_1 (O : Oracle E1) (a0 : Int) : Option ((Bool × Unit) × (Unit)) := O.C 131 (a0, ())
theorem k0_impl_Sign_isBound_1 (a0 : Int) : Ct E1 (fun O => c_impl_Sign_isBound_1 O a0) := by unfold c_impl_Sign_isBound_1; exact Ct.C (E := E1) 131 (a0, ())
noncomputable def c_slices_IndexFunc_int_int__impl_Sign_isBound_1 (O : Oracle E1) (a0 : List Int) (a1 : Unit) : Option ((Int × Unit) × (Unit)) := O.C 8650861 (a0, a1, ())
theorem k0_slices_IndexFunc_int_int__impl_Sign_isBound_1 (a0 : List Int) (a1 : Unit) : Ct E1 (fun O => c_slices_IndexFunc_int_int__impl_Sign_isBound_1 O a0 a1) := by unfold c_slices_IndexFunc_int_int__impl_Sign_isBound_1; exact Ct.C (E := E1) 8650861 (a0, a1, ())
noncomputable def c_slices_ContainsFunc_int_int__impl_Sign_isBound_1 (O : Oracle E1) (a0 : List Int) (a1 : Unit) : Option ((Bool × Unit) × (Unit)) := O.C 8650826 (a0, a1, ())
theorem k0_slices_ContainsFunc_int_int__impl_Sign_isBound_1 (a0 : List Int) (a1 : Unit) : Ct E1 (fun O => c_slices_ContainsFunc_int_int__impl_Sign_isBound_1 O a0 a1) := by unfold c_slices_ContainsFunc_int_int__impl_Sign_isBound_1; exact Ct.C (E := E1) 8650826 (a0, a1, ())
noncomputable def c_impl_Sign_isBound (O : Oracle E1) (a0 : (List Int) × Unit) (a1 : List Int) : Option ((Bool × Unit) × (Unit)) := O.C 130 (a0, a1, ())
theorem k0_impl_Sign_isBound (a0 : (List Int) × Unit) (a1 : List Int) : Ct E1 (fun O => c_impl_Sign_isBound O a0 a1) := by unfold c_impl_Sign_isBound; exact Ct.C (E := E1) 130 (a0, a1, ())
noncomputable def c_impl_Sign_isNode (O : Oracle E1) (a0 : (List Int) × Unit) (a1 : Int × Int × (List Int) × (List Int) × Unit) : Option ((Bool × Unit) × (Unit)) := O.C 121 (a0, a1, ())
theorem k0_impl_Sign_isNode (a0 : (List Int) × Unit) (a1 : Int × Int × (List Int) × (List Int) × Unit) : Ct E1 (fun O => c_impl_Sign_isNode O a0 a1) := by unfold c_impl_Sign_isNode; exact Ct.C (E := E1) 121 (a0, a1, ())
noncomputable def c_impl_Form_operands (O : Oracle E1) (a0 : Int × Int × (List Int) × (List Int) × Unit) : Option ((Int × Unit) × (Unit)) := O.C 122 (a0, ())
theorem k0_impl_Form_operands (a0 : Int × Int × (List Int) × (List Int) × Unit) : Ct E1 (fun O => c_impl_Form_operands O a0) := by unfold c_impl_Form_operands; exact Ct.C (E := E1) 122 (a0, ())
noncomputable def c_impl_Sign_grow (O : Oracle E1) (a0 : (List Int) × Unit) (a1 : List (Int × Int × (List Int) × (List Int) × Unit)) : Option ((Tree × Bool × Unit) × (Unit)) := O.C 94 (a0, a1, ())
theorem k0_impl_Sign_grow (a0 : (List Int) × Unit) (a1 : List (Int × Int × (List Int) × (List Int) × Unit)) : Ct E1 (fun O => c_impl_Sign_grow O a0 a1) := by unfold c_impl_Sign_grow; exact Ct.C (E := E1) 94 (a0, a1, ())
noncomputable def c_impl_formula (O : Oracle E1) (a0 : (List Int) × Unit) (a1 : List (Int × Int × (List Int) × (List Int) × Unit)) : Option ((Tree × Bool × Unit) × (Unit)) := O.C 58 (a0, a1, ())
theorem k0_impl_formula (a0 : (List Int) × Unit) (a1 : List (Int × Int × (List Int) × (List Int) × Unit)) : Ct E1 (fun O => c_impl_formula O a0 a1) := by unfold c_impl_formula; exact Ct.C (E := E1) 58 (a0, a1, ())
noncomputable def c_slices_Index_int_int (O : Oracle E1) (a0 : List Int) (a1 : Int) : Option ((Int × Unit) × (Unit)) := O.C 129 (a0, a1, ())
theorem k0_slices_Index_int_int (a0 : List Int) (a1 : Int) : Ct E1 (fun O => c_slices_Index_int_int O a0 a1) := by unfold c_slices_Index_int_int; exact Ct.C (E := E1) 129 (a0, a1, ())
noncomputable def c_slices_Contains_int_int (O : Oracle E1) (a0 : List Int) (a1 : Int) : Option ((Bool × Unit) × (Unit)) := O.C 118 (a0, a1, ())
theorem k0_slices_Contains_int_int (a0 : List Int) (a1 : Int) : Ct E1 (fun O => c_slices_Contains_int_int O a0 a1) := by unfold c_slices_Contains_int_int; exact Ct.C (E := E1) 118 (a0, a1, ())
noncomputable def c_impl_varsIn_1 (O : Oracle E1) (a0 : List Int) (a1 : Int) : Option ((Bool × Unit) × (Unit)) := O.C 117 (a0, a1, ())
theorem k0_impl_varsIn_1 (a0 : List Int) (a1 : Int) : Ct E1 (fun O => c_impl_varsIn_1 O a0 a1) := by unfold c_impl_varsIn_1; exact Ct.C (E := E1) 117 (a0, a1, ())
noncomputable def c_slices_IndexFunc_SS_int_int__impl_varsIn_1 (O : Oracle E1) (a0 : List (List Int)) (a1 : Int × Unit) : Option ((Int × Unit) × (Unit)) := O.C 7733376 (a0, a1, ())
theorem k0_slices_IndexFunc_SS_int_int__impl_varsIn_1 (a0 : List (List Int)) (a1 : Int × Unit) : Ct E1 (fun O => c_slices_IndexFunc_SS_int_int__impl_varsIn_1 O a0 a1) := by unfold c_slices_IndexFunc_SS_int_int__impl_varsIn_1; exact Ct.C (E := E1) 7733376 (a0, a1, ())
noncomputable def c_slices_ContainsFunc_SS_int_int__impl_varsIn_1 (O : Oracle E1) (a0 : List (List Int)) (a1 : Int × Unit) : Option ((Bool × Unit) × (Unit)) := O.C 7733364 (a0, a1, ())
theorem k0_slices_ContainsFunc_SS_int_int__impl_varsIn_1 (a0 : List (List Int)) (a1 : Int × Unit) : Ct E1 (fun O => c_slices_ContainsFunc_SS_int_int__impl_varsIn_1 O a0 a1) := by unfold c_slices_ContainsFunc_SS_int_int__impl_varsIn_1; exact Ct.C (E := E1) 7733364 (a0, a1, ())
noncomputable def c_impl_varsIn (O : Oracle E1) (a0 : List (List Int)) : Option (((List Int) × Unit) × (Unit)) := O.C 85 (a0, ())
theorem k0_impl_varsIn (a0 : List (List Int)) : Ct E1 (fun O => c_impl_varsIn O a0) := by unfold c_impl_varsIn; exact Ct.C (E := E1) 85 (a0, ())
noncomputable def c_impl_tree_free (O : Oracle E1) (a0 : Tree) (a1 : List (Int × Bool)) (a2 : List Int) : Option ((Unit) × ((List (Int × Bool)) × Unit)) := O.C 95 (a0, a1, a2, ())
theorem k0_impl_tree_free (a0 : Tree) (a1 : List (Int × Bool)) (a2 : List Int) : Ct E1 (fun O => c_impl_tree_free O a0 a1 a2) := by unfold c_impl_tree_free; exact Ct.C (E := E1) 95 (a0, a1, a2, ())
noncomputable def c_impl_tree_freeIn (O : Oracle E1) (a0 : Tree) : Option (((List Int) × Unit) × (Unit)) := O.C 59 (a0, ())
theorem k0_impl_tree_freeIn (a0 : Tree) : Ct E1 (fun O => c_impl_tree_freeIn O a0) := by unfold c_impl_tree_freeIn; exact Ct.C (E := E1) 59 (a0, ())
noncomputable def c_impl_FreeIn (O : Oracle E1) (a0 : (List Int) × Unit) (a1 : List (Int × Int × (List Int) × (List Int) × Unit)) : Option (((List Int) × Bool × Unit) × (Unit)) := O.C 25 (a0, a1, ())
theorem k0_impl_FreeIn (a0 : (List Int) × Unit) (a1 : List (Int × Int × (List Int) × (List Int) × Unit)) : Ct E1 (fun O => c_impl_FreeIn O a0 a1) := by unfold c_impl_FreeIn; exact Ct.C (E := E1) 25 (a0, a1, ())
noncomputable def c_laws_eqForm (O : Oracle E1) (a0 : Int × Int × (List Int) × (List Int) × Unit) (a1 : Int × Int × (List Int) × (List Int) × Unit) : Option ((Bool × Unit) × (Unit)) := O.C 60 (a0, a1, ())
theorem k0_laws_eqForm (a0 : Int × Int × (List Int) × (List Int) × Unit) (a1 : Int × Int × (List Int) × (List Int) × Unit) : Ct E1 (fun O => c_laws_eqForm O a0 a1) := by unfold c_laws_eqForm; exact Ct.C (E := E1) 60 (a0, a1, ())
noncomputable def c_laws_eqFormS (O : Oracle E1) (a0 : List (Int × Int × (List Int) × (List Int) × Unit)) (a1 : List (Int × Int × (List Int) × (List Int) × Unit)) : Option ((Bool × Unit) × (Unit)) := O.C 27 (a0, a1, ())
theorem k0_laws_eqFormS (a0 : List (Int × Int × (List Int) × (List Int) × Unit)) (a1 : List (Int × Int × (List Int) × (List Int) × Unit)) : Ct E1 (fun O => c_laws_eqFormS O a0 a1) := by unfold c_laws_eqFormS; exact Ct.C (E := E1) 27 (a0, a1, ())
noncomputable def c_laws_markFormS (O : Oracle E1) (a0 : List (Int × Int × (List Int) × (List Int) × Unit)) (a1 : Int) : Option ((Int × Unit) × ((List (Int × Int × (List Int) × (List Int) × Unit)) × Unit)) := O.C 28 (a0, a1, ())
theorem k0_laws_markFormS (a0 : List (Int × Int × (List Int) × (List Int) × Unit)) (a1 : Int) : Ct E1 (fun O => c_laws_markFormS O a0 a1) := by unfold c_laws_markFormS; exact Ct.C (E := E1) 28 (a0, a1, ())
noncomputable def c_laws_heldIntS (O : Oracle E1) (a0 : List Int) (a1 : Int) : Option ((Int × Unit) × (Unit)) := O.C 30 (a0, a1, ())
theorem k0_laws_heldIntS (a0 : List Int) (a1 : Int) : Ct E1 (fun O => c_laws_heldIntS O a0 a1) := by unfold c_laws_heldIntS; exact Ct.C (E := E1) 30 (a0, a1, ())
noncomputable def c_laws_FnExactFreeIn (O : Oracle E1) (a0 : (List Int) × Unit) (a1 : List (Int × Int × (List Int) × (List Int) × Unit)) : Option ((Bool × Unit) × (Unit)) := O.C 5 (a0, a1, ())
theorem k0_laws_FnExactFreeIn (a0 : (List Int) × Unit) (a1 : List (Int × Int × (List Int) × (List Int) × Unit)) : Ct E1 (fun O => c_laws_FnExactFreeIn O a0 a1) := by unfold c_laws_FnExactFreeIn; exact Ct.C (E := E1) 5 (a0, a1, ())
noncomputable abbrev lh_laws_toIntS_58 : LoopH := { key := 116, ht := [0, 3, 4], hτ := (fs [(.sl (.int .i64)), (.own (.int .i64)), (.int .i64)]), ex := 0, ot := [3], oτ := (fs [(.own (.int .i64))]) }
noncomputable def cd_laws_toIntS_58 : Code := Code.part (bodyOf 42) [1, 1, 0, 1, 0, 0]
noncomputable def l_laws_toIntS_58 (O : Oracle E1) (a0 : List Int) (a1 : List Int) (a2 : Int) : Option (((List Int) × Unit) ⊕ (((List Int) × Unit) × (Unit))) := O.L 42 lh_laws_toIntS_58 cd_laws_toIntS_58 (a0, a1, a2, ())
theorem k0l_laws_toIntS_58 (a0 : List Int) (a1 : List Int) (a2 : Int) : Ct E1 (fun O => l_laws_toIntS_58 O a0 a1 a2) := by unfold l_laws_toIntS_58; exact Ct.L (E := E1) 42 lh_laws_toIntS_58 cd_laws_toIntS_58 (a0, a1, a2, ())
noncomputable abbrev lh_laws_eqIntS_58 : LoopH := { key := 116, ht := [0, 1, 5], hτ := (fs [(.sl (.int .i64)), (.sl (.int .i64)), (.int .i64)]), ex := 0, ot := [], oτ := (fs []) }
noncomputable def cd_laws_eqIntS_58 : Code := Code.part (bodyOf 26) [1, 1, 0, 1, 0, 0]
noncomputable def l_laws_eqIntS_58 (O : Oracle E1) (a0 : List Int) (a1 : List Int) (a2 : Int) : Option ((Unit) ⊕ ((Bool × Unit) × (Unit))) := O.L 26 lh_laws_eqIntS_58 cd_laws_eqIntS_58 (a0, a1, a2, ())
theorem k0l_laws_eqIntS_58 (a0 : List Int) (a1 : List Int) (a2 : Int) : Ct E1 (fun O => l_laws_eqIntS_58 O a0 a1 a2) := by unfold l_laws_eqIntS_58; exact Ct.L (E := E1) 26 lh_laws_eqIntS_58 cd_laws_eqIntS_58 (a0, a1, a2, ())
noncomputable abbrev lh_laws_markIntS_26 : LoopH := { key := 52, ht := [0, 1, 5], hτ := (fs [(.own (.int .i64)), (.int .i64), (.int .i64)]), ex := 0, ot := [0, 1], oτ := (fs [(.own (.int .i64)), (.int .i64)]) }
noncomputable def cd_laws_markIntS_26 : Code := Code.part (bodyOf 29) [1, 0, 1, 0, 0]
noncomputable def l_laws_markIntS_26 (O : Oracle E1) (a0 : List Int) (a1 : Int) (a2 : Int) : Option (((List Int) × Int × Unit) ⊕ ((Int × Unit) × ((List Int) × Unit))) := O.L 29 lh_laws_markIntS_26 cd_laws_markIntS_26 (a0, a1, a2, ())
theorem k0l_laws_markIntS_26 (a0 : List Int) (a1 : Int) (a2 : Int) : Ct E1 (fun O => l_laws_markIntS_26 O a0 a1 a2) := by unfold l_laws_markIntS_26; exact Ct.L (E := E1) 29 lh_laws_markIntS_26 cd_laws_markIntS_26 (a0, a1, a2, ())
noncomputable abbrev lh_laws_szFormS_122 : LoopH := { key := 244, ht := [0, 1, 5], hτ := (fs [(.sl (.agg (fs [(.int .i64), (.int .i64), (.sl (.int .i64)), (.sl (.int .i64))]))), (.int .i64), (.int .i64)]), ex := 0, ot := [1], oτ := (fs [(.int .i64)]) }
noncomputable def cd_laws_szFormS_122 : Code := Code.part (bodyOf 22) [1, 1, 1, 0, 1, 0, 0]
noncomputable def l_laws_szFormS_122 (O : Oracle E1) (a0 : List (Int × Int × (List Int) × (List Int) × Unit)) (a1 : Int) (a2 : Int) : Option ((Int × Unit) ⊕ ((Int × Unit) × (Unit))) := O.L 22 lh_laws_szFormS_122 cd_laws_szFormS_122 (a0, a1, a2, ())
theorem k0l_laws_szFormS_122 (a0 : List (Int × Int × (List Int) × (List Int) × Unit)) (a1 : Int) (a2 : Int) : Ct E1 (fun O => l_laws_szFormS_122 O a0 a1 a2) := by unfold l_laws_szFormS_122; exact Ct.L (E := E1) 22 lh_laws_szFormS_122 cd_laws_szFormS_122 (a0, a1, a2, ())
noncomputable abbrev lh_spec_l1All_26 : LoopH := { key := 52, ht := [1, 2, 9, 10, 11], hτ := (fs [(.int .i64), (.int .i64), (.sl (.int .i64)), (.int .i64), (.int .i64)]), ex := 0, ot := [], oτ := (fs []) }
noncomputable def cd_spec_l1All_26 : Code := Code.part (bodyOf 71) [1, 0, 1, 0, 0]
noncomputable def l_spec_l1All_26 (O : Oracle E1) (a0 : Int) (a1 : Int) (a2 : List Int) (a3 : Int) (a4 : Int) : Option ((Unit) ⊕ ((Bool × Unit) × (Unit))) := O.L 71 lh_spec_l1All_26 cd_spec_l1All_26 (a0, a1, a2, a3, a4, ())
theorem k0l_spec_l1All_26 (a0 : Int) (a1 : Int) (a2 : List Int) (a3 : Int) (a4 : Int) : Ct E1 (fun O => l_spec_l1All_26 O a0 a1 a2 a3 a4) := by unfold l_spec_l1All_26; exact Ct.L (E := E1) 71 lh_spec_l1All_26 cd_spec_l1All_26 (a0, a1, a2, a3, a4, ())
noncomputable abbrev lh_spec_l1Put_28 : LoopH := { key := 56, ht := [0, 1, 5], hτ := (fs [(.own (.int .i64)), (.int .i64), (.int .i64)]), ex := 0, ot := [0, 1, 5], oτ := (fs [(.own (.int .i64)), (.int .i64), (.int .i64)]) }
noncomputable def cd_spec_l1Put_28 : Code := Code.part (bodyOf 91) [1, 1, 0, 0, 0]
noncomputable def l_spec_l1Put_28 (O : Oracle E1) (a0 : List Int) (a1 : Int) (a2 : Int) : Option (((List Int) × Int × Int × Unit) ⊕ (((List Int) × Unit) × (Unit))) := O.L 91 lh_spec_l1Put_28 cd_spec_l1Put_28 (a0, a1, a2, ())
theorem k0l_spec_l1Put_28 (a0 : List Int) (a1 : Int) (a2 : Int) : Ct E1 (fun O => l_spec_l1Put_28 O a0 a1 a2) := by unfold l_spec_l1Put_28; exact Ct.L (E := E1) 91 lh_spec_l1Put_28 cd_spec_l1Put_28 (a0, a1, a2, ())
noncomputable abbrev lh_spec_l1Vars_58 : LoopH := { key := 116, ht := [3, 6, 7, 8], hτ := (fs [(.own (.int .i64)), (.sl (.int .i64)), (.int .i64), (.int .i64)]), ex := 0, ot := [3], oτ := (fs [(.own (.int .i64))]) }
noncomputable def cd_spec_l1Vars_58 : Code := Code.part (bodyOf 90) [1, 1, 0, 1, 0, 0]
noncomputable def l_spec_l1Vars_58 (O : Oracle E1) (a0 : List Int) (a1 : List Int) (a2 : Int) (a3 : Int) : Option (((List Int) × Unit) ⊕ (((List Int) × Unit) × (Unit))) := O.L 90 lh_spec_l1Vars_58 cd_spec_l1Vars_58 (a0, a1, a2, a3, ())
theorem k0l_spec_l1Vars_58 (a0 : List Int) (a1 : List Int) (a2 : Int) (a3 : Int) : Ct E1 (fun O => l_spec_l1Vars_58 O a0 a1 a2 a3) := by unfold l_spec_l1Vars_58; exact Ct.L (E := E1) 90 lh_spec_l1Vars_58 cd_spec_l1Vars_58 (a0, a1, a2, a3, ())
noncomputable abbrev lh_spec_l1End_28 : LoopH := { key := 56, ht := [1, 2, 3, 7], hτ := (fs [(.sl (.int .i64)), (.int .i64), (.box (.agg (fs [(.sl (.int .i64))]))), (.int .i64)]), ex := 0, ot := [2], oτ := (fs [(.int .i64)]) }
noncomputable def cd_spec_l1End_28 : Code := Code.part (bodyOf 127) [1, 1, 0, 0, 0]
noncomputable def l_spec_l1End_28 (O : Oracle E1) (a0 : List Int) (a1 : Int) (a2 : (List Int) × Unit) (a3 : Int) : Option ((Int × Unit) ⊕ ((Int × Unit) × (Unit))) := O.L 127 lh_spec_l1End_28 cd_spec_l1End_28 (a0, a1, a2, a3, ())
theorem k0l_spec_l1End_28 (a0 : List Int) (a1 : Int) (a2 : (List Int) × Unit) (a3 : Int) : Ct E1 (fun O => l_spec_l1End_28 O a0 a1 a2 a3) := by unfold l_spec_l1End_28; exact Ct.L (E := E1) 127 lh_spec_l1End_28 cd_spec_l1End_28 (a0, a1, a2, a3, ())
noncomputable abbrev lh_spec_l14Form_122 : LoopH := { key := 244, ht := [2, 5, 12, 13, 14], hτ := (fs [(.box (.agg (fs [(.sl (.int .i64))]))), (.int .i64), (.sl (.agg (fs [(.int .i64), (.int .i64), (.sl (.int .i64)), (.sl (.int .i64))]))), (.int .i64), (.int .i64)]), ex := 0, ot := [5], oτ := (fs [(.int .i64)]) }
noncomputable def cd_spec_l14Form_122 : Code := Code.part (bodyOf 62) [1, 1, 1, 0, 1, 0, 0]
noncomputable def l_spec_l14Form_122 (O : Oracle E1) (a0 : (List Int) × Unit) (a1 : Int) (a2 : List (Int × Int × (List Int) × (List Int) × Unit)) (a3 : Int) (a4 : Int) : Option ((Int × Unit) ⊕ ((Bool × Unit) × (Unit))) := O.L 62 lh_spec_l14Form_122 cd_spec_l14Form_122 (a0, a1, a2, a3, a4, ())
theorem k0l_spec_l14Form_122 (a0 : (List Int) × Unit) (a1 : Int) (a2 : List (Int × Int × (List Int) × (List Int) × Unit)) (a3 : Int) (a4 : Int) : Ct E1 (fun O => l_spec_l14Form_122 O a0 a1 a2 a3 a4) := by unfold l_spec_l14Form_122; exact Ct.L (E := E1) 62 lh_spec_l14Form_122 cd_spec_l14Form_122 (a0, a1, a2, a3, a4, ())
noncomputable abbrev lh_spec_l8Drop_58 : LoopH := { key := 116, ht := [1, 5, 8, 9, 10], hτ := (fs [(.int .i64), (.own (.int .i64)), (.sl (.int .i64)), (.int .i64), (.int .i64)]), ex := 0, ot := [5], oτ := (fs [(.own (.int .i64))]) }
noncomputable def cd_spec_l8Drop_58 : Code := Code.part (bodyOf 92) [1, 1, 0, 1, 0, 0]
noncomputable def l_spec_l8Drop_58 (O : Oracle E1) (a0 : Int) (a1 : List Int) (a2 : List Int) (a3 : Int) (a4 : Int) : Option (((List Int) × Unit) ⊕ (((List Int) × Unit) × (Unit))) := O.L 92 lh_spec_l8Drop_58 cd_spec_l8Drop_58 (a0, a1, a2, a3, a4, ())
theorem k0l_spec_l8Drop_58 (a0 : Int) (a1 : List Int) (a2 : List Int) (a3 : Int) (a4 : Int) : Ct E1 (fun O => l_spec_l8Drop_58 O a0 a1 a2 a3 a4) := by unfold l_spec_l8Drop_58; exact Ct.L (E := E1) 92 lh_spec_l8Drop_58 cd_spec_l8Drop_58 (a0, a1, a2, a3, a4, ())
noncomputable abbrev lh_spec_l14First_60 : LoopH := { key := 120, ht := [0, 5, 6], hτ := (fs [(.sl (.agg (fs [(.int .i64), (.int .i64), (.sl (.int .i64)), (.sl (.int .i64))]))), (.int .i64), (.int .i64)]), ex := 0, ot := [6], oτ := (fs [(.int .i64)]) }
noncomputable def cd_spec_l14First_60 : Code := Code.part (bodyOf 93) [1, 1, 1, 0, 0, 0]
noncomputable def l_spec_l14First_60 (O : Oracle E1) (a0 : List (Int × Int × (List Int) × (List Int) × Unit)) (a1 : Int) (a2 : Int) : Option ((Int × Unit) ⊕ ((Int × Unit) × (Unit))) := O.L 93 lh_spec_l14First_60 cd_spec_l14First_60 (a0, a1, a2, ())
theorem k0l_spec_l14First_60 (a0 : List (Int × Int × (List Int) × (List Int) × Unit)) (a1 : Int) (a2 : Int) : Ct E1 (fun O => l_spec_l14First_60 O a0 a1 a2) := by unfold l_spec_l14First_60; exact Ct.L (E := E1) 93 lh_spec_l14First_60 cd_spec_l14First_60 (a0, a1, a2, ())
noncomputable abbrev lh_spec_l14Free_250 : LoopH := { key := 500, ht := [9, 61, 62, 63], hτ := (fs [(.own (.int .i64)), (.own (.int .i64)), (.int .i64), (.int .i64)]), ex := 3, ot := [9], oτ := (fs [(.own (.int .i64))]) }
noncomputable def cd_spec_l14Free_250 : Code := Code.part (bodyOf 56) [1, 1, 1, 1, 0, 1, 0, 0]
noncomputable def l_spec_l14Free_250 (O : Oracle E1) (a0 : List Int) (a1 : List Int) (a2 : Int) (a3 : Int) : Option (((List Int) × Unit) ⊕ (((List Int) × Unit) × (Unit))) := O.L 56 lh_spec_l14Free_250 cd_spec_l14Free_250 (a0, a1, a2, a3, ())
theorem k0l_spec_l14Free_250 (a0 : List Int) (a1 : List Int) (a2 : Int) (a3 : Int) : Ct E1 (fun O => l_spec_l14Free_250 O a0 a1 a2 a3) := by unfold l_spec_l14Free_250; exact Ct.L (E := E1) 56 lh_spec_l14Free_250 cd_spec_l14Free_250 (a0, a1, a2, a3, ())
noncomputable abbrev lh_spec_l14Free_3754 : LoopH := { key := 7508, ht := [6, 26, 27, 28], hτ := (fs [(.own (.int .i64)), (.own (.int .i64)), (.int .i64), (.int .i64)]), ex := 1, ot := [6], oτ := (fs [(.own (.int .i64))]) }
noncomputable def cd_spec_l14Free_3754 : Code := Code.part (bodyOf 56) [1, 1, 0, 1, 0, 1, 0, 1, 0, 1, 0, 0]
noncomputable def l_spec_l14Free_3754 (O : Oracle E1) (a0 : List Int) (a1 : List Int) (a2 : Int) (a3 : Int) : Option (((List Int) × Unit) ⊕ (((List Int) × Unit) × (Unit))) := O.L 56 lh_spec_l14Free_3754 cd_spec_l14Free_3754 (a0, a1, a2, a3, ())
theorem k0l_spec_l14Free_3754 (a0 : List Int) (a1 : List Int) (a2 : Int) (a3 : Int) : Ct E1 (fun O => l_spec_l14Free_3754 O a0 a1 a2 a3) := by unfold l_spec_l14Free_3754; exact Ct.L (E := E1) 56 lh_spec_l14Free_3754 cd_spec_l14Free_3754 (a0, a1, a2, a3, ())
noncomputable abbrev lh_laws_toFormS_58 : LoopH := { key := 116, ht := [0, 3, 4], hτ := (fs [(.sl (.agg (fs [(.int .i64), (.int .i64), (.sl (.int .i64)), (.sl (.int .i64))]))), (.own (.agg (fs [(.int .i64), (.int .i64), (.own (.int .i64)), (.own (.int .i64))]))), (.int .i64)]), ex := 0, ot := [3], oτ := (fs [(.own (.agg (fs [(.int .i64), (.int .i64), (.own (.int .i64)), (.own (.int .i64))])))]) }
noncomputable def cd_laws_toFormS_58 : Code := Code.part (bodyOf 24) [1, 1, 0, 1, 0, 0]
noncomputable def l_laws_toFormS_58 (O : Oracle E1) (a0 : List (Int × Int × (List Int) × (List Int) × Unit)) (a1 : List (Int × Int × (List Int) × (List Int) × Unit)) (a2 : Int) : Option (((List (Int × Int × (List Int) × (List Int) × Unit)) × Unit) ⊕ (((List (Int × Int × (List Int) × (List Int) × Unit)) × Unit) × (Unit))) := O.L 24 lh_laws_toFormS_58 cd_laws_toFormS_58 (a0, a1, a2, ())
theorem k0l_laws_toFormS_58 (a0 : List (Int × Int × (List Int) × (List Int) × Unit)) (a1 : List (Int × Int × (List Int) × (List Int) × Unit)) (a2 : Int) : Ct E1 (fun O => l_laws_toFormS_58 O a0 a1 a2) := by unfold l_laws_toFormS_58; exact Ct.L (E := E1) 24 lh_laws_toFormS_58 cd_laws_toFormS_58 (a0, a1, a2, ())
noncomputable abbrev lh_slices_IndexFunc_int_int__impl_GoodSign_1_26 : LoopH := { key := 52, ht := [0, 1, 7, 8], hτ := (fs [(.sl (.int .i64)), (.fn 75 (fs [])), (.int .i64), (.int .i64)]), ex := 0, ot := [], oτ := (fs []) }
noncomputable def cd_slices_IndexFunc_int_int__impl_GoodSign_1_26 : Code := Code.part (bodyOf 109) [1, 0, 1, 0, 0]
noncomputable def l_slices_IndexFunc_int_int__impl_GoodSign_1_26 (O : Oracle E1) (a0 : List Int) (a1 : Unit) (a2 : Int) (a3 : Int) : Option ((Unit) ⊕ ((Int × Unit) × (Unit))) := O.L 4980845 lh_slices_IndexFunc_int_int__impl_GoodSign_1_26 cd_slices_IndexFunc_int_int__impl_GoodSign_1_26 (a0, a1, a2, a3, ())
theorem k0l_slices_IndexFunc_int_int__impl_GoodSign_1_26 (a0 : List Int) (a1 : Unit) (a2 : Int) (a3 : Int) : Ct E1 (fun O => l_slices_IndexFunc_int_int__impl_GoodSign_1_26 O a0 a1 a2 a3) := by unfold l_slices_IndexFunc_int_int__impl_GoodSign_1_26; exact Ct.L (E := E1) 4980845 lh_slices_IndexFunc_int_int__impl_GoodSign_1_26 cd_slices_IndexFunc_int_int__impl_GoodSign_1_26 (a0, a1, a2, a3, ())
noncomputable abbrev lh_impl_Sign_isTerm_122 : LoopH := { key := 244, ht := [2, 5, 11, 12, 13], hτ := (fs [(.box (.agg (fs [(.sl (.int .i64))]))), (.int .i64), (.sl (.int .i64)), (.int .i64), (.int .i64)]), ex := 0, ot := [5], oτ := (fs [(.int .i64)]) }
noncomputable def cd_impl_Sign_isTerm_122 : Code := Code.part (bodyOf 113) [1, 1, 1, 0, 1, 0, 0]
noncomputable def l_impl_Sign_isTerm_122 (O : Oracle E1) (a0 : (List Int) × Unit) (a1 : Int) (a2 : List Int) (a3 : Int) (a4 : Int) : Option ((Int × Unit) ⊕ ((Bool × Unit) × (Unit))) := O.L 113 lh_impl_Sign_isTerm_122 cd_impl_Sign_isTerm_122 (a0, a1, a2, a3, a4, ())
theorem k0l_impl_Sign_isTerm_122 (a0 : (List Int) × Unit) (a1 : Int) (a2 : List Int) (a3 : Int) (a4 : Int) : Ct E1 (fun O => l_impl_Sign_isTerm_122 O a0 a1 a2 a3 a4) := by unfold l_impl_Sign_isTerm_122; exact Ct.L (E := E1) 113 lh_impl_Sign_isTerm_122 cd_impl_Sign_isTerm_122 (a0, a1, a2, a3, a4, ())
noncomputable abbrev lh_slices_IndexFunc_int_int__impl_Sign_isBound_1_26 : LoopH := { key := 52, ht := [0, 1, 7, 8], hτ := (fs [(.sl (.int .i64)), (.fn 131 (fs [])), (.int .i64), (.int .i64)]), ex := 0, ot := [], oτ := (fs []) }
noncomputable def cd_slices_IndexFunc_int_int__impl_Sign_isBound_1_26 : Code := Code.part (bodyOf 109) [1, 0, 1, 0, 0]
noncomputable def l_slices_IndexFunc_int_int__impl_Sign_isBound_1_26 (O : Oracle E1) (a0 : List Int) (a1 : Unit) (a2 : Int) (a3 : Int) : Option ((Unit) ⊕ ((Int × Unit) × (Unit))) := O.L 8650861 lh_slices_IndexFunc_int_int__impl_Sign_isBound_1_26 cd_slices_IndexFunc_int_int__impl_Sign_isBound_1_26 (a0, a1, a2, a3, ())
theorem k0l_slices_IndexFunc_int_int__impl_Sign_isBound_1_26 (a0 : List Int) (a1 : Unit) (a2 : Int) (a3 : Int) : Ct E1 (fun O => l_slices_IndexFunc_int_int__impl_Sign_isBound_1_26 O a0 a1 a2 a3) := by unfold l_slices_IndexFunc_int_int__impl_Sign_isBound_1_26; exact Ct.L (E := E1) 8650861 lh_slices_IndexFunc_int_int__impl_Sign_isBound_1_26 cd_slices_IndexFunc_int_int__impl_Sign_isBound_1_26 (a0, a1, a2, a3, ())
noncomputable abbrev lh_impl_Sign_grow_122 : LoopH := { key := 244, ht := [2, 6, 14, 15, 16], hτ := (fs [(.box (.agg (fs [(.sl (.int .i64))]))), (.own .tree), (.sl (.agg (fs [(.int .i64), (.int .i64), (.sl (.int .i64)), (.sl (.int .i64))]))), (.int .i64), (.int .i64)]), ex := 0, ot := [6], oτ := (fs [(.own .tree)]) }
noncomputable def cd_impl_Sign_grow_122 : Code := Code.part (bodyOf 94) [1, 1, 1, 0, 1, 0, 0]
noncomputable def l_impl_Sign_grow_122 (O : Oracle E1) (a0 : (List Int) × Unit) (a1 : List Tree) (a2 : List (Int × Int × (List Int) × (List Int) × Unit)) (a3 : Int) (a4 : Int) : Option (((List Tree) × Unit) ⊕ ((Tree × Bool × Unit) × (Unit))) := O.L 94 lh_impl_Sign_grow_122 cd_impl_Sign_grow_122 (a0, a1, a2, a3, a4, ())
theorem k0l_impl_Sign_grow_122 (a0 : (List Int) × Unit) (a1 : List Tree) (a2 : List (Int × Int × (List Int) × (List Int) × Unit)) (a3 : Int) (a4 : Int) : Ct E1 (fun O => l_impl_Sign_grow_122 O a0 a1 a2 a3 a4) := by unfold l_impl_Sign_grow_122; exact Ct.L (E := E1) 94 lh_impl_Sign_grow_122 cd_impl_Sign_grow_122 (a0, a1, a2, a3, a4, ())
noncomputable abbrev lh_slices_Index_int_int_26 : LoopH := { key := 52, ht := [0, 1, 7, 8], hτ := (fs [(.sl (.int .i64)), (.int .i64), (.int .i64), (.int .i64)]), ex := 0, ot := [], oτ := (fs []) }
noncomputable def cd_slices_Index_int_int_26 : Code := Code.part (bodyOf 129) [1, 0, 1, 0, 0]
noncomputable def l_slices_Index_int_int_26 (O : Oracle E1) (a0 : List Int) (a1 : Int) (a2 : Int) (a3 : Int) : Option ((Unit) ⊕ ((Int × Unit) × (Unit))) := O.L 129 lh_slices_Index_int_int_26 cd_slices_Index_int_int_26 (a0, a1, a2, a3, ())
theorem k0l_slices_Index_int_int_26 (a0 : List Int) (a1 : Int) (a2 : Int) (a3 : Int) : Ct E1 (fun O => l_slices_Index_int_int_26 O a0 a1 a2 a3) := by unfold l_slices_Index_int_int_26; exact Ct.L (E := E1) 129 lh_slices_Index_int_int_26 cd_slices_Index_int_int_26 (a0, a1, a2, a3, ())
noncomputable abbrev lh_slices_IndexFunc_SS_int_int__impl_varsIn_1_26 : LoopH := { key := 52, ht := [0, 1, 7, 8], hτ := (fs [(.sl (.sl (.int .i64))), (.fn 117 (fs [(.ptr (.int .i64))])), (.int .i64), (.int .i64)]), ex := 0, ot := [], oτ := (fs []) }
noncomputable def cd_slices_IndexFunc_SS_int_int__impl_varsIn_1_26 : Code := Code.part (bodyOf 128) [1, 0, 1, 0, 0]
noncomputable def l_slices_IndexFunc_SS_int_int__impl_varsIn_1_26 (O : Oracle E1) (a0 : List (List Int)) (a1 : Int × Unit) (a2 : Int) (a3 : Int) : Option ((Unit) ⊕ ((Int × Unit) × (Unit))) := O.L 7733376 lh_slices_IndexFunc_SS_int_int__impl_varsIn_1_26 cd_slices_IndexFunc_SS_int_int__impl_varsIn_1_26 (a0, a1, a2, a3, ())
theorem k0l_slices_IndexFunc_SS_int_int__impl_varsIn_1_26 (a0 : List (List Int)) (a1 : Int × Unit) (a2 : Int) (a3 : Int) : Ct E1 (fun O => l_slices_IndexFunc_SS_int_int__impl_varsIn_1_26 O a0 a1 a2 a3) := by unfold l_slices_IndexFunc_SS_int_int__impl_varsIn_1_26; exact Ct.L (E := E1) 7733376 lh_slices_IndexFunc_SS_int_int__impl_varsIn_1_26 cd_slices_IndexFunc_SS_int_int__impl_varsIn_1_26 (a0, a1, a2, a3, ())
noncomputable abbrev lh_impl_varsIn_58 : LoopH := { key := 116, ht := [0, 3, 5], hτ := (fs [(.sl (.sl (.int .i64))), (.own (.int .i64)), (.int .i64)]), ex := 0, ot := [3], oτ := (fs [(.own (.int .i64))]) }
noncomputable def cd_impl_varsIn_58 : Code := Code.part (bodyOf 85) [1, 1, 0, 1, 0, 0]
noncomputable def l_impl_varsIn_58 (O : Oracle E1) (a0 : List (List Int)) (a1 : List Int) (a2 : Int) : Option (((List Int) × Unit) ⊕ (((List Int) × Unit) × (Unit))) := O.L 85 lh_impl_varsIn_58 cd_impl_varsIn_58 (a0, a1, a2, ())
theorem k0l_impl_varsIn_58 (a0 : List (List Int)) (a1 : List Int) (a2 : Int) : Ct E1 (fun O => l_impl_varsIn_58 O a0 a1 a2) := by unfold l_impl_varsIn_58; exact Ct.L (E := E1) 85 lh_impl_varsIn_58 cd_impl_varsIn_58 (a0, a1, a2, ())
noncomputable abbrev lh_impl_tree_free_26 : LoopH := { key := 52, ht := [0, 1, 2, 6, 20, 21, 22], hτ := (fs [.tree, (.map .bool), (.sl (.int .i64)), (.box (.agg (fs [(.int .i64), (.int .i64), (.sl (.int .i64)), (.sl (.int .i64))]))), (.own (.int .i64)), (.int .i64), (.int .i64)]), ex := 0, ot := [0, 1, 2, 6], oτ := (fs [.tree, (.map .bool), (.sl (.int .i64)), (.box (.agg (fs [(.int .i64), (.int .i64), (.sl (.int .i64)), (.sl (.int .i64))])))]) }
noncomputable def cd_impl_tree_free_26 : Code := Code.part (bodyOf 95) [1, 0, 1, 0, 0]
noncomputable def l_impl_tree_free_26 (O : Oracle E1) (a0 : Tree) (a1 : List (Int × Bool)) (a2 : List Int) (a3 : Int × Int × (List Int) × (List Int) × Unit) (a4 : List Int) (a5 : Int) (a6 : Int) : Option ((Tree × (List (Int × Bool)) × (List Int) × (Int × Int × (List Int) × (List Int) × Unit) × Unit) ⊕ ((Unit) × ((List (Int × Bool)) × Unit))) := O.L 95 lh_impl_tree_free_26 cd_impl_tree_free_26 (a0, a1, a2, a3, a4, a5, a6, ())
theorem k0l_impl_tree_free_26 (a0 : Tree) (a1 : List (Int × Bool)) (a2 : List Int) (a3 : Int × Int × (List Int) × (List Int) × Unit) (a4 : List Int) (a5 : Int) (a6 : Int) : Ct E1 (fun O => l_impl_tree_free_26 O a0 a1 a2 a3 a4 a5 a6) := by unfold l_impl_tree_free_26; exact Ct.L (E := E1) 95 lh_impl_tree_free_26 cd_impl_tree_free_26 (a0, a1, a2, a3, a4, a5, a6, ())
noncomputable abbrev lh_impl_tree_free_62 : LoopH := { key := 124, ht := [1, 2, 55, 56, 57], hτ := (fs [(.map .bool), (.sl (.int .i64)), (.sl .tree), (.int .i64), (.int .i64)]), ex := 2, ot := [1], oτ := (fs [(.map .bool)]) }
noncomputable def cd_impl_tree_free_62 : Code := Code.part (bodyOf 95) [1, 1, 1, 1, 0, 0]
noncomputable def l_impl_tree_free_62 (O : Oracle E1) (a0 : List (Int × Bool)) (a1 : List Int) (a2 : List Tree) (a3 : Int) (a4 : Int) : Option (((List (Int × Bool)) × Unit) ⊕ ((Unit) × ((List (Int × Bool)) × Unit))) := O.L 95 lh_impl_tree_free_62 cd_impl_tree_free_62 (a0, a1, a2, a3, a4, ())
theorem k0l_impl_tree_free_62 (a0 : List (Int × Bool)) (a1 : List Int) (a2 : List Tree) (a3 : Int) (a4 : Int) : Ct E1 (fun O => l_impl_tree_free_62 O a0 a1 a2 a3 a4) := by unfold l_impl_tree_free_62; exact Ct.L (E := E1) 95 lh_impl_tree_free_62 cd_impl_tree_free_62 (a0, a1, a2, a3, a4, ())
noncomputable abbrev lh_impl_tree_freeIn_250 : LoopH := { key := 500, ht := [3, 4, 10], hτ := (fs [(.map .bool), (.own (.int .i64)), (.int .i64)]), ex := 0, ot := [4], oτ := (fs [(.own (.int .i64))]) }
noncomputable def cd_impl_tree_freeIn_250 : Code := Code.part (bodyOf 59) [1, 1, 1, 1, 0, 1, 0, 0]
noncomputable def l_impl_tree_freeIn_250 (O : Oracle E1) (a0 : List (Int × Bool)) (a1 : List Int) (a2 : Int) : Option (((List Int) × Unit) ⊕ (((List Int) × Unit) × (Unit))) := O.L 59 lh_impl_tree_freeIn_250 cd_impl_tree_freeIn_250 (a0, a1, a2, ())
theorem k0l_impl_tree_freeIn_250 (a0 : List (Int × Bool)) (a1 : List Int) (a2 : Int) : Ct E1 (fun O => l_impl_tree_freeIn_250 O a0 a1 a2) := by unfold l_impl_tree_freeIn_250; exact Ct.L (E := E1) 59 lh_impl_tree_freeIn_250 cd_impl_tree_freeIn_250 (a0, a1, a2, ())
noncomputable abbrev lh_laws_eqFormS_58 : LoopH := { key := 116, ht := [0, 1, 5], hτ := (fs [(.sl (.agg (fs [(.int .i64), (.int .i64), (.sl (.int .i64)), (.sl (.int .i64))]))), (.sl (.agg (fs [(.int .i64), (.int .i64), (.sl (.int .i64)), (.sl (.int .i64))]))), (.int .i64)]), ex := 0, ot := [], oτ := (fs []) }
noncomputable def cd_laws_eqFormS_58 : Code := Code.part (bodyOf 27) [1, 1, 0, 1, 0, 0]
noncomputable def l_laws_eqFormS_58 (O : Oracle E1) (a0 : List (Int × Int × (List Int) × (List Int) × Unit)) (a1 : List (Int × Int × (List Int) × (List Int) × Unit)) (a2 : Int) : Option ((Unit) ⊕ ((Bool × Unit) × (Unit))) := O.L 27 lh_laws_eqFormS_58 cd_laws_eqFormS_58 (a0, a1, a2, ())
theorem k0l_laws_eqFormS_58 (a0 : List (Int × Int × (List Int) × (List Int) × Unit)) (a1 : List (Int × Int × (List Int) × (List Int) × Unit)) (a2 : Int) : Ct E1 (fun O => l_laws_eqFormS_58 O a0 a1 a2) := by unfold l_laws_eqFormS_58; exact Ct.L (E := E1) 27 lh_laws_eqFormS_58 cd_laws_eqFormS_58 (a0, a1, a2, ())
noncomputable abbrev lh_laws_markFormS_26 : LoopH := { key := 52, ht := [0, 1, 5], hτ := (fs [(.own (.agg (fs [(.int .i64), (.int .i64), (.own (.int .i64)), (.own (.int .i64))]))), (.int .i64), (.int .i64)]), ex := 0, ot := [0, 1], oτ := (fs [(.own (.agg (fs [(.int .i64), (.int .i64), (.own (.int .i64)), (.own (.int .i64))]))), (.int .i64)]) }
noncomputable def cd_laws_markFormS_26 : Code := Code.part (bodyOf 28) [1, 0, 1, 0, 0]
noncomputable def l_laws_markFormS_26 (O : Oracle E1) (a0 : List (Int × Int × (List Int) × (List Int) × Unit)) (a1 : Int) (a2 : Int) : Option (((List (Int × Int × (List Int) × (List Int) × Unit)) × Int × Unit) ⊕ ((Int × Unit) × ((List (Int × Int × (List Int) × (List Int) × Unit)) × Unit))) := O.L 28 lh_laws_markFormS_26 cd_laws_markFormS_26 (a0, a1, a2, ())
theorem k0l_laws_markFormS_26 (a0 : List (Int × Int × (List Int) × (List Int) × Unit)) (a1 : Int) (a2 : Int) : Ct E1 (fun O => l_laws_markFormS_26 O a0 a1 a2) := by unfold l_laws_markFormS_26; exact Ct.L (E := E1) 28 lh_laws_markFormS_26 cd_laws_markFormS_26 (a0, a1, a2, ())
noncomputable abbrev lh_laws_heldIntS_26 : LoopH := { key := 52, ht := [0, 1, 5], hτ := (fs [(.sl (.int .i64)), (.int .i64), (.int .i64)]), ex := 0, ot := [1], oτ := (fs [(.int .i64)]) }
noncomputable def cd_laws_heldIntS_26 : Code := Code.part (bodyOf 30) [1, 0, 1, 0, 0]
noncomputable def l_laws_heldIntS_26 (O : Oracle E1) (a0 : List Int) (a1 : Int) (a2 : Int) : Option ((Int × Unit) ⊕ ((Int × Unit) × (Unit))) := O.L 30 lh_laws_heldIntS_26 cd_laws_heldIntS_26 (a0, a1, a2, ())
theorem k0l_laws_heldIntS_26 (a0 : List Int) (a1 : Int) (a2 : Int) : Ct E1 (fun O => l_laws_heldIntS_26 O a0 a1 a2) := by unfold l_laws_heldIntS_26; exact Ct.L (E := E1) 30 lh_laws_heldIntS_26 cd_laws_heldIntS_26 (a0, a1, a2, ())
end Go.Proofs.YtofkhmedmeihiaaFi.Ev
