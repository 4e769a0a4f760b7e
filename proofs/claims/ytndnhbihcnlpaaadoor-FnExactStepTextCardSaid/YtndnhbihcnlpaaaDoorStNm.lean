/- A text of its own: Nm; no condition but those that each theorem names. -/
import Derived.Test.YtndnhbihcnlpaaaDoorStEnv
import Derived.Test.YtndnhbihcnlpaaaDoorStEvWt
/- The functions' names, at every oracle: printed by sym.py; no condition. -/
namespace Go.Proofs.YtndnhbihcnlpaaaDoorSt.Ev
open Go
set_option maxRecDepth 100000
set_option autoImplicit false
set_option linter.unusedVariables false

noncomputable abbrev M : Oracle E1 := Lm E1
noncomputable def c_laws_szIntS (O : Oracle E1) (a0 : List Int) (a1 : Int) : Option ((Int × Unit) × (Unit)) := O.C 24 (a0, a1, ())
theorem k0_laws_szIntS (a0) (a1) : Ct E1 (fun O => c_laws_szIntS O a0 a1) := Ct.C (E := E1) 24 (a0, a1, ())
noncomputable def c_laws_szSign (O : Oracle E1) (a0 : (List Int) × Unit) (a1 : Int) : Option ((Int × Unit) × (Unit)) := O.C 6 (a0, a1, ())
theorem k0_laws_szSign (a0) (a1) : Ct E1 (fun O => c_laws_szSign O a0 a1) := Ct.C (E := E1) 6 (a0, a1, ())
noncomputable def c_laws_toIntS (O : Oracle E1) (a0 : List Int) : Option (((List Int) × Unit) × (Unit)) := O.C 29 (a0, ())
theorem k0_laws_toIntS (a0) : Ct E1 (fun O => c_laws_toIntS O a0) := Ct.C (E := E1) 29 (a0, ())
noncomputable def c_laws_toSign (O : Oracle E1) (a0 : (List Int) × Unit) : Option ((((List Int) × Unit) × Unit) × (Unit)) := O.C 9 (a0, ())
theorem k0_laws_toSign (a0) : Ct E1 (fun O => c_laws_toSign O a0) := Ct.C (E := E1) 9 (a0, ())
noncomputable def c_laws_eqIntS (O : Oracle E1) (a0 : List Int) (a1 : List Int) : Option ((Bool × Unit) × (Unit)) := O.C 35 (a0, a1, ())
theorem k0_laws_eqIntS (a0) (a1) : Ct E1 (fun O => c_laws_eqIntS O a0 a1) := Ct.C (E := E1) 35 (a0, a1, ())
noncomputable def c_laws_eqSign (O : Oracle E1) (a0 : (List Int) × Unit) (a1 : (List Int) × Unit) : Option ((Bool × Unit) × (Unit)) := O.C 12 (a0, a1, ())
theorem k0_laws_eqSign (a0) (a1) : Ct E1 (fun O => c_laws_eqSign O a0 a1) := Ct.C (E := E1) 12 (a0, a1, ())
noncomputable def c_laws_szLit (O : Oracle E1) (a0 : Bool × (List Int) × (List Int) × Unit) (a1 : Int) : Option ((Int × Unit) × (Unit)) := O.C 47 (a0, a1, ())
theorem k0_laws_szLit (a0) (a1) : Ct E1 (fun O => c_laws_szLit O a0 a1) := Ct.C (E := E1) 47 (a0, a1, ())
noncomputable def c_laws_szLitS (O : Oracle E1) (a0 : List (Bool × (List Int) × (List Int) × Unit)) (a1 : Int) : Option ((Int × Unit) × (Unit)) := O.C 25 (a0, a1, ())
theorem k0_laws_szLitS (a0) (a1) : Ct E1 (fun O => c_laws_szLitS O a0 a1) := Ct.C (E := E1) 25 (a0, a1, ())
noncomputable def c_laws_szStep (O : Oracle E1) (a0 : Int × (List Int) × (List Int) × (List (Bool × (List Int) × (List Int) × Unit)) × Unit) (a1 : Int) : Option ((Int × Unit) × (Unit)) := O.C 14 (a0, a1, ())
theorem k0_laws_szStep (a0) (a1) : Ct E1 (fun O => c_laws_szStep O a0 a1) := Ct.C (E := E1) 14 (a0, a1, ())
noncomputable def c_spec_l1In (O : Oracle E1) (a0 : Int) (a1 : Int) (a2 : Int) : Option ((Bool × Unit) × (Unit)) := O.C 61 (a0, a1, a2, ())
theorem k0_spec_l1In (a0) (a1) (a2) : Ct E1 (fun O => c_spec_l1In O a0 a1 a2) := Ct.C (E := E1) 61 (a0, a1, a2, ())
noncomputable def c_spec_l1All (O : Oracle E1) (a0 : List Int) (a1 : Int) (a2 : Int) : Option ((Bool × Unit) × (Unit)) := O.C 62 (a0, a1, a2, ())
theorem k0_spec_l1All (a0) (a1) (a2) : Ct E1 (fun O => c_spec_l1All O a0 a1 a2) := Ct.C (E := E1) 62 (a0, a1, a2, ())
noncomputable def c_spec_GoodSign (O : Oracle E1) (a0 : (List Int) × Unit) : Option ((Bool × Unit) × (Unit)) := O.C 41 (a0, ())
theorem k0_spec_GoodSign (a0) : Ct E1 (fun O => c_spec_GoodSign O a0) := Ct.C (E := E1) 41 (a0, ())
noncomputable def c_spec_l1End (O : Oracle E1) (a0 : (List Int) × Unit) (a1 : List Int) (a2 : Int) : Option ((Int × Unit) × (Unit)) := O.C 82 (a0, a1, a2, ())
theorem k0_spec_l1End (a0) (a1) (a2) : Ct E1 (fun O => c_spec_l1End O a0 a1 a2) := Ct.C (E := E1) 82 (a0, a1, a2, ())
noncomputable def c_spec_l1Term (O : Oracle E1) (a0 : (List Int) × Unit) (a1 : List Int) : Option ((Bool × Unit) × (Unit)) := O.C 81 (a0, a1, ())
theorem k0_spec_l1Term (a0) (a1) : Ct E1 (fun O => c_spec_l1Term O a0 a1) := Ct.C (E := E1) 81 (a0, a1, ())
noncomputable def c_spec_l4Lit (O : Oracle E1) (a0 : (List Int) × Unit) (a1 : Bool × (List Int) × (List Int) × Unit) : Option ((Bool × Unit) × (Unit)) := O.C 70 (a0, a1, ())
theorem k0_spec_l4Lit (a0) (a1) : Ct E1 (fun O => c_spec_l4Lit O a0 a1) := Ct.C (E := E1) 70 (a0, a1, ())
noncomputable def c_spec_l4Clause (O : Oracle E1) (a0 : (List Int) × Unit) (a1 : List (Bool × (List Int) × (List Int) × Unit)) : Option ((Bool × Unit) × (Unit)) := O.C 48 (a0, a1, ())
theorem k0_spec_l4Clause (a0) (a1) : Ct E1 (fun O => c_spec_l4Clause O a0 a1) := Ct.C (E := E1) 48 (a0, a1, ())
noncomputable def c_spec_GoodClause (O : Oracle E1) (a0 : (List Int) × Unit) (a1 : List (Bool × (List Int) × (List Int) × Unit)) : Option ((Bool × Unit) × (Unit)) := O.C 60 (a0, a1, ())
theorem k0_spec_GoodClause (a0) (a1) : Ct E1 (fun O => c_spec_GoodClause O a0 a1) := Ct.C (E := E1) 60 (a0, a1, ())
noncomputable def c_spec_l17Good (O : Oracle E1) (a0 : (List Int) × Unit) (a1 : Int × (List Int) × (List Int) × (List (Bool × (List Int) × (List Int) × Unit)) × Unit) : Option ((Bool × Unit) × (Unit)) := O.C 37 (a0, a1, ())
theorem k0_spec_l17Good (a0) (a1) : Ct E1 (fun O => c_spec_l17Good O a0 a1) := Ct.C (E := E1) 37 (a0, a1, ())
noncomputable def c_spec_l1Args (O : Oracle E1) (a0 : (List Int) × Unit) (a1 : List Int) (a2 : Int) : Option (((List Int) × Unit) × (Unit)) := O.C 71 (a0, a1, a2, ())
theorem k0_spec_l1Args (a0) (a1) (a2) : Ct E1 (fun O => c_spec_l1Args O a0 a1 a2) := Ct.C (E := E1) 71 (a0, a1, a2, ())
noncomputable def c_spec_l1TermText (O : Oracle E1) (a0 : (List Int) × Unit) (a1 : List Int) (a2 : Int) : Option (((List UInt8) × Unit) × (Unit)) := O.C 50 (a0, a1, a2, ())
theorem k0_spec_l1TermText (a0) (a1) (a2) : Ct E1 (fun O => c_spec_l1TermText O a0 a1 a2) := Ct.C (E := E1) 50 (a0, a1, a2, ())
noncomputable def c_spec_l4Text (O : Oracle E1) (a0 : (List Int) × Unit) (a1 : List (Bool × (List Int) × (List Int) × Unit)) : Option (((List UInt8) × Unit) × (Unit)) := O.C 28 (a0, a1, ())
theorem k0_spec_l4Text (a0) (a1) : Ct E1 (fun O => c_spec_l4Text O a0 a1) := Ct.C (E := E1) 28 (a0, a1, ())
noncomputable def c_spec_l1Num (O : Oracle E1) (a0 : Int) : Option (((List UInt8) × Unit) × (Unit)) := O.C 49 (a0, ())
theorem k0_spec_l1Num (a0) : Ct E1 (fun O => c_spec_l1Num O a0) := Ct.C (E := E1) 49 (a0, ())
noncomputable def c_spec_l17Word (O : Oracle E1) (a0 : Int) : Option (((List UInt8) × Unit) × (Unit)) := O.C 63 (a0, ())
theorem k0_spec_l17Word (a0) : Ct E1 (fun O => c_spec_l17Word O a0) := Ct.C (E := E1) 63 (a0, ())
noncomputable def c_spec_l17Step (O : Oracle E1) (a0 : (List Int) × Unit) (a1 : Int × (List Int) × (List Int) × (List (Bool × (List Int) × (List Int) × Unit)) × Unit) : Option (((List UInt8) × Unit) × (Unit)) := O.C 38 (a0, a1, ())
theorem k0_spec_l17Step (a0) (a1) : Ct E1 (fun O => c_spec_l17Step O a0 a1) := Ct.C (E := E1) 38 (a0, a1, ())
noncomputable def c_spec_StepText (O : Oracle E1) (a0 : (List Int) × Unit) (a1 : Int × (List Int) × (List Int) × (List (Bool × (List Int) × (List Int) × Unit)) × Unit) : Option (((List UInt8) × Bool × Unit) × (Unit)) := O.C 15 (a0, a1, ())
theorem k0_spec_StepText (a0) (a1) : Ct E1 (fun O => c_spec_StepText O a0 a1) := Ct.C (E := E1) 15 (a0, a1, ())
noncomputable def c_laws_toLit (O : Oracle E1) (a0 : Bool × (List Int) × (List Int) × Unit) : Option (((Bool × (List Int) × (List Int) × Unit) × Unit) × (Unit)) := O.C 51 (a0, ())
theorem k0_laws_toLit (a0) : Ct E1 (fun O => c_laws_toLit O a0) := Ct.C (E := E1) 51 (a0, ())
noncomputable def c_laws_toLitS (O : Oracle E1) (a0 : List (Bool × (List Int) × (List Int) × Unit)) : Option (((List (Bool × (List Int) × (List Int) × Unit)) × Unit) × (Unit)) := O.C 30 (a0, ())
theorem k0_laws_toLitS (a0) : Ct E1 (fun O => c_laws_toLitS O a0) := Ct.C (E := E1) 30 (a0, ())
noncomputable def c_laws_toStep (O : Oracle E1) (a0 : Int × (List Int) × (List Int) × (List (Bool × (List Int) × (List Int) × Unit)) × Unit) : Option (((Int × (List Int) × (List Int) × (List (Bool × (List Int) × (List Int) × Unit)) × Unit) × Unit) × (Unit)) := O.C 16 (a0, ())
theorem k0_laws_toStep (a0) : Ct E1 (fun O => c_laws_toStep O a0) := Ct.C (E := E1) 16 (a0, ())
noncomputable def c_impl_GoodSign_1 (O : Oracle E1) (a0 : Int) : Option ((Bool × Unit) × (Unit)) := O.C 53 (a0, ())
theorem k0_impl_GoodSign_1 (a0) : Ct E1 (fun O => c_impl_GoodSign_1 O a0) := Ct.C (E := E1) 53 (a0, ())
noncomputable def c_slices_IndexFunc_int_int__impl_GoodSign_1 (O : Oracle E1) (a0 : List Int) (a1 : Unit) : Option ((Int × Unit) × (Unit)) := O.C 3539016 (a0, a1, ())
theorem k0_slices_IndexFunc_int_int__impl_GoodSign_1 (a0) (a1) : Ct E1 (fun O => c_slices_IndexFunc_int_int__impl_GoodSign_1 O a0 a1) := Ct.C (E := E1) 3539016 (a0, a1, ())
noncomputable def c_slices_ContainsFunc_int_int__impl_GoodSign_1 (O : Oracle E1) (a0 : List Int) (a1 : Unit) : Option ((Bool × Unit) × (Unit)) := O.C 3538996 (a0, a1, ())
theorem k0_slices_ContainsFunc_int_int__impl_GoodSign_1 (a0) (a1) : Ct E1 (fun O => c_slices_ContainsFunc_int_int__impl_GoodSign_1 O a0 a1) := Ct.C (E := E1) 3538996 (a0, a1, ())
noncomputable def c_impl_GoodSign (O : Oracle E1) (a0 : (List Int) × Unit) : Option ((Bool × Unit) × (Unit)) := O.C 31 (a0, ())
theorem k0_impl_GoodSign (a0) : Ct E1 (fun O => c_impl_GoodSign O a0) := Ct.C (E := E1) 31 (a0, ())
noncomputable def c_impl_Sign_args (O : Oracle E1) (a0 : (List Int) × Unit) (a1 : Int) : Option ((Int × Unit) × (Unit)) := O.C 89 (a0, a1, ())
theorem k0_impl_Sign_args (a0) (a1) : Ct E1 (fun O => c_impl_Sign_args O a0 a1) := Ct.C (E := E1) 89 (a0, a1, ())
noncomputable def c_impl_Sign_isTerm (O : Oracle E1) (a0 : (List Int) × Unit) (a1 : List Int) : Option ((Bool × Unit) × (Unit)) := O.C 84 (a0, a1, ())
theorem k0_impl_Sign_isTerm (a0) (a1) : Ct E1 (fun O => c_impl_Sign_isTerm O a0 a1) := Ct.C (E := E1) 84 (a0, a1, ())
noncomputable def c_impl_Sign_isLit (O : Oracle E1) (a0 : (List Int) × Unit) (a1 : Bool × (List Int) × (List Int) × Unit) : Option ((Bool × Unit) × (Unit)) := O.C 76 (a0, a1, ())
theorem k0_impl_Sign_isLit (a0) (a1) : Ct E1 (fun O => c_impl_Sign_isLit O a0 a1) := Ct.C (E := E1) 76 (a0, a1, ())
noncomputable def c_impl_Sign_isClause_1 (O : Oracle E1) (a0 : Bool × (List Int) × (List Int) × Unit) (a1 : (List Int) × Unit) : Option ((Bool × Unit) × (Unit)) := O.C 75 (a0, a1, ())
theorem k0_impl_Sign_isClause_1 (a0) (a1) : Ct E1 (fun O => c_impl_Sign_isClause_1 O a0 a1) := Ct.C (E := E1) 75 (a0, a1, ())
noncomputable def c_slices_IndexFunc_impl_Lit_impl_Lit__impl_Sign_isClause_1 (O : Oracle E1) (a0 : List (Bool × (List Int) × (List Int) × Unit)) (a1 : ((List Int) × Unit) × Unit) : Option ((Int × Unit) × (Unit)) := O.C 4980819 (a0, a1, ())
theorem k0_slices_IndexFunc_impl_Lit_impl_Lit__impl_Sign_isClause_1 (a0) (a1) : Ct E1 (fun O => c_slices_IndexFunc_impl_Lit_impl_Lit__impl_Sign_isClause_1 O a0 a1) := Ct.C (E := E1) 4980819 (a0, a1, ())
noncomputable def c_slices_ContainsFunc_impl_Lit_impl_Lit__impl_Sign_isClause_1 (O : Oracle E1) (a0 : List (Bool × (List Int) × (List Int) × Unit)) (a1 : ((List Int) × Unit) × Unit) : Option ((Bool × Unit) × (Unit)) := O.C 4980810 (a0, a1, ())
theorem k0_slices_ContainsFunc_impl_Lit_impl_Lit__impl_Sign_isClause_1 (a0) (a1) : Ct E1 (fun O => c_slices_ContainsFunc_impl_Lit_impl_Lit__impl_Sign_isClause_1 O a0 a1) := Ct.C (E := E1) 4980810 (a0, a1, ())
noncomputable def c_impl_Sign_isClause (O : Oracle E1) (a0 : (List Int) × Unit) (a1 : List (Bool × (List Int) × (List Int) × Unit)) : Option ((Bool × Unit) × (Unit)) := O.C 56 (a0, a1, ())
theorem k0_impl_Sign_isClause (a0) (a1) : Ct E1 (fun O => c_impl_Sign_isClause O a0 a1) := Ct.C (E := E1) 56 (a0, a1, ())
noncomputable def c_slices_Concat_int_int (O : Oracle E1) (a0 : List (List Int)) : Option (((List Int) × Unit) × (Unit)) := O.C 64 (a0, ())
theorem k0_slices_Concat_int_int (a0) : Ct E1 (fun O => c_slices_Concat_int_int O a0) := Ct.C (E := E1) 64 (a0, ())
noncomputable def c_impl_Sign_isTold_1 (O : Oracle E1) (a0 : Int) : Option ((Bool × Unit) × (Unit)) := O.C 65 (a0, ())
theorem k0_impl_Sign_isTold_1 (a0) : Ct E1 (fun O => c_impl_Sign_isTold_1 O a0) := Ct.C (E := E1) 65 (a0, ())
noncomputable def c_slices_IndexFunc_int_int__impl_Sign_isTold_1 (O : Oracle E1) (a0 : List Int) (a1 : Unit) : Option ((Int × Unit) × (Unit)) := O.C 4325448 (a0, a1, ())
theorem k0_slices_IndexFunc_int_int__impl_Sign_isTold_1 (a0) (a1) : Ct E1 (fun O => c_slices_IndexFunc_int_int__impl_Sign_isTold_1 O a0 a1) := Ct.C (E := E1) 4325448 (a0, a1, ())
noncomputable def c_slices_ContainsFunc_int_int__impl_Sign_isTold_1 (O : Oracle E1) (a0 : List Int) (a1 : Unit) : Option ((Bool × Unit) × (Unit)) := O.C 4325428 (a0, a1, ())
theorem k0_slices_ContainsFunc_int_int__impl_Sign_isTold_1 (a0) (a1) : Ct E1 (fun O => c_slices_ContainsFunc_int_int__impl_Sign_isTold_1 O a0 a1) := Ct.C (E := E1) 4325428 (a0, a1, ())
noncomputable def c_impl_Sign_isTold (O : Oracle E1) (a0 : (List Int) × Unit) (a1 : Int × (List Int) × (List Int) × (List (Bool × (List Int) × (List Int) × Unit)) × Unit) : Option ((Bool × Unit) × (Unit)) := O.C 39 (a0, a1, ())
theorem k0_impl_Sign_isTold (a0) (a1) : Ct E1 (fun O => c_impl_Sign_isTold O a0 a1) := Ct.C (E := E1) 39 (a0, a1, ())
noncomputable def c_impl_Sign_text (O : Oracle E1) (a0 : (List Int) × Unit) (a1 : List Int) (a2 : List Int) (a3 : Int) : Option (((List Int) × Int × Unit) × (Unit)) := O.C 78 (a0, a1, a2, a3, ())
theorem k0_impl_Sign_text (a0) (a1) (a2) (a3) : Ct E1 (fun O => c_impl_Sign_text O a0 a1 a2 a3) := Ct.C (E := E1) 78 (a0, a1, a2, a3, ())
noncomputable def c_impl_Sign_termText (O : Oracle E1) (a0 : (List Int) × Unit) (a1 : List Int) : Option (((List UInt8) × Unit) × (Unit)) := O.C 58 (a0, a1, ())
theorem k0_impl_Sign_termText (a0) (a1) : Ct E1 (fun O => c_impl_Sign_termText O a0 a1) := Ct.C (E := E1) 58 (a0, a1, ())
noncomputable def c_impl_Sign_clauseText (O : Oracle E1) (a0 : (List Int) × Unit) (a1 : List (Bool × (List Int) × (List Int) × Unit)) : Option (((List UInt8) × Unit) × (Unit)) := O.C 34 (a0, a1, ())
theorem k0_impl_Sign_clauseText (a0) (a1) : Ct E1 (fun O => c_impl_Sign_clauseText O a0 a1) := Ct.C (E := E1) 34 (a0, a1, ())
noncomputable def c_impl_wordOf (O : Oracle E1) (a0 : Int) : Option (((List UInt8) × Unit) × (Unit)) := O.C 66 (a0, ())
theorem k0_impl_wordOf (a0) : Ct E1 (fun O => c_impl_wordOf O a0) := Ct.C (E := E1) 66 (a0, ())
noncomputable def c_strconv_Itoa (O : Oracle E1) (a0 : Int) : Option (((List UInt8) × Unit) × (Unit)) := O.C 33 (a0, ())
theorem k0_strconv_Itoa (a0) : Ct E1 (fun O => c_strconv_Itoa O a0) := Ct.C (E := E1) 33 (a0, ())
noncomputable def c_impl_numbers (O : Oracle E1) (a0 : List Int) : Option (((List UInt8) × Unit) × (Unit)) := O.C 67 (a0, ())
theorem k0_impl_numbers (a0) : Ct E1 (fun O => c_impl_numbers O a0) := Ct.C (E := E1) 67 (a0, ())
noncomputable def c_impl_Sign_stepText (O : Oracle E1) (a0 : (List Int) × Unit) (a1 : Int × (List Int) × (List Int) × (List (Bool × (List Int) × (List Int) × Unit)) × Unit) : Option (((List UInt8) × Unit) × (Unit)) := O.C 40 (a0, a1, ())
theorem k0_impl_Sign_stepText (a0) (a1) : Ct E1 (fun O => c_impl_Sign_stepText O a0 a1) := Ct.C (E := E1) 40 (a0, a1, ())
noncomputable def c_impl_StepText (O : Oracle E1) (a0 : (List Int) × Unit) (a1 : Int × (List Int) × (List Int) × (List (Bool × (List Int) × (List Int) × Unit)) × Unit) : Option (((List UInt8) × Bool × Unit) × (Unit)) := O.C 17 (a0, a1, ())
theorem k0_impl_StepText (a0) (a1) : Ct E1 (fun O => c_impl_StepText O a0 a1) := Ct.C (E := E1) 17 (a0, a1, ())
noncomputable def c_laws_eqLit (O : Oracle E1) (a0 : Bool × (List Int) × (List Int) × Unit) (a1 : Bool × (List Int) × (List Int) × Unit) : Option ((Bool × Unit) × (Unit)) := O.C 59 (a0, a1, ())
theorem k0_laws_eqLit (a0) (a1) : Ct E1 (fun O => c_laws_eqLit O a0 a1) := Ct.C (E := E1) 59 (a0, a1, ())
noncomputable def c_laws_eqLitS (O : Oracle E1) (a0 : List (Bool × (List Int) × (List Int) × Unit)) (a1 : List (Bool × (List Int) × (List Int) × Unit)) : Option ((Bool × Unit) × (Unit)) := O.C 36 (a0, a1, ())
theorem k0_laws_eqLitS (a0) (a1) : Ct E1 (fun O => c_laws_eqLitS O a0 a1) := Ct.C (E := E1) 36 (a0, a1, ())
noncomputable def c_laws_eqStep (O : Oracle E1) (a0 : Int × (List Int) × (List Int) × (List (Bool × (List Int) × (List Int) × Unit)) × Unit) (a1 : Int × (List Int) × (List Int) × (List (Bool × (List Int) × (List Int) × Unit)) × Unit) : Option ((Bool × Unit) × (Unit)) := O.C 18 (a0, a1, ())
theorem k0_laws_eqStep (a0) (a1) : Ct E1 (fun O => c_laws_eqStep O a0 a1) := Ct.C (E := E1) 18 (a0, a1, ())
noncomputable def c_laws_FnExactStepText (O : Oracle E1) (a0 : (List Int) × Unit) (a1 : Int × (List Int) × (List Int) × (List (Bool × (List Int) × (List Int) × Unit)) × Unit) : Option ((Bool × Unit) × (Unit)) := O.C 4 (a0, a1, ())
theorem k0_laws_FnExactStepText (a0) (a1) : Ct E1 (fun O => c_laws_FnExactStepText O a0 a1) := Ct.C (E := E1) 4 (a0, a1, ())
noncomputable abbrev lh_laws_toIntS_58 : LoopH := { key := 116, ht := [0, 3, 4], hτ := (fs [(.sl (.int .i64)), (.own (.int .i64)), (.int .i64)]), ex := 0, ot := [3], oτ := (fs [(.own (.int .i64))]) }
noncomputable def cd_laws_toIntS_58 : Code := Code.part (bodyOf 29) [1, 1, 0, 1, 0, 0]
noncomputable def l_laws_toIntS_58 (O : Oracle E1) (a0 : List Int) (a1 : List Int) (a2 : Int) : Option (((List Int) × Unit) ⊕ (((List Int) × Unit) × (Unit))) := O.L 29 lh_laws_toIntS_58 cd_laws_toIntS_58 (a0, a1, a2, ())
theorem k0l_laws_toIntS_58 (a0) (a1) (a2) : Ct E1 (fun O => l_laws_toIntS_58 O a0 a1 a2) := Ct.L (E := E1) 29 lh_laws_toIntS_58 cd_laws_toIntS_58 (a0, a1, a2, ())
noncomputable abbrev lh_laws_eqIntS_58 : LoopH := { key := 116, ht := [0, 1, 5], hτ := (fs [(.sl (.int .i64)), (.sl (.int .i64)), (.int .i64)]), ex := 0, ot := [], oτ := (fs []) }
noncomputable def cd_laws_eqIntS_58 : Code := Code.part (bodyOf 35) [1, 1, 0, 1, 0, 0]
noncomputable def l_laws_eqIntS_58 (O : Oracle E1) (a0 : List Int) (a1 : List Int) (a2 : Int) : Option ((Unit) ⊕ ((Bool × Unit) × (Unit))) := O.L 35 lh_laws_eqIntS_58 cd_laws_eqIntS_58 (a0, a1, a2, ())
theorem k0l_laws_eqIntS_58 (a0) (a1) (a2) : Ct E1 (fun O => l_laws_eqIntS_58 O a0 a1 a2) := Ct.L (E := E1) 35 lh_laws_eqIntS_58 cd_laws_eqIntS_58 (a0, a1, a2, ())
noncomputable abbrev lh_laws_szLitS_122 : LoopH := { key := 244, ht := [0, 1, 5], hτ := (fs [(.sl (.agg (fs [.bool, (.sl (.int .i64)), (.sl (.int .i64))]))), (.int .i64), (.int .i64)]), ex := 0, ot := [1], oτ := (fs [(.int .i64)]) }
noncomputable def cd_laws_szLitS_122 : Code := Code.part (bodyOf 25) [1, 1, 1, 0, 1, 0, 0]
noncomputable def l_laws_szLitS_122 (O : Oracle E1) (a0 : List (Bool × (List Int) × (List Int) × Unit)) (a1 : Int) (a2 : Int) : Option ((Int × Unit) ⊕ ((Int × Unit) × (Unit))) := O.L 25 lh_laws_szLitS_122 cd_laws_szLitS_122 (a0, a1, a2, ())
theorem k0l_laws_szLitS_122 (a0) (a1) (a2) : Ct E1 (fun O => l_laws_szLitS_122 O a0 a1 a2) := Ct.L (E := E1) 25 lh_laws_szLitS_122 cd_laws_szLitS_122 (a0, a1, a2, ())
noncomputable abbrev lh_spec_l1All_26 : LoopH := { key := 52, ht := [1, 2, 9, 10, 11], hτ := (fs [(.int .i64), (.int .i64), (.sl (.int .i64)), (.int .i64), (.int .i64)]), ex := 0, ot := [], oτ := (fs []) }
noncomputable def cd_spec_l1All_26 : Code := Code.part (bodyOf 62) [1, 0, 1, 0, 0]
noncomputable def l_spec_l1All_26 (O : Oracle E1) (a0 : Int) (a1 : Int) (a2 : List Int) (a3 : Int) (a4 : Int) : Option ((Unit) ⊕ ((Bool × Unit) × (Unit))) := O.L 62 lh_spec_l1All_26 cd_spec_l1All_26 (a0, a1, a2, a3, a4, ())
theorem k0l_spec_l1All_26 (a0) (a1) (a2) (a3) (a4) : Ct E1 (fun O => l_spec_l1All_26 O a0 a1 a2 a3 a4) := Ct.L (E := E1) 62 lh_spec_l1All_26 cd_spec_l1All_26 (a0, a1, a2, a3, a4, ())
noncomputable abbrev lh_spec_l1End_28 : LoopH := { key := 56, ht := [1, 2, 3, 7], hτ := (fs [(.sl (.int .i64)), (.int .i64), (.box (.agg (fs [(.sl (.int .i64))]))), (.int .i64)]), ex := 0, ot := [2], oτ := (fs [(.int .i64)]) }
noncomputable def cd_spec_l1End_28 : Code := Code.part (bodyOf 82) [1, 1, 0, 0, 0]
noncomputable def l_spec_l1End_28 (O : Oracle E1) (a0 : List Int) (a1 : Int) (a2 : (List Int) × Unit) (a3 : Int) : Option ((Int × Unit) ⊕ ((Int × Unit) × (Unit))) := O.L 82 lh_spec_l1End_28 cd_spec_l1End_28 (a0, a1, a2, a3, ())
theorem k0l_spec_l1End_28 (a0) (a1) (a2) (a3) : Ct E1 (fun O => l_spec_l1End_28 O a0 a1 a2 a3) := Ct.L (E := E1) 82 lh_spec_l1End_28 cd_spec_l1End_28 (a0, a1, a2, a3, ())
noncomputable abbrev lh_spec_l4Clause_26 : LoopH := { key := 52, ht := [1, 2, 7, 8, 9], hτ := (fs [(.sl (.agg (fs [.bool, (.sl (.int .i64)), (.sl (.int .i64))]))), (.box (.agg (fs [(.sl (.int .i64))]))), (.sl (.agg (fs [.bool, (.sl (.int .i64)), (.sl (.int .i64))]))), (.int .i64), (.int .i64)]), ex := 0, ot := [1], oτ := (fs [(.sl (.agg (fs [.bool, (.sl (.int .i64)), (.sl (.int .i64))])))]) }
noncomputable def cd_spec_l4Clause_26 : Code := Code.part (bodyOf 48) [1, 0, 1, 0, 0]
noncomputable def l_spec_l4Clause_26 (O : Oracle E1) (a0 : List (Bool × (List Int) × (List Int) × Unit)) (a1 : (List Int) × Unit) (a2 : List (Bool × (List Int) × (List Int) × Unit)) (a3 : Int) (a4 : Int) : Option (((List (Bool × (List Int) × (List Int) × Unit)) × Unit) ⊕ ((Bool × Unit) × (Unit))) := O.L 48 lh_spec_l4Clause_26 cd_spec_l4Clause_26 (a0, a1, a2, a3, a4, ())
theorem k0l_spec_l4Clause_26 (a0) (a1) (a2) (a3) (a4) : Ct E1 (fun O => l_spec_l4Clause_26 O a0 a1 a2 a3 a4) := Ct.L (E := E1) 48 lh_spec_l4Clause_26 cd_spec_l4Clause_26 (a0, a1, a2, a3, a4, ())
noncomputable abbrev lh_spec_l1Args_250 : LoopH := { key := 500, ht := [1, 3, 7, 8, 9], hτ := (fs [(.sl (.int .i64)), (.box (.agg (fs [(.sl (.int .i64))]))), (.own (.int .i64)), (.int .i64), (.int .i64)]), ex := 0, ot := [7], oτ := (fs [(.own (.int .i64))]) }
noncomputable def cd_spec_l1Args_250 : Code := Code.part (bodyOf 71) [1, 1, 1, 1, 0, 1, 0, 0]
noncomputable def l_spec_l1Args_250 (O : Oracle E1) (a0 : List Int) (a1 : (List Int) × Unit) (a2 : List Int) (a3 : Int) (a4 : Int) : Option (((List Int) × Unit) ⊕ (((List Int) × Unit) × (Unit))) := O.L 71 lh_spec_l1Args_250 cd_spec_l1Args_250 (a0, a1, a2, a3, a4, ())
theorem k0l_spec_l1Args_250 (a0) (a1) (a2) (a3) (a4) : Ct E1 (fun O => l_spec_l1Args_250 O a0 a1 a2 a3 a4) := Ct.L (E := E1) 71 lh_spec_l1Args_250 cd_spec_l1Args_250 (a0, a1, a2, a3, a4, ())
noncomputable abbrev lh_spec_l1TermText_122 : LoopH := { key := 244, ht := [1, 2, 3, 7, 35, 36, 37], hτ := (fs [(.sl (.int .i64)), (.int .i64), (.box (.agg (fs [(.sl (.int .i64))]))), .str, (.own (.int .i64)), (.int .i64), (.int .i64)]), ex := 0, ot := [1, 2, 3, 7], oτ := (fs [(.sl (.int .i64)), (.int .i64), (.box (.agg (fs [(.sl (.int .i64))]))), .str]) }
noncomputable def cd_spec_l1TermText_122 : Code := Code.part (bodyOf 50) [1, 1, 1, 0, 1, 0, 0]
noncomputable def l_spec_l1TermText_122 (O : Oracle E1) (a0 : List Int) (a1 : Int) (a2 : (List Int) × Unit) (a3 : List UInt8) (a4 : List Int) (a5 : Int) (a6 : Int) : Option (((List Int) × Int × ((List Int) × Unit) × (List UInt8) × Unit) ⊕ (((List UInt8) × Unit) × (Unit))) := O.L 50 lh_spec_l1TermText_122 cd_spec_l1TermText_122 (a0, a1, a2, a3, a4, a5, a6, ())
theorem k0l_spec_l1TermText_122 (a0) (a1) (a2) (a3) (a4) (a5) (a6) : Ct E1 (fun O => l_spec_l1TermText_122 O a0 a1 a2 a3 a4 a5 a6) := Ct.L (E := E1) 50 lh_spec_l1TermText_122 cd_spec_l1TermText_122 (a0, a1, a2, a3, a4, a5, a6, ())
noncomputable abbrev lh_spec_l4Text_122 : LoopH := { key := 244, ht := [2, 5, 11, 12, 13], hτ := (fs [(.box (.agg (fs [(.sl (.int .i64))]))), .str, (.sl (.agg (fs [.bool, (.sl (.int .i64)), (.sl (.int .i64))]))), (.int .i64), (.int .i64)]), ex := 0, ot := [5], oτ := (fs [.str]) }
noncomputable def cd_spec_l4Text_122 : Code := Code.part (bodyOf 28) [1, 1, 1, 0, 1, 0, 0]
noncomputable def l_spec_l4Text_122 (O : Oracle E1) (a0 : (List Int) × Unit) (a1 : List UInt8) (a2 : List (Bool × (List Int) × (List Int) × Unit)) (a3 : Int) (a4 : Int) : Option (((List UInt8) × Unit) ⊕ (((List UInt8) × Unit) × (Unit))) := O.L 28 lh_spec_l4Text_122 cd_spec_l4Text_122 (a0, a1, a2, a3, a4, ())
theorem k0l_spec_l4Text_122 (a0) (a1) (a2) (a3) (a4) : Ct E1 (fun O => l_spec_l4Text_122 O a0 a1 a2 a3 a4) := Ct.L (E := E1) 28 lh_spec_l4Text_122 cd_spec_l4Text_122 (a0, a1, a2, a3, a4, ())
noncomputable abbrev lh_spec_l17Step_58 : LoopH := { key := 116, ht := [2, 3, 5, 14, 15, 16], hτ := (fs [(.box (.agg (fs [(.sl (.int .i64))]))), (.box (.agg (fs [(.int .i64), (.sl (.int .i64)), (.sl (.int .i64)), (.sl (.agg (fs [.bool, (.sl (.int .i64)), (.sl (.int .i64))])))]))), .str, (.sl (.int .i64)), (.int .i64), (.int .i64)]), ex := 0, ot := [2, 3, 5], oτ := (fs [(.box (.agg (fs [(.sl (.int .i64))]))), (.box (.agg (fs [(.int .i64), (.sl (.int .i64)), (.sl (.int .i64)), (.sl (.agg (fs [.bool, (.sl (.int .i64)), (.sl (.int .i64))])))]))), .str]) }
noncomputable def cd_spec_l17Step_58 : Code := Code.part (bodyOf 38) [1, 1, 0, 1, 0, 0]
noncomputable def l_spec_l17Step_58 (O : Oracle E1) (a0 : (List Int) × Unit) (a1 : Int × (List Int) × (List Int) × (List (Bool × (List Int) × (List Int) × Unit)) × Unit) (a2 : List UInt8) (a3 : List Int) (a4 : Int) (a5 : Int) : Option ((((List Int) × Unit) × (Int × (List Int) × (List Int) × (List (Bool × (List Int) × (List Int) × Unit)) × Unit) × (List UInt8) × Unit) ⊕ (((List UInt8) × Unit) × (Unit))) := O.L 38 lh_spec_l17Step_58 cd_spec_l17Step_58 (a0, a1, a2, a3, a4, a5, ())
theorem k0l_spec_l17Step_58 (a0) (a1) (a2) (a3) (a4) (a5) : Ct E1 (fun O => l_spec_l17Step_58 O a0 a1 a2 a3 a4 a5) := Ct.L (E := E1) 38 lh_spec_l17Step_58 cd_spec_l17Step_58 (a0, a1, a2, a3, a4, a5, ())
noncomputable abbrev lh_spec_l17Step_250 : LoopH := { key := 500, ht := [2, 3, 5, 29, 30, 31], hτ := (fs [(.box (.agg (fs [(.sl (.int .i64))]))), (.box (.agg (fs [(.int .i64), (.sl (.int .i64)), (.sl (.int .i64)), (.sl (.agg (fs [.bool, (.sl (.int .i64)), (.sl (.int .i64))])))]))), .str, (.sl (.int .i64)), (.int .i64), (.int .i64)]), ex := 2, ot := [2, 3, 5], oτ := (fs [(.box (.agg (fs [(.sl (.int .i64))]))), (.box (.agg (fs [(.int .i64), (.sl (.int .i64)), (.sl (.int .i64)), (.sl (.agg (fs [.bool, (.sl (.int .i64)), (.sl (.int .i64))])))]))), .str]) }
noncomputable def cd_spec_l17Step_250 : Code := Code.part (bodyOf 38) [1, 1, 1, 1, 0, 1, 0, 0]
noncomputable def l_spec_l17Step_250 (O : Oracle E1) (a0 : (List Int) × Unit) (a1 : Int × (List Int) × (List Int) × (List (Bool × (List Int) × (List Int) × Unit)) × Unit) (a2 : List UInt8) (a3 : List Int) (a4 : Int) (a5 : Int) : Option ((((List Int) × Unit) × (Int × (List Int) × (List Int) × (List (Bool × (List Int) × (List Int) × Unit)) × Unit) × (List UInt8) × Unit) ⊕ (((List UInt8) × Unit) × (Unit))) := O.L 38 lh_spec_l17Step_250 cd_spec_l17Step_250 (a0, a1, a2, a3, a4, a5, ())
theorem k0l_spec_l17Step_250 (a0) (a1) (a2) (a3) (a4) (a5) : Ct E1 (fun O => l_spec_l17Step_250 O a0 a1 a2 a3 a4 a5) := Ct.L (E := E1) 38 lh_spec_l17Step_250 cd_spec_l17Step_250 (a0, a1, a2, a3, a4, a5, ())
noncomputable abbrev lh_laws_toLitS_58 : LoopH := { key := 116, ht := [0, 3, 4], hτ := (fs [(.sl (.agg (fs [.bool, (.sl (.int .i64)), (.sl (.int .i64))]))), (.own (.agg (fs [.bool, (.own (.int .i64)), (.own (.int .i64))]))), (.int .i64)]), ex := 0, ot := [3], oτ := (fs [(.own (.agg (fs [.bool, (.own (.int .i64)), (.own (.int .i64))])))]) }
noncomputable def cd_laws_toLitS_58 : Code := Code.part (bodyOf 30) [1, 1, 0, 1, 0, 0]
noncomputable def l_laws_toLitS_58 (O : Oracle E1) (a0 : List (Bool × (List Int) × (List Int) × Unit)) (a1 : List (Bool × (List Int) × (List Int) × Unit)) (a2 : Int) : Option (((List (Bool × (List Int) × (List Int) × Unit)) × Unit) ⊕ (((List (Bool × (List Int) × (List Int) × Unit)) × Unit) × (Unit))) := O.L 30 lh_laws_toLitS_58 cd_laws_toLitS_58 (a0, a1, a2, ())
theorem k0l_laws_toLitS_58 (a0) (a1) (a2) : Ct E1 (fun O => l_laws_toLitS_58 O a0 a1 a2) := Ct.L (E := E1) 30 lh_laws_toLitS_58 cd_laws_toLitS_58 (a0, a1, a2, ())
noncomputable abbrev lh_slices_IndexFunc_int_int__impl_GoodSign_1_26 : LoopH := { key := 52, ht := [0, 1, 7, 8], hτ := (fs [(.sl (.int .i64)), (.fn 53 (fs [])), (.int .i64), (.int .i64)]), ex := 0, ot := [], oτ := (fs []) }
noncomputable def cd_slices_IndexFunc_int_int__impl_GoodSign_1_26 : Code := Code.part (bodyOf 72) [1, 0, 1, 0, 0]
noncomputable def l_slices_IndexFunc_int_int__impl_GoodSign_1_26 (O : Oracle E1) (a0 : List Int) (a1 : Unit) (a2 : Int) (a3 : Int) : Option ((Unit) ⊕ ((Int × Unit) × (Unit))) := O.L 3539016 lh_slices_IndexFunc_int_int__impl_GoodSign_1_26 cd_slices_IndexFunc_int_int__impl_GoodSign_1_26 (a0, a1, a2, a3, ())
theorem k0l_slices_IndexFunc_int_int__impl_GoodSign_1_26 (a0) (a1) (a2) (a3) : Ct E1 (fun O => l_slices_IndexFunc_int_int__impl_GoodSign_1_26 O a0 a1 a2 a3) := Ct.L (E := E1) 3539016 lh_slices_IndexFunc_int_int__impl_GoodSign_1_26 cd_slices_IndexFunc_int_int__impl_GoodSign_1_26 (a0, a1, a2, a3, ())
noncomputable abbrev lh_impl_Sign_isTerm_122 : LoopH := { key := 244, ht := [2, 5, 11, 12, 13], hτ := (fs [(.box (.agg (fs [(.sl (.int .i64))]))), (.int .i64), (.sl (.int .i64)), (.int .i64), (.int .i64)]), ex := 0, ot := [5], oτ := (fs [(.int .i64)]) }
noncomputable def cd_impl_Sign_isTerm_122 : Code := Code.part (bodyOf 84) [1, 1, 1, 0, 1, 0, 0]
noncomputable def l_impl_Sign_isTerm_122 (O : Oracle E1) (a0 : (List Int) × Unit) (a1 : Int) (a2 : List Int) (a3 : Int) (a4 : Int) : Option ((Int × Unit) ⊕ ((Bool × Unit) × (Unit))) := O.L 84 lh_impl_Sign_isTerm_122 cd_impl_Sign_isTerm_122 (a0, a1, a2, a3, a4, ())
theorem k0l_impl_Sign_isTerm_122 (a0) (a1) (a2) (a3) (a4) : Ct E1 (fun O => l_impl_Sign_isTerm_122 O a0 a1 a2 a3 a4) := Ct.L (E := E1) 84 lh_impl_Sign_isTerm_122 cd_impl_Sign_isTerm_122 (a0, a1, a2, a3, a4, ())
noncomputable abbrev lh_slices_IndexFunc_impl_Lit_impl_Lit__impl_Sign_isClause_1_26 : LoopH := { key := 52, ht := [0, 1, 7, 8], hτ := (fs [(.sl (.agg (fs [.bool, (.sl (.int .i64)), (.sl (.int .i64))]))), (.fn 75 (fs [(.ptr (.agg (fs [(.sl (.int .i64))])))])), (.int .i64), (.int .i64)]), ex := 0, ot := [], oτ := (fs []) }
noncomputable def cd_slices_IndexFunc_impl_Lit_impl_Lit__impl_Sign_isClause_1_26 : Code := Code.part (bodyOf 83) [1, 0, 1, 0, 0]
noncomputable def l_slices_IndexFunc_impl_Lit_impl_Lit__impl_Sign_isClause_1_26 (O : Oracle E1) (a0 : List (Bool × (List Int) × (List Int) × Unit)) (a1 : ((List Int) × Unit) × Unit) (a2 : Int) (a3 : Int) : Option ((Unit) ⊕ ((Int × Unit) × (Unit))) := O.L 4980819 lh_slices_IndexFunc_impl_Lit_impl_Lit__impl_Sign_isClause_1_26 cd_slices_IndexFunc_impl_Lit_impl_Lit__impl_Sign_isClause_1_26 (a0, a1, a2, a3, ())
theorem k0l_slices_IndexFunc_impl_Lit_impl_Lit__impl_Sign_isClause_1_26 (a0) (a1) (a2) (a3) : Ct E1 (fun O => l_slices_IndexFunc_impl_Lit_impl_Lit__impl_Sign_isClause_1_26 O a0 a1 a2 a3) := Ct.L (E := E1) 4980819 lh_slices_IndexFunc_impl_Lit_impl_Lit__impl_Sign_isClause_1_26 cd_slices_IndexFunc_impl_Lit_impl_Lit__impl_Sign_isClause_1_26 (a0, a1, a2, a3, ())
noncomputable abbrev lh_slices_Concat_int_int_58 : LoopH := { key := 116, ht := [0, 3, 9, 10, 11], hτ := (fs [(.sl (.sl (.int .i64))), (.int .i64), (.sl (.sl (.int .i64))), (.int .i64), (.int .i64)]), ex := 0, ot := [0, 3], oτ := (fs [(.sl (.sl (.int .i64))), (.int .i64)]) }
noncomputable def cd_slices_Concat_int_int_58 : Code := Code.part (bodyOf 64) [1, 1, 0, 1, 0, 0]
noncomputable def l_slices_Concat_int_int_58 (O : Oracle E1) (a0 : List (List Int)) (a1 : Int) (a2 : List (List Int)) (a3 : Int) (a4 : Int) : Option (((List (List Int)) × Int × Unit) ⊕ (((List Int) × Unit) × (Unit))) := O.L 64 lh_slices_Concat_int_int_58 cd_slices_Concat_int_int_58 (a0, a1, a2, a3, a4, ())
theorem k0l_slices_Concat_int_int_58 (a0) (a1) (a2) (a3) (a4) : Ct E1 (fun O => l_slices_Concat_int_int_58 O a0 a1 a2 a3 a4) := Ct.L (E := E1) 64 lh_slices_Concat_int_int_58 cd_slices_Concat_int_int_58 (a0, a1, a2, a3, a4, ())
noncomputable abbrev lh_slices_Concat_int_int_250 : LoopH := { key := 500, ht := [6, 25, 26, 27], hτ := (fs [(.own (.int .i64)), (.sl (.sl (.int .i64))), (.int .i64), (.int .i64)]), ex := 2, ot := [6], oτ := (fs [(.own (.int .i64))]) }
noncomputable def cd_slices_Concat_int_int_250 : Code := Code.part (bodyOf 64) [1, 1, 1, 1, 0, 1, 0, 0]
noncomputable def l_slices_Concat_int_int_250 (O : Oracle E1) (a0 : List Int) (a1 : List (List Int)) (a2 : Int) (a3 : Int) : Option (((List Int) × Unit) ⊕ (((List Int) × Unit) × (Unit))) := O.L 64 lh_slices_Concat_int_int_250 cd_slices_Concat_int_int_250 (a0, a1, a2, a3, ())
theorem k0l_slices_Concat_int_int_250 (a0) (a1) (a2) (a3) : Ct E1 (fun O => l_slices_Concat_int_int_250 O a0 a1 a2 a3) := Ct.L (E := E1) 64 lh_slices_Concat_int_int_250 cd_slices_Concat_int_int_250 (a0, a1, a2, a3, ())
noncomputable abbrev lh_slices_IndexFunc_int_int__impl_Sign_isTold_1_26 : LoopH := { key := 52, ht := [0, 1, 7, 8], hτ := (fs [(.sl (.int .i64)), (.fn 65 (fs [])), (.int .i64), (.int .i64)]), ex := 0, ot := [], oτ := (fs []) }
noncomputable def cd_slices_IndexFunc_int_int__impl_Sign_isTold_1_26 : Code := Code.part (bodyOf 72) [1, 0, 1, 0, 0]
noncomputable def l_slices_IndexFunc_int_int__impl_Sign_isTold_1_26 (O : Oracle E1) (a0 : List Int) (a1 : Unit) (a2 : Int) (a3 : Int) : Option ((Unit) ⊕ ((Int × Unit) × (Unit))) := O.L 4325448 lh_slices_IndexFunc_int_int__impl_Sign_isTold_1_26 cd_slices_IndexFunc_int_int__impl_Sign_isTold_1_26 (a0, a1, a2, a3, ())
theorem k0l_slices_IndexFunc_int_int__impl_Sign_isTold_1_26 (a0) (a1) (a2) (a3) : Ct E1 (fun O => l_slices_IndexFunc_int_int__impl_Sign_isTold_1_26 O a0 a1 a2 a3) := Ct.L (E := E1) 4325448 lh_slices_IndexFunc_int_int__impl_Sign_isTold_1_26 cd_slices_IndexFunc_int_int__impl_Sign_isTold_1_26 (a0, a1, a2, a3, ())
noncomputable abbrev lh_impl_Sign_text_506 : LoopH := { key := 1012, ht := [1, 2, 4, 10, 11, 39, 40], hτ := (fs [(.own (.int .u8)), (.sl (.int .i64)), (.box (.agg (fs [(.sl (.int .i64))]))), (.int .i64), (.int .i64), (.int .i64), (.int .i64)]), ex := 0, ot := [1, 4, 10, 11], oτ := (fs [(.own (.int .u8)), (.box (.agg (fs [(.sl (.int .i64))]))), (.int .i64), (.int .i64)]) }
noncomputable def cd_impl_Sign_text_506 : Code := Code.part (bodyOf 78) [1, 1, 1, 1, 1, 0, 1, 0, 0]
noncomputable def l_impl_Sign_text_506 (O : Oracle E1) (a0 : List Int) (a1 : List Int) (a2 : (List Int) × Unit) (a3 : Int) (a4 : Int) (a5 : Int) (a6 : Int) : Option (((List Int) × ((List Int) × Unit) × Int × Int × Unit) ⊕ (((List Int) × Int × Unit) × (Unit))) := O.L 78 lh_impl_Sign_text_506 cd_impl_Sign_text_506 (a0, a1, a2, a3, a4, a5, a6, ())
theorem k0l_impl_Sign_text_506 (a0) (a1) (a2) (a3) (a4) (a5) (a6) : Ct E1 (fun O => l_impl_Sign_text_506 O a0 a1 a2 a3 a4 a5 a6) := Ct.L (E := E1) 78 lh_impl_Sign_text_506 cd_impl_Sign_text_506 (a0, a1, a2, a3, a4, a5, a6, ())
noncomputable abbrev lh_impl_Sign_clauseText_122 : LoopH := { key := 244, ht := [2, 5, 12, 13, 14], hτ := (fs [(.box (.agg (fs [(.sl (.int .i64))]))), .str, (.sl (.agg (fs [.bool, (.sl (.int .i64)), (.sl (.int .i64))]))), (.int .i64), (.int .i64)]), ex := 0, ot := [5], oτ := (fs [.str]) }
noncomputable def cd_impl_Sign_clauseText_122 : Code := Code.part (bodyOf 34) [1, 1, 1, 0, 1, 0, 0]
noncomputable def l_impl_Sign_clauseText_122 (O : Oracle E1) (a0 : (List Int) × Unit) (a1 : List UInt8) (a2 : List (Bool × (List Int) × (List Int) × Unit)) (a3 : Int) (a4 : Int) : Option (((List UInt8) × Unit) ⊕ (((List UInt8) × Unit) × (Unit))) := O.L 34 lh_impl_Sign_clauseText_122 cd_impl_Sign_clauseText_122 (a0, a1, a2, a3, a4, ())
theorem k0l_impl_Sign_clauseText_122 (a0) (a1) (a2) (a3) (a4) : Ct E1 (fun O => l_impl_Sign_clauseText_122 O a0 a1 a2 a3 a4) := Ct.L (E := E1) 34 lh_impl_Sign_clauseText_122 cd_impl_Sign_clauseText_122 (a0, a1, a2, a3, a4, ())
noncomputable abbrev lh_impl_numbers_58 : LoopH := { key := 116, ht := [3, 6, 7, 8], hτ := (fs [.str, (.sl (.int .i64)), (.int .i64), (.int .i64)]), ex := 0, ot := [3], oτ := (fs [.str]) }
noncomputable def cd_impl_numbers_58 : Code := Code.part (bodyOf 67) [1, 1, 0, 1, 0, 0]
noncomputable def l_impl_numbers_58 (O : Oracle E1) (a0 : List UInt8) (a1 : List Int) (a2 : Int) (a3 : Int) : Option (((List UInt8) × Unit) ⊕ (((List UInt8) × Unit) × (Unit))) := O.L 67 lh_impl_numbers_58 cd_impl_numbers_58 (a0, a1, a2, a3, ())
theorem k0l_impl_numbers_58 (a0) (a1) (a2) (a3) : Ct E1 (fun O => l_impl_numbers_58 O a0 a1 a2 a3) := Ct.L (E := E1) 67 lh_impl_numbers_58 cd_impl_numbers_58 (a0, a1, a2, a3, ())
noncomputable abbrev lh_laws_eqLitS_58 : LoopH := { key := 116, ht := [0, 1, 5], hτ := (fs [(.sl (.agg (fs [.bool, (.sl (.int .i64)), (.sl (.int .i64))]))), (.sl (.agg (fs [.bool, (.sl (.int .i64)), (.sl (.int .i64))]))), (.int .i64)]), ex := 0, ot := [], oτ := (fs []) }
noncomputable def cd_laws_eqLitS_58 : Code := Code.part (bodyOf 36) [1, 1, 0, 1, 0, 0]
noncomputable def l_laws_eqLitS_58 (O : Oracle E1) (a0 : List (Bool × (List Int) × (List Int) × Unit)) (a1 : List (Bool × (List Int) × (List Int) × Unit)) (a2 : Int) : Option ((Unit) ⊕ ((Bool × Unit) × (Unit))) := O.L 36 lh_laws_eqLitS_58 cd_laws_eqLitS_58 (a0, a1, a2, ())
theorem k0l_laws_eqLitS_58 (a0) (a1) (a2) : Ct E1 (fun O => l_laws_eqLitS_58 O a0 a1 a2) := Ct.L (E := E1) 36 lh_laws_eqLitS_58 cd_laws_eqLitS_58 (a0, a1, a2, ())
end Go.Proofs.YtndnhbihcnlpaaaDoorSt.Ev
