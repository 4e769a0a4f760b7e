/- The functions' names, at every oracle: printed by sym.py; no condition. -/
import Derived.Test.YtejklhcalinhpaaCtEnv
import Derived.Test.YtejklhcalinhpaaCtEvLm
namespace Go.Proofs.YtejklhcalinhpaaCt.Ev
open Go
set_option maxRecDepth 100000
set_option autoImplicit false
set_option linter.unusedVariables false

noncomputable abbrev M : Oracle E1 := Lm E1
noncomputable def c_laws_szIntS (O : Oracle E1) (a0 : List Int) (a1 : Int) : Option ((Int × Unit) × (Unit)) := O.C 54 (a0, a1, ())
theorem k0_laws_szIntS (a0 : List Int) (a1 : Int) : Ct E1 (fun O => c_laws_szIntS O a0 a1) := by unfold c_laws_szIntS; exact Ct.C (E := E1) 54 (a0, a1, ())
noncomputable def c_laws_szSign (O : Oracle E1) (a0 : (List Int) × Unit) (a1 : Int) : Option ((Int × Unit) × (Unit)) := O.C 11 (a0, a1, ())
theorem k0_laws_szSign (a0 : (List Int) × Unit) (a1 : Int) : Ct E1 (fun O => c_laws_szSign O a0 a1) := by unfold c_laws_szSign; exact Ct.C (E := E1) 11 (a0, a1, ())
noncomputable def c_laws_toIntS (O : Oracle E1) (a0 : List Int) : Option (((List Int) × Unit) × (Unit)) := O.C 59 (a0, ())
theorem k0_laws_toIntS (a0 : List Int) : Ct E1 (fun O => c_laws_toIntS O a0) := by unfold c_laws_toIntS; exact Ct.C (E := E1) 59 (a0, ())
noncomputable def c_laws_toSign (O : Oracle E1) (a0 : (List Int) × Unit) : Option ((((List Int) × Unit) × Unit) × (Unit)) := O.C 14 (a0, ())
theorem k0_laws_toSign (a0 : (List Int) × Unit) : Ct E1 (fun O => c_laws_toSign O a0) := by unfold c_laws_toSign; exact Ct.C (E := E1) 14 (a0, ())
noncomputable def c_laws_eqIntS (O : Oracle E1) (a0 : List Int) (a1 : List Int) : Option ((Bool × Unit) × (Unit)) := O.C 64 (a0, a1, ())
theorem k0_laws_eqIntS (a0 : List Int) (a1 : List Int) : Ct E1 (fun O => c_laws_eqIntS O a0 a1) := by unfold c_laws_eqIntS; exact Ct.C (E := E1) 64 (a0, a1, ())
noncomputable def c_laws_eqSign (O : Oracle E1) (a0 : (List Int) × Unit) (a1 : (List Int) × Unit) : Option ((Bool × Unit) × (Unit)) := O.C 18 (a0, a1, ())
theorem k0_laws_eqSign (a0 : (List Int) × Unit) (a1 : (List Int) × Unit) : Ct E1 (fun O => c_laws_eqSign O a0 a1) := by unfold c_laws_eqSign; exact Ct.C (E := E1) 18 (a0, a1, ())
noncomputable def c_laws_szLit (O : Oracle E1) (a0 : Bool × (List Int) × (List Int) × Unit) (a1 : Int) : Option ((Int × Unit) × (Unit)) := O.C 68 (a0, a1, ())
theorem k0_laws_szLit (a0 : Bool × (List Int) × (List Int) × Unit) (a1 : Int) : Ct E1 (fun O => c_laws_szLit O a0 a1) := by unfold c_laws_szLit; exact Ct.C (E := E1) 68 (a0, a1, ())
noncomputable def c_laws_szLitS (O : Oracle E1) (a0 : List (Bool × (List Int) × (List Int) × Unit)) (a1 : Int) : Option ((Int × Unit) × (Unit)) := O.C 22 (a0, a1, ())
theorem k0_laws_szLitS (a0 : List (Bool × (List Int) × (List Int) × Unit)) (a1 : Int) : Ct E1 (fun O => c_laws_szLitS O a0 a1) := by unfold c_laws_szLitS; exact Ct.C (E := E1) 22 (a0, a1, ())
noncomputable def c_spec_l1In (O : Oracle E1) (a0 : Int) (a1 : Int) (a2 : Int) : Option ((Bool × Unit) × (Unit)) := O.C 57 (a0, a1, a2, ())
theorem k0_spec_l1In (a0 : Int) (a1 : Int) (a2 : Int) : Ct E1 (fun O => c_spec_l1In O a0 a1 a2) := by unfold c_spec_l1In; exact Ct.C (E := E1) 57 (a0, a1, a2, ())
noncomputable def c_spec_l1All (O : Oracle E1) (a0 : List Int) (a1 : Int) (a2 : Int) : Option ((Bool × Unit) × (Unit)) := O.C 106 (a0, a1, a2, ())
theorem k0_spec_l1All (a0 : List Int) (a1 : Int) (a2 : Int) : Ct E1 (fun O => c_spec_l1All O a0 a1 a2) := by unfold c_spec_l1All; exact Ct.C (E := E1) 106 (a0, a1, a2, ())
noncomputable def c_spec_GoodSign (O : Oracle E1) (a0 : (List Int) × Unit) : Option ((Bool × Unit) × (Unit)) := O.C 76 (a0, ())
theorem k0_spec_GoodSign (a0 : (List Int) × Unit) : Ct E1 (fun O => c_spec_GoodSign O a0) := by unfold c_spec_GoodSign; exact Ct.C (E := E1) 76 (a0, ())
noncomputable def c_spec_l1End (O : Oracle E1) (a0 : (List Int) × Unit) (a1 : List Int) (a2 : Int) : Option ((Int × Unit) × (Unit)) := O.C 131 (a0, a1, a2, ())
theorem k0_spec_l1End (a0 : (List Int) × Unit) (a1 : List Int) (a2 : Int) : Ct E1 (fun O => c_spec_l1End O a0 a1 a2) := by unfold c_spec_l1End; exact Ct.C (E := E1) 131 (a0, a1, a2, ())
noncomputable def c_spec_l1Term (O : Oracle E1) (a0 : (List Int) × Unit) (a1 : List Int) : Option ((Bool × Unit) × (Unit)) := O.C 124 (a0, a1, ())
theorem k0_spec_l1Term (a0 : (List Int) × Unit) (a1 : List Int) : Ct E1 (fun O => c_spec_l1Term O a0 a1) := by unfold c_spec_l1Term; exact Ct.C (E := E1) 124 (a0, a1, ())
noncomputable def c_spec_l4Lit (O : Oracle E1) (a0 : (List Int) × Unit) (a1 : Bool × (List Int) × (List Int) × Unit) : Option ((Bool × Unit) × (Unit)) := O.C 118 (a0, a1, ())
theorem k0_spec_l4Lit (a0 : (List Int) × Unit) (a1 : Bool × (List Int) × (List Int) × Unit) : Ct E1 (fun O => c_spec_l4Lit O a0 a1) := by unfold c_spec_l4Lit; exact Ct.C (E := E1) 118 (a0, a1, ())
noncomputable def c_spec_l4Clause (O : Oracle E1) (a0 : (List Int) × Unit) (a1 : List (Bool × (List Int) × (List Int) × Unit)) : Option ((Bool × Unit) × (Unit)) := O.C 102 (a0, a1, ())
theorem k0_spec_l4Clause (a0 : (List Int) × Unit) (a1 : List (Bool × (List Int) × (List Int) × Unit)) : Ct E1 (fun O => c_spec_l4Clause O a0 a1) := by unfold c_spec_l4Clause; exact Ct.C (E := E1) 102 (a0, a1, ())
noncomputable def c_spec_GoodClause (O : Oracle E1) (a0 : (List Int) × Unit) (a1 : List (Bool × (List Int) × (List Int) × Unit)) : Option ((Bool × Unit) × (Unit)) := O.C 69 (a0, a1, ())
theorem k0_spec_GoodClause (a0 : (List Int) × Unit) (a1 : List (Bool × (List Int) × (List Int) × Unit)) : Ct E1 (fun O => c_spec_GoodClause O a0 a1) := by unfold c_spec_GoodClause; exact Ct.C (E := E1) 69 (a0, a1, ())
noncomputable def c_spec_l1Args (O : Oracle E1) (a0 : (List Int) × Unit) (a1 : List Int) (a2 : Int) : Option (((List Int) × Unit) × (Unit)) := O.C 119 (a0, a1, a2, ())
theorem k0_spec_l1Args (a0 : (List Int) × Unit) (a1 : List Int) (a2 : Int) : Ct E1 (fun O => c_spec_l1Args O a0 a1 a2) := by unfold c_spec_l1Args; exact Ct.C (E := E1) 119 (a0, a1, a2, ())
noncomputable def c_spec_l1TermText (O : Oracle E1) (a0 : (List Int) × Unit) (a1 : List Int) (a2 : Int) : Option (((List UInt8) × Unit) × (Unit)) := O.C 103 (a0, a1, a2, ())
theorem k0_spec_l1TermText (a0 : (List Int) × Unit) (a1 : List Int) (a2 : Int) : Ct E1 (fun O => c_spec_l1TermText O a0 a1 a2) := by unfold c_spec_l1TermText; exact Ct.C (E := E1) 103 (a0, a1, a2, ())
noncomputable def c_spec_l4Text (O : Oracle E1) (a0 : (List Int) × Unit) (a1 : List (Bool × (List Int) × (List Int) × Unit)) : Option (((List UInt8) × Unit) × (Unit)) := O.C 70 (a0, a1, ())
theorem k0_spec_l4Text (a0 : (List Int) × Unit) (a1 : List (Bool × (List Int) × (List Int) × Unit)) : Ct E1 (fun O => c_spec_l4Text O a0 a1) := by unfold c_spec_l4Text; exact Ct.C (E := E1) 70 (a0, a1, ())
noncomputable def c_spec_ClauseText (O : Oracle E1) (a0 : (List Int) × Unit) (a1 : List (Bool × (List Int) × (List Int) × Unit)) : Option (((List UInt8) × Bool × Unit) × (Unit)) := O.C 23 (a0, a1, ())
theorem k0_spec_ClauseText (a0 : (List Int) × Unit) (a1 : List (Bool × (List Int) × (List Int) × Unit)) : Ct E1 (fun O => c_spec_ClauseText O a0 a1) := by unfold c_spec_ClauseText; exact Ct.C (E := E1) 23 (a0, a1, ())
noncomputable def c_laws_toLit (O : Oracle E1) (a0 : Bool × (List Int) × (List Int) × Unit) : Option (((Bool × (List Int) × (List Int) × Unit) × Unit) × (Unit)) := O.C 71 (a0, ())
theorem k0_laws_toLit (a0 : Bool × (List Int) × (List Int) × Unit) : Ct E1 (fun O => c_laws_toLit O a0) := by unfold c_laws_toLit; exact Ct.C (E := E1) 71 (a0, ())
noncomputable def c_laws_toLitS (O : Oracle E1) (a0 : List (Bool × (List Int) × (List Int) × Unit)) : Option (((List (Bool × (List Int) × (List Int) × Unit)) × Unit) × (Unit)) := O.C 24 (a0, ())
theorem k0_laws_toLitS (a0 : List (Bool × (List Int) × (List Int) × Unit)) : Ct E1 (fun O => c_laws_toLitS O a0) := by unfold c_laws_toLitS; exact Ct.C (E := E1) 24 (a0, ())
noncomputable def c_impl_GoodSign_1 (O : Oracle E1) (a0 : Int) : Option ((Bool × Unit) × (Unit)) := O.C 114 (a0, ())
theorem k0_impl_GoodSign_1 (a0 : Int) : Ct E1 (fun O => c_impl_GoodSign_1 O a0) := by unfold c_impl_GoodSign_1; exact Ct.C (E := E1) 114 (a0, ())
noncomputable def c_slices_IndexFunc_int_int__impl_GoodSign_1 (O : Oracle E1) (a0 : List Int) (a1 : Unit) : Option ((Int × Unit) × (Unit)) := O.C 7536769 (a0, a1, ())
theorem k0_slices_IndexFunc_int_int__impl_GoodSign_1 (a0 : List Int) (a1 : Unit) : Ct E1 (fun O => c_slices_IndexFunc_int_int__impl_GoodSign_1 O a0 a1) := by unfold c_slices_IndexFunc_int_int__impl_GoodSign_1; exact Ct.C (E := E1) 7536769 (a0, a1, ())
noncomputable def c_slices_ContainsFunc_int_int__impl_GoodSign_1 (O : Oracle E1) (a0 : List Int) (a1 : Unit) : Option ((Bool × Unit) × (Unit)) := O.C 7536753 (a0, a1, ())
theorem k0_slices_ContainsFunc_int_int__impl_GoodSign_1 (a0 : List Int) (a1 : Unit) : Ct E1 (fun O => c_slices_ContainsFunc_int_int__impl_GoodSign_1 O a0 a1) := by unfold c_slices_ContainsFunc_int_int__impl_GoodSign_1; exact Ct.C (E := E1) 7536753 (a0, a1, ())
noncomputable def c_impl_GoodSign (O : Oracle E1) (a0 : (List Int) × Unit) : Option ((Bool × Unit) × (Unit)) := O.C 99 (a0, ())
theorem k0_impl_GoodSign (a0 : (List Int) × Unit) : Ct E1 (fun O => c_impl_GoodSign O a0) := by unfold c_impl_GoodSign; exact Ct.C (E := E1) 99 (a0, ())
noncomputable def c_impl_Sign_args (O : Oracle E1) (a0 : (List Int) × Unit) (a1 : Int) : Option ((Int × Unit) × (Unit)) := O.C 134 (a0, a1, ())
theorem k0_impl_Sign_args (a0 : (List Int) × Unit) (a1 : Int) : Ct E1 (fun O => c_impl_Sign_args O a0 a1) := by unfold c_impl_Sign_args; exact Ct.C (E := E1) 134 (a0, a1, ())
noncomputable def c_impl_Sign_isTerm (O : Oracle E1) (a0 : (List Int) × Unit) (a1 : List Int) : Option ((Bool × Unit) × (Unit)) := O.C 133 (a0, a1, ())
theorem k0_impl_Sign_isTerm (a0 : (List Int) × Unit) (a1 : List Int) : Ct E1 (fun O => c_impl_Sign_isTerm O a0 a1) := by unfold c_impl_Sign_isTerm; exact Ct.C (E := E1) 133 (a0, a1, ())
noncomputable def c_impl_Sign_isLit (O : Oracle E1) (a0 : (List Int) × Unit) (a1 : Bool × (List Int) × (List Int) × Unit) : Option ((Bool × Unit) × (Unit)) := O.C 122 (a0, a1, ())
theorem k0_impl_Sign_isLit (a0 : (List Int) × Unit) (a1 : Bool × (List Int) × (List Int) × Unit) : Ct E1 (fun O => c_impl_Sign_isLit O a0 a1) := by unfold c_impl_Sign_isLit; exact Ct.C (E := E1) 122 (a0, a1, ())
noncomputable def c_impl_Sign_isClause_1 (O : Oracle E1) (a0 : Bool × (List Int) × (List Int) × Unit) (a1 : (List Int) × Unit) : Option ((Bool × Unit) × (Unit)) := O.C 121 (a0, a1, ())
theorem k0_impl_Sign_isClause_1 (a0 : Bool × (List Int) × (List Int) × Unit) (a1 : (List Int) × Unit) : Ct E1 (fun O => c_impl_Sign_isClause_1 O a0 a1) := by unfold c_impl_Sign_isClause_1; exact Ct.C (E := E1) 121 (a0, a1, ())
noncomputable def c_slices_IndexFunc_impl_Lit_impl_Lit__impl_Sign_isClause_1 (O : Oracle E1) (a0 : List (Bool × (List Int) × (List Int) × Unit)) (a1 : ((List Int) × Unit) × Unit) : Option ((Int × Unit) × (Unit)) := O.C 7995524 (a0, a1, ())
theorem k0_slices_IndexFunc_impl_Lit_impl_Lit__impl_Sign_isClause_1 (a0 : List (Bool × (List Int) × (List Int) × Unit)) (a1 : ((List Int) × Unit) × Unit) : Ct E1 (fun O => c_slices_IndexFunc_impl_Lit_impl_Lit__impl_Sign_isClause_1 O a0 a1) := by unfold c_slices_IndexFunc_impl_Lit_impl_Lit__impl_Sign_isClause_1; exact Ct.C (E := E1) 7995524 (a0, a1, ())
noncomputable def c_slices_ContainsFunc_impl_Lit_impl_Lit__impl_Sign_isClause_1 (O : Oracle E1) (a0 : List (Bool × (List Int) × (List Int) × Unit)) (a1 : ((List Int) × Unit) × Unit) : Option ((Bool × Unit) × (Unit)) := O.C 7995512 (a0, a1, ())
theorem k0_slices_ContainsFunc_impl_Lit_impl_Lit__impl_Sign_isClause_1 (a0 : List (Bool × (List Int) × (List Int) × Unit)) (a1 : ((List Int) × Unit) × Unit) : Ct E1 (fun O => c_slices_ContainsFunc_impl_Lit_impl_Lit__impl_Sign_isClause_1 O a0 a1) := by unfold c_slices_ContainsFunc_impl_Lit_impl_Lit__impl_Sign_isClause_1; exact Ct.C (E := E1) 7995512 (a0, a1, ())
noncomputable def c_impl_Sign_isClause (O : Oracle E1) (a0 : (List Int) × Unit) (a1 : List (Bool × (List Int) × (List Int) × Unit)) : Option ((Bool × Unit) × (Unit)) := O.C 104 (a0, a1, ())
theorem k0_impl_Sign_isClause (a0 : (List Int) × Unit) (a1 : List (Bool × (List Int) × (List Int) × Unit)) : Ct E1 (fun O => c_impl_Sign_isClause O a0 a1) := by unfold c_impl_Sign_isClause; exact Ct.C (E := E1) 104 (a0, a1, ())
noncomputable def c_impl_GoodClause (O : Oracle E1) (a0 : (List Int) × Unit) (a1 : List (Bool × (List Int) × (List Int) × Unit)) : Option ((Bool × Unit) × (Unit)) := O.C 72 (a0, a1, ())
theorem k0_impl_GoodClause (a0 : (List Int) × Unit) (a1 : List (Bool × (List Int) × (List Int) × Unit)) : Ct E1 (fun O => c_impl_GoodClause O a0 a1) := by unfold c_impl_GoodClause; exact Ct.C (E := E1) 72 (a0, a1, ())
noncomputable def c_impl_Sign_text (O : Oracle E1) (a0 : (List Int) × Unit) (a1 : List Int) (a2 : List Int) (a3 : Int) : Option (((List Int) × Int × Unit) × (Unit)) := O.C 123 (a0, a1, a2, a3, ())
theorem k0_impl_Sign_text (a0 : (List Int) × Unit) (a1 : List Int) (a2 : List Int) (a3 : Int) : Ct E1 (fun O => c_impl_Sign_text O a0 a1 a2 a3) := by unfold c_impl_Sign_text; exact Ct.C (E := E1) 123 (a0, a1, a2, a3, ())
noncomputable def c_impl_Sign_termText (O : Oracle E1) (a0 : (List Int) × Unit) (a1 : List Int) : Option (((List UInt8) × Unit) × (Unit)) := O.C 105 (a0, a1, ())
theorem k0_impl_Sign_termText (a0 : (List Int) × Unit) (a1 : List Int) : Ct E1 (fun O => c_impl_Sign_termText O a0 a1) := by unfold c_impl_Sign_termText; exact Ct.C (E := E1) 105 (a0, a1, ())
noncomputable def c_impl_Sign_clauseText (O : Oracle E1) (a0 : (List Int) × Unit) (a1 : List (Bool × (List Int) × (List Int) × Unit)) : Option (((List UInt8) × Unit) × (Unit)) := O.C 73 (a0, a1, ())
theorem k0_impl_Sign_clauseText (a0 : (List Int) × Unit) (a1 : List (Bool × (List Int) × (List Int) × Unit)) : Ct E1 (fun O => c_impl_Sign_clauseText O a0 a1) := by unfold c_impl_Sign_clauseText; exact Ct.C (E := E1) 73 (a0, a1, ())
noncomputable def c_impl_ClauseText (O : Oracle E1) (a0 : (List Int) × Unit) (a1 : List (Bool × (List Int) × (List Int) × Unit)) : Option (((List UInt8) × Bool × Unit) × (Unit)) := O.C 25 (a0, a1, ())
theorem k0_impl_ClauseText (a0 : (List Int) × Unit) (a1 : List (Bool × (List Int) × (List Int) × Unit)) : Ct E1 (fun O => c_impl_ClauseText O a0 a1) := by unfold c_impl_ClauseText; exact Ct.C (E := E1) 25 (a0, a1, ())
noncomputable def c_laws_eqLit (O : Oracle E1) (a0 : Bool × (List Int) × (List Int) × Unit) (a1 : Bool × (List Int) × (List Int) × Unit) : Option ((Bool × Unit) × (Unit)) := O.C 74 (a0, a1, ())
theorem k0_laws_eqLit (a0 : Bool × (List Int) × (List Int) × Unit) (a1 : Bool × (List Int) × (List Int) × Unit) : Ct E1 (fun O => c_laws_eqLit O a0 a1) := by unfold c_laws_eqLit; exact Ct.C (E := E1) 74 (a0, a1, ())
noncomputable def c_laws_eqLitS (O : Oracle E1) (a0 : List (Bool × (List Int) × (List Int) × Unit)) (a1 : List (Bool × (List Int) × (List Int) × Unit)) : Option ((Bool × Unit) × (Unit)) := O.C 26 (a0, a1, ())
theorem k0_laws_eqLitS (a0 : List (Bool × (List Int) × (List Int) × Unit)) (a1 : List (Bool × (List Int) × (List Int) × Unit)) : Ct E1 (fun O => c_laws_eqLitS O a0 a1) := by unfold c_laws_eqLitS; exact Ct.C (E := E1) 26 (a0, a1, ())
noncomputable def c_laws_FnExactClauseText (O : Oracle E1) (a0 : (List Int) × Unit) (a1 : List (Bool × (List Int) × (List Int) × Unit)) : Option ((Bool × Unit) × (Unit)) := O.C 5 (a0, a1, ())
theorem k0_laws_FnExactClauseText (a0 : (List Int) × Unit) (a1 : List (Bool × (List Int) × (List Int) × Unit)) : Ct E1 (fun O => c_laws_FnExactClauseText O a0 a1) := by unfold c_laws_FnExactClauseText; exact Ct.C (E := E1) 5 (a0, a1, ())
noncomputable abbrev lh_laws_toIntS_58 : LoopH := { key := 116, ht := [0, 3, 4], hτ := (fs [(.sl (.int .i64)), (.own (.int .i64)), (.int .i64)]), ex := 0, ot := [3], oτ := (fs [(.own (.int .i64))]) }
noncomputable def cd_laws_toIntS_58 : Code := Code.part (bodyOf 59) [1, 1, 0, 1, 0, 0]
noncomputable def l_laws_toIntS_58 (O : Oracle E1) (a0 : List Int) (a1 : List Int) (a2 : Int) : Option (((List Int) × Unit) ⊕ (((List Int) × Unit) × (Unit))) := O.L 59 lh_laws_toIntS_58 cd_laws_toIntS_58 (a0, a1, a2, ())
theorem k0l_laws_toIntS_58 (a0 : List Int) (a1 : List Int) (a2 : Int) : Ct E1 (fun O => l_laws_toIntS_58 O a0 a1 a2) := by unfold l_laws_toIntS_58; exact Ct.L (E := E1) 59 lh_laws_toIntS_58 cd_laws_toIntS_58 (a0, a1, a2, ())
noncomputable abbrev lh_laws_eqIntS_58 : LoopH := { key := 116, ht := [0, 1, 5], hτ := (fs [(.sl (.int .i64)), (.sl (.int .i64)), (.int .i64)]), ex := 0, ot := [], oτ := (fs []) }
noncomputable def cd_laws_eqIntS_58 : Code := Code.part (bodyOf 64) [1, 1, 0, 1, 0, 0]
noncomputable def l_laws_eqIntS_58 (O : Oracle E1) (a0 : List Int) (a1 : List Int) (a2 : Int) : Option ((Unit) ⊕ ((Bool × Unit) × (Unit))) := O.L 64 lh_laws_eqIntS_58 cd_laws_eqIntS_58 (a0, a1, a2, ())
theorem k0l_laws_eqIntS_58 (a0 : List Int) (a1 : List Int) (a2 : Int) : Ct E1 (fun O => l_laws_eqIntS_58 O a0 a1 a2) := by unfold l_laws_eqIntS_58; exact Ct.L (E := E1) 64 lh_laws_eqIntS_58 cd_laws_eqIntS_58 (a0, a1, a2, ())
noncomputable abbrev lh_laws_szLitS_122 : LoopH := { key := 244, ht := [0, 1, 5], hτ := (fs [(.sl (.agg (fs [.bool, (.sl (.int .i64)), (.sl (.int .i64))]))), (.int .i64), (.int .i64)]), ex := 0, ot := [1], oτ := (fs [(.int .i64)]) }
noncomputable def cd_laws_szLitS_122 : Code := Code.part (bodyOf 22) [1, 1, 1, 0, 1, 0, 0]
noncomputable def l_laws_szLitS_122 (O : Oracle E1) (a0 : List (Bool × (List Int) × (List Int) × Unit)) (a1 : Int) (a2 : Int) : Option ((Int × Unit) ⊕ ((Int × Unit) × (Unit))) := O.L 22 lh_laws_szLitS_122 cd_laws_szLitS_122 (a0, a1, a2, ())
theorem k0l_laws_szLitS_122 (a0 : List (Bool × (List Int) × (List Int) × Unit)) (a1 : Int) (a2 : Int) : Ct E1 (fun O => l_laws_szLitS_122 O a0 a1 a2) := by unfold l_laws_szLitS_122; exact Ct.L (E := E1) 22 lh_laws_szLitS_122 cd_laws_szLitS_122 (a0, a1, a2, ())
noncomputable abbrev lh_spec_l1All_26 : LoopH := { key := 52, ht := [1, 2, 9, 10, 11], hτ := (fs [(.int .i64), (.int .i64), (.sl (.int .i64)), (.int .i64), (.int .i64)]), ex := 0, ot := [], oτ := (fs []) }
noncomputable def cd_spec_l1All_26 : Code := Code.part (bodyOf 106) [1, 0, 1, 0, 0]
noncomputable def l_spec_l1All_26 (O : Oracle E1) (a0 : Int) (a1 : Int) (a2 : List Int) (a3 : Int) (a4 : Int) : Option ((Unit) ⊕ ((Bool × Unit) × (Unit))) := O.L 106 lh_spec_l1All_26 cd_spec_l1All_26 (a0, a1, a2, a3, a4, ())
theorem k0l_spec_l1All_26 (a0 : Int) (a1 : Int) (a2 : List Int) (a3 : Int) (a4 : Int) : Ct E1 (fun O => l_spec_l1All_26 O a0 a1 a2 a3 a4) := by unfold l_spec_l1All_26; exact Ct.L (E := E1) 106 lh_spec_l1All_26 cd_spec_l1All_26 (a0, a1, a2, a3, a4, ())
noncomputable abbrev lh_spec_l1End_28 : LoopH := { key := 56, ht := [1, 2, 3, 7], hτ := (fs [(.sl (.int .i64)), (.int .i64), (.box (.agg (fs [(.sl (.int .i64))]))), (.int .i64)]), ex := 0, ot := [2], oτ := (fs [(.int .i64)]) }
noncomputable def cd_spec_l1End_28 : Code := Code.part (bodyOf 131) [1, 1, 0, 0, 0]
noncomputable def l_spec_l1End_28 (O : Oracle E1) (a0 : List Int) (a1 : Int) (a2 : (List Int) × Unit) (a3 : Int) : Option ((Int × Unit) ⊕ ((Int × Unit) × (Unit))) := O.L 131 lh_spec_l1End_28 cd_spec_l1End_28 (a0, a1, a2, a3, ())
theorem k0l_spec_l1End_28 (a0 : List Int) (a1 : Int) (a2 : (List Int) × Unit) (a3 : Int) : Ct E1 (fun O => l_spec_l1End_28 O a0 a1 a2 a3) := by unfold l_spec_l1End_28; exact Ct.L (E := E1) 131 lh_spec_l1End_28 cd_spec_l1End_28 (a0, a1, a2, a3, ())
noncomputable abbrev lh_spec_l4Clause_26 : LoopH := { key := 52, ht := [1, 2, 7, 8, 9], hτ := (fs [(.sl (.agg (fs [.bool, (.sl (.int .i64)), (.sl (.int .i64))]))), (.box (.agg (fs [(.sl (.int .i64))]))), (.sl (.agg (fs [.bool, (.sl (.int .i64)), (.sl (.int .i64))]))), (.int .i64), (.int .i64)]), ex := 0, ot := [1], oτ := (fs [(.sl (.agg (fs [.bool, (.sl (.int .i64)), (.sl (.int .i64))])))]) }
noncomputable def cd_spec_l4Clause_26 : Code := Code.part (bodyOf 102) [1, 0, 1, 0, 0]
noncomputable def l_spec_l4Clause_26 (O : Oracle E1) (a0 : List (Bool × (List Int) × (List Int) × Unit)) (a1 : (List Int) × Unit) (a2 : List (Bool × (List Int) × (List Int) × Unit)) (a3 : Int) (a4 : Int) : Option (((List (Bool × (List Int) × (List Int) × Unit)) × Unit) ⊕ ((Bool × Unit) × (Unit))) := O.L 102 lh_spec_l4Clause_26 cd_spec_l4Clause_26 (a0, a1, a2, a3, a4, ())
theorem k0l_spec_l4Clause_26 (a0 : List (Bool × (List Int) × (List Int) × Unit)) (a1 : (List Int) × Unit) (a2 : List (Bool × (List Int) × (List Int) × Unit)) (a3 : Int) (a4 : Int) : Ct E1 (fun O => l_spec_l4Clause_26 O a0 a1 a2 a3 a4) := by unfold l_spec_l4Clause_26; exact Ct.L (E := E1) 102 lh_spec_l4Clause_26 cd_spec_l4Clause_26 (a0, a1, a2, a3, a4, ())
noncomputable abbrev lh_spec_l1Args_250 : LoopH := { key := 500, ht := [1, 3, 7, 8, 9], hτ := (fs [(.sl (.int .i64)), (.box (.agg (fs [(.sl (.int .i64))]))), (.own (.int .i64)), (.int .i64), (.int .i64)]), ex := 0, ot := [7], oτ := (fs [(.own (.int .i64))]) }
noncomputable def cd_spec_l1Args_250 : Code := Code.part (bodyOf 119) [1, 1, 1, 1, 0, 1, 0, 0]
noncomputable def l_spec_l1Args_250 (O : Oracle E1) (a0 : List Int) (a1 : (List Int) × Unit) (a2 : List Int) (a3 : Int) (a4 : Int) : Option (((List Int) × Unit) ⊕ (((List Int) × Unit) × (Unit))) := O.L 119 lh_spec_l1Args_250 cd_spec_l1Args_250 (a0, a1, a2, a3, a4, ())
theorem k0l_spec_l1Args_250 (a0 : List Int) (a1 : (List Int) × Unit) (a2 : List Int) (a3 : Int) (a4 : Int) : Ct E1 (fun O => l_spec_l1Args_250 O a0 a1 a2 a3 a4) := by unfold l_spec_l1Args_250; exact Ct.L (E := E1) 119 lh_spec_l1Args_250 cd_spec_l1Args_250 (a0, a1, a2, a3, a4, ())
noncomputable abbrev lh_spec_l1TermText_122 : LoopH := { key := 244, ht := [1, 2, 3, 7, 35, 36, 37], hτ := (fs [(.sl (.int .i64)), (.int .i64), (.box (.agg (fs [(.sl (.int .i64))]))), .str, (.own (.int .i64)), (.int .i64), (.int .i64)]), ex := 0, ot := [1, 2, 3, 7], oτ := (fs [(.sl (.int .i64)), (.int .i64), (.box (.agg (fs [(.sl (.int .i64))]))), .str]) }
noncomputable def cd_spec_l1TermText_122 : Code := Code.part (bodyOf 103) [1, 1, 1, 0, 1, 0, 0]
noncomputable def l_spec_l1TermText_122 (O : Oracle E1) (a0 : List Int) (a1 : Int) (a2 : (List Int) × Unit) (a3 : List UInt8) (a4 : List Int) (a5 : Int) (a6 : Int) : Option (((List Int) × Int × ((List Int) × Unit) × (List UInt8) × Unit) ⊕ (((List UInt8) × Unit) × (Unit))) := O.L 103 lh_spec_l1TermText_122 cd_spec_l1TermText_122 (a0, a1, a2, a3, a4, a5, a6, ())
theorem k0l_spec_l1TermText_122 (a0 : List Int) (a1 : Int) (a2 : (List Int) × Unit) (a3 : List UInt8) (a4 : List Int) (a5 : Int) (a6 : Int) : Ct E1 (fun O => l_spec_l1TermText_122 O a0 a1 a2 a3 a4 a5 a6) := by unfold l_spec_l1TermText_122; exact Ct.L (E := E1) 103 lh_spec_l1TermText_122 cd_spec_l1TermText_122 (a0, a1, a2, a3, a4, a5, a6, ())
noncomputable abbrev lh_spec_l4Text_122 : LoopH := { key := 244, ht := [2, 5, 11, 12, 13], hτ := (fs [(.box (.agg (fs [(.sl (.int .i64))]))), .str, (.sl (.agg (fs [.bool, (.sl (.int .i64)), (.sl (.int .i64))]))), (.int .i64), (.int .i64)]), ex := 0, ot := [5], oτ := (fs [.str]) }
noncomputable def cd_spec_l4Text_122 : Code := Code.part (bodyOf 70) [1, 1, 1, 0, 1, 0, 0]
noncomputable def l_spec_l4Text_122 (O : Oracle E1) (a0 : (List Int) × Unit) (a1 : List UInt8) (a2 : List (Bool × (List Int) × (List Int) × Unit)) (a3 : Int) (a4 : Int) : Option (((List UInt8) × Unit) ⊕ (((List UInt8) × Unit) × (Unit))) := O.L 70 lh_spec_l4Text_122 cd_spec_l4Text_122 (a0, a1, a2, a3, a4, ())
theorem k0l_spec_l4Text_122 (a0 : (List Int) × Unit) (a1 : List UInt8) (a2 : List (Bool × (List Int) × (List Int) × Unit)) (a3 : Int) (a4 : Int) : Ct E1 (fun O => l_spec_l4Text_122 O a0 a1 a2 a3 a4) := by unfold l_spec_l4Text_122; exact Ct.L (E := E1) 70 lh_spec_l4Text_122 cd_spec_l4Text_122 (a0, a1, a2, a3, a4, ())
noncomputable abbrev lh_laws_toLitS_58 : LoopH := { key := 116, ht := [0, 3, 4], hτ := (fs [(.sl (.agg (fs [.bool, (.sl (.int .i64)), (.sl (.int .i64))]))), (.own (.agg (fs [.bool, (.sl (.int .i64)), (.sl (.int .i64))]))), (.int .i64)]), ex := 0, ot := [3], oτ := (fs [(.own (.agg (fs [.bool, (.sl (.int .i64)), (.sl (.int .i64))])))]) }
noncomputable def cd_laws_toLitS_58 : Code := Code.part (bodyOf 24) [1, 1, 0, 1, 0, 0]
noncomputable def l_laws_toLitS_58 (O : Oracle E1) (a0 : List (Bool × (List Int) × (List Int) × Unit)) (a1 : List (Bool × (List Int) × (List Int) × Unit)) (a2 : Int) : Option (((List (Bool × (List Int) × (List Int) × Unit)) × Unit) ⊕ (((List (Bool × (List Int) × (List Int) × Unit)) × Unit) × (Unit))) := O.L 24 lh_laws_toLitS_58 cd_laws_toLitS_58 (a0, a1, a2, ())
theorem k0l_laws_toLitS_58 (a0 : List (Bool × (List Int) × (List Int) × Unit)) (a1 : List (Bool × (List Int) × (List Int) × Unit)) (a2 : Int) : Ct E1 (fun O => l_laws_toLitS_58 O a0 a1 a2) := by unfold l_laws_toLitS_58; exact Ct.L (E := E1) 24 lh_laws_toLitS_58 cd_laws_toLitS_58 (a0, a1, a2, ())
noncomputable abbrev lh_slices_IndexFunc_int_int__impl_GoodSign_1_26 : LoopH := { key := 52, ht := [0, 1, 7, 8], hτ := (fs [(.sl (.int .i64)), (.fn 114 (fs [])), (.int .i64), (.int .i64)]), ex := 0, ot := [], oτ := (fs []) }
noncomputable def cd_slices_IndexFunc_int_int__impl_GoodSign_1_26 : Code := Code.part (bodyOf 129) [1, 0, 1, 0, 0]
noncomputable def l_slices_IndexFunc_int_int__impl_GoodSign_1_26 (O : Oracle E1) (a0 : List Int) (a1 : Unit) (a2 : Int) (a3 : Int) : Option ((Unit) ⊕ ((Int × Unit) × (Unit))) := O.L 7536769 lh_slices_IndexFunc_int_int__impl_GoodSign_1_26 cd_slices_IndexFunc_int_int__impl_GoodSign_1_26 (a0, a1, a2, a3, ())
theorem k0l_slices_IndexFunc_int_int__impl_GoodSign_1_26 (a0 : List Int) (a1 : Unit) (a2 : Int) (a3 : Int) : Ct E1 (fun O => l_slices_IndexFunc_int_int__impl_GoodSign_1_26 O a0 a1 a2 a3) := by unfold l_slices_IndexFunc_int_int__impl_GoodSign_1_26; exact Ct.L (E := E1) 7536769 lh_slices_IndexFunc_int_int__impl_GoodSign_1_26 cd_slices_IndexFunc_int_int__impl_GoodSign_1_26 (a0, a1, a2, a3, ())
noncomputable abbrev lh_impl_Sign_isTerm_122 : LoopH := { key := 244, ht := [2, 5, 11, 12, 13], hτ := (fs [(.box (.agg (fs [(.sl (.int .i64))]))), (.int .i64), (.sl (.int .i64)), (.int .i64), (.int .i64)]), ex := 0, ot := [5], oτ := (fs [(.int .i64)]) }
noncomputable def cd_impl_Sign_isTerm_122 : Code := Code.part (bodyOf 133) [1, 1, 1, 0, 1, 0, 0]
noncomputable def l_impl_Sign_isTerm_122 (O : Oracle E1) (a0 : (List Int) × Unit) (a1 : Int) (a2 : List Int) (a3 : Int) (a4 : Int) : Option ((Int × Unit) ⊕ ((Bool × Unit) × (Unit))) := O.L 133 lh_impl_Sign_isTerm_122 cd_impl_Sign_isTerm_122 (a0, a1, a2, a3, a4, ())
theorem k0l_impl_Sign_isTerm_122 (a0 : (List Int) × Unit) (a1 : Int) (a2 : List Int) (a3 : Int) (a4 : Int) : Ct E1 (fun O => l_impl_Sign_isTerm_122 O a0 a1 a2 a3 a4) := by unfold l_impl_Sign_isTerm_122; exact Ct.L (E := E1) 133 lh_impl_Sign_isTerm_122 cd_impl_Sign_isTerm_122 (a0, a1, a2, a3, a4, ())
noncomputable abbrev lh_slices_IndexFunc_impl_Lit_impl_Lit__impl_Sign_isClause_1_26 : LoopH := { key := 52, ht := [0, 1, 7, 8], hτ := (fs [(.sl (.agg (fs [.bool, (.sl (.int .i64)), (.sl (.int .i64))]))), (.fn 121 (fs [(.ptr (.agg (fs [(.sl (.int .i64))])))])), (.int .i64), (.int .i64)]), ex := 0, ot := [], oτ := (fs []) }
noncomputable def cd_slices_IndexFunc_impl_Lit_impl_Lit__impl_Sign_isClause_1_26 : Code := Code.part (bodyOf 132) [1, 0, 1, 0, 0]
noncomputable def l_slices_IndexFunc_impl_Lit_impl_Lit__impl_Sign_isClause_1_26 (O : Oracle E1) (a0 : List (Bool × (List Int) × (List Int) × Unit)) (a1 : ((List Int) × Unit) × Unit) (a2 : Int) (a3 : Int) : Option ((Unit) ⊕ ((Int × Unit) × (Unit))) := O.L 7995524 lh_slices_IndexFunc_impl_Lit_impl_Lit__impl_Sign_isClause_1_26 cd_slices_IndexFunc_impl_Lit_impl_Lit__impl_Sign_isClause_1_26 (a0, a1, a2, a3, ())
theorem k0l_slices_IndexFunc_impl_Lit_impl_Lit__impl_Sign_isClause_1_26 (a0 : List (Bool × (List Int) × (List Int) × Unit)) (a1 : ((List Int) × Unit) × Unit) (a2 : Int) (a3 : Int) : Ct E1 (fun O => l_slices_IndexFunc_impl_Lit_impl_Lit__impl_Sign_isClause_1_26 O a0 a1 a2 a3) := by unfold l_slices_IndexFunc_impl_Lit_impl_Lit__impl_Sign_isClause_1_26; exact Ct.L (E := E1) 7995524 lh_slices_IndexFunc_impl_Lit_impl_Lit__impl_Sign_isClause_1_26 cd_slices_IndexFunc_impl_Lit_impl_Lit__impl_Sign_isClause_1_26 (a0, a1, a2, a3, ())
noncomputable abbrev lh_impl_Sign_text_506 : LoopH := { key := 1012, ht := [1, 2, 4, 10, 11, 39, 40], hτ := (fs [(.own (.int .u8)), (.sl (.int .i64)), (.box (.agg (fs [(.sl (.int .i64))]))), (.int .i64), (.int .i64), (.int .i64), (.int .i64)]), ex := 0, ot := [1, 4, 10, 11], oτ := (fs [(.own (.int .u8)), (.box (.agg (fs [(.sl (.int .i64))]))), (.int .i64), (.int .i64)]) }
noncomputable def cd_impl_Sign_text_506 : Code := Code.part (bodyOf 123) [1, 1, 1, 1, 1, 0, 1, 0, 0]
noncomputable def l_impl_Sign_text_506 (O : Oracle E1) (a0 : List Int) (a1 : List Int) (a2 : (List Int) × Unit) (a3 : Int) (a4 : Int) (a5 : Int) (a6 : Int) : Option (((List Int) × ((List Int) × Unit) × Int × Int × Unit) ⊕ (((List Int) × Int × Unit) × (Unit))) := O.L 123 lh_impl_Sign_text_506 cd_impl_Sign_text_506 (a0, a1, a2, a3, a4, a5, a6, ())
theorem k0l_impl_Sign_text_506 (a0 : List Int) (a1 : List Int) (a2 : (List Int) × Unit) (a3 : Int) (a4 : Int) (a5 : Int) (a6 : Int) : Ct E1 (fun O => l_impl_Sign_text_506 O a0 a1 a2 a3 a4 a5 a6) := by unfold l_impl_Sign_text_506; exact Ct.L (E := E1) 123 lh_impl_Sign_text_506 cd_impl_Sign_text_506 (a0, a1, a2, a3, a4, a5, a6, ())
noncomputable abbrev lh_impl_Sign_clauseText_122 : LoopH := { key := 244, ht := [2, 5, 12, 13, 14], hτ := (fs [(.box (.agg (fs [(.sl (.int .i64))]))), .str, (.sl (.agg (fs [.bool, (.sl (.int .i64)), (.sl (.int .i64))]))), (.int .i64), (.int .i64)]), ex := 0, ot := [5], oτ := (fs [.str]) }
noncomputable def cd_impl_Sign_clauseText_122 : Code := Code.part (bodyOf 73) [1, 1, 1, 0, 1, 0, 0]
noncomputable def l_impl_Sign_clauseText_122 (O : Oracle E1) (a0 : (List Int) × Unit) (a1 : List UInt8) (a2 : List (Bool × (List Int) × (List Int) × Unit)) (a3 : Int) (a4 : Int) : Option (((List UInt8) × Unit) ⊕ (((List UInt8) × Unit) × (Unit))) := O.L 73 lh_impl_Sign_clauseText_122 cd_impl_Sign_clauseText_122 (a0, a1, a2, a3, a4, ())
theorem k0l_impl_Sign_clauseText_122 (a0 : (List Int) × Unit) (a1 : List UInt8) (a2 : List (Bool × (List Int) × (List Int) × Unit)) (a3 : Int) (a4 : Int) : Ct E1 (fun O => l_impl_Sign_clauseText_122 O a0 a1 a2 a3 a4) := by unfold l_impl_Sign_clauseText_122; exact Ct.L (E := E1) 73 lh_impl_Sign_clauseText_122 cd_impl_Sign_clauseText_122 (a0, a1, a2, a3, a4, ())
noncomputable abbrev lh_laws_eqLitS_58 : LoopH := { key := 116, ht := [0, 1, 5], hτ := (fs [(.sl (.agg (fs [.bool, (.sl (.int .i64)), (.sl (.int .i64))]))), (.sl (.agg (fs [.bool, (.sl (.int .i64)), (.sl (.int .i64))]))), (.int .i64)]), ex := 0, ot := [], oτ := (fs []) }
noncomputable def cd_laws_eqLitS_58 : Code := Code.part (bodyOf 26) [1, 1, 0, 1, 0, 0]
noncomputable def l_laws_eqLitS_58 (O : Oracle E1) (a0 : List (Bool × (List Int) × (List Int) × Unit)) (a1 : List (Bool × (List Int) × (List Int) × Unit)) (a2 : Int) : Option ((Unit) ⊕ ((Bool × Unit) × (Unit))) := O.L 26 lh_laws_eqLitS_58 cd_laws_eqLitS_58 (a0, a1, a2, ())
theorem k0l_laws_eqLitS_58 (a0 : List (Bool × (List Int) × (List Int) × Unit)) (a1 : List (Bool × (List Int) × (List Int) × Unit)) (a2 : Int) : Ct E1 (fun O => l_laws_eqLitS_58 O a0 a1 a2) := by unfold l_laws_eqLitS_58; exact Ct.L (E := E1) 26 lh_laws_eqLitS_58 cd_laws_eqLitS_58 (a0, a1, a2, ())
end Go.Proofs.YtejklhcalinhpaaCt.Ev
