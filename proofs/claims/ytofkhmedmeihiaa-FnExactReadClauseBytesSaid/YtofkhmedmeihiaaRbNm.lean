/- The functions' names, at every oracle: printed by sym.py; no condition. -/
import Derived.Test.YtofkhmedmeihiaaRbEnv
import Derived.Test.YtofkhmedmeihiaaRbEvLm
namespace Go.Proofs.YtofkhmedmeihiaaRb.Ev
open Go
set_option maxRecDepth 100000
set_option autoImplicit false
set_option linter.unusedVariables false

noncomputable abbrev M : Oracle E1 := Lm E1
noncomputable def c_laws_szIntS (O : Oracle E1) (a0 : List Int) (a1 : Int) : Option ((Int × Unit) × (Unit)) := O.C 38 (a0, a1, ())
theorem k0_laws_szIntS (a0 : List Int) (a1 : Int) : Ct E1 (fun O => c_laws_szIntS O a0 a1) := by unfold c_laws_szIntS; exact Ct.C (E := E1) 38 (a0, a1, ())
noncomputable def c_laws_szSign (O : Oracle E1) (a0 : (List Int) × Unit) (a1 : Int) : Option ((Int × Unit) × (Unit)) := O.C 9 (a0, a1, ())
theorem k0_laws_szSign (a0 : (List Int) × Unit) (a1 : Int) : Ct E1 (fun O => c_laws_szSign O a0 a1) := by unfold c_laws_szSign; exact Ct.C (E := E1) 9 (a0, a1, ())
noncomputable def c_spec_l1In (O : Oracle E1) (a0 : Int) (a1 : Int) (a2 : Int) : Option ((Bool × Unit) × (Unit)) := O.C 40 (a0, a1, a2, ())
theorem k0_spec_l1In (a0 : Int) (a1 : Int) (a2 : Int) : Ct E1 (fun O => c_spec_l1In O a0 a1 a2) := by unfold c_spec_l1In; exact Ct.C (E := E1) 40 (a0, a1, a2, ())
noncomputable def c_spec_l1All (O : Oracle E1) (a0 : List Int) (a1 : Int) (a2 : Int) : Option ((Bool × Unit) × (Unit)) := O.C 71 (a0, a1, a2, ())
theorem k0_spec_l1All (a0 : List Int) (a1 : Int) (a2 : Int) : Ct E1 (fun O => c_spec_l1All O a0 a1 a2) := by unfold c_spec_l1All; exact Ct.C (E := E1) 71 (a0, a1, a2, ())
noncomputable def c_spec_GoodSign (O : Oracle E1) (a0 : (List Int) × Unit) : Option ((Bool × Unit) × (Unit)) := O.C 39 (a0, ())
theorem k0_spec_GoodSign (a0 : (List Int) × Unit) : Ct E1 (fun O => c_spec_GoodSign O a0) := by unfold c_spec_GoodSign; exact Ct.C (E := E1) 39 (a0, ())
noncomputable def c_spec_l1End (O : Oracle E1) (a0 : (List Int) × Unit) (a1 : List Int) (a2 : Int) : Option ((Int × Unit) × (Unit)) := O.C 127 (a0, a1, a2, ())
theorem k0_spec_l1End (a0 : (List Int) × Unit) (a1 : List Int) (a2 : Int) : Ct E1 (fun O => c_spec_l1End O a0 a1 a2) := by unfold c_spec_l1End; exact Ct.C (E := E1) 127 (a0, a1, a2, ())
noncomputable def c_spec_l1Term (O : Oracle E1) (a0 : (List Int) × Unit) (a1 : List Int) : Option ((Bool × Unit) × (Unit)) := O.C 114 (a0, a1, ())
theorem k0_spec_l1Term (a0 : (List Int) × Unit) (a1 : List Int) : Ct E1 (fun O => c_spec_l1Term O a0 a1) := by unfold c_spec_l1Term; exact Ct.C (E := E1) 114 (a0, a1, ())
noncomputable def c_spec_l4Lit (O : Oracle E1) (a0 : (List Int) × Unit) (a1 : Bool × (List Int) × (List Int) × Unit) : Option ((Bool × Unit) × (Unit)) := O.C 81 (a0, a1, ())
theorem k0_spec_l4Lit (a0 : (List Int) × Unit) (a1 : Bool × (List Int) × (List Int) × Unit) : Ct E1 (fun O => c_spec_l4Lit O a0 a1) := by unfold c_spec_l4Lit; exact Ct.C (E := E1) 81 (a0, a1, ())
noncomputable def c_spec_l4Clause (O : Oracle E1) (a0 : (List Int) × Unit) (a1 : List (Bool × (List Int) × (List Int) × Unit)) : Option ((Bool × Unit) × (Unit)) := O.C 49 (a0, a1, ())
theorem k0_spec_l4Clause (a0 : (List Int) × Unit) (a1 : List (Bool × (List Int) × (List Int) × Unit)) : Ct E1 (fun O => c_spec_l4Clause O a0 a1) := by unfold c_spec_l4Clause; exact Ct.C (E := E1) 49 (a0, a1, ())
noncomputable def c_spec_l10Varint (O : Oracle E1) (a0 : Int) : Option (((List UInt8) × Unit) × (Unit)) := O.C 107 (a0, ())
theorem k0_spec_l10Varint (a0 : Int) : Ct E1 (fun O => c_spec_l10Varint O a0) := by unfold c_spec_l10Varint; exact Ct.C (E := E1) 107 (a0, ())
noncomputable def c_spec_l10Read (O : Oracle E1) (a0 : List UInt8) (a1 : Int) : Option ((Int × Int × Bool × Unit) × (Unit)) := O.C 72 (a0, a1, ())
theorem k0_spec_l10Read (a0 : List UInt8) (a1 : Int) : Ct E1 (fun O => c_spec_l10Read O a0 a1) := by unfold c_spec_l10Read; exact Ct.C (E := E1) 72 (a0, a1, ())
noncomputable def c_spec_l10UnZig (O : Oracle E1) (a0 : Int) : Option ((Int × Unit) × (Unit)) := O.C 108 (a0, ())
theorem k0_spec_l10UnZig (a0 : Int) : Ct E1 (fun O => c_spec_l10UnZig O a0) := by unfold c_spec_l10UnZig; exact Ct.C (E := E1) 108 (a0, ())
noncomputable def c_spec_l10ReadList (O : Oracle E1) (a0 : List UInt8) (a1 : Int) : Option (((List Int) × Int × Bool × Unit) × (Unit)) := O.C 73 (a0, a1, ())
theorem k0_spec_l10ReadList (a0 : List UInt8) (a1 : Int) : Ct E1 (fun O => c_spec_l10ReadList O a0 a1) := by unfold c_spec_l10ReadList; exact Ct.C (E := E1) 73 (a0, a1, ())
noncomputable def c_spec_l12Read (O : Oracle E1) (a0 : (List Int) × Unit) (a1 : List UInt8) (a2 : Int) : Option (((List (Bool × (List Int) × (List Int) × Unit)) × Int × Bool × Unit) × (Unit)) := O.C 41 (a0, a1, a2, ())
theorem k0_spec_l12Read (a0 : (List Int) × Unit) (a1 : List UInt8) (a2 : Int) : Ct E1 (fun O => c_spec_l12Read O a0 a1 a2) := by unfold c_spec_l12Read; exact Ct.C (E := E1) 41 (a0, a1, a2, ())
noncomputable def c_spec_ReadClauseBytes (O : Oracle E1) (a0 : (List Int) × Unit) (a1 : List UInt8) (a2 : Int) : Option (((List (Bool × (List Int) × (List Int) × Unit)) × Int × Bool × Unit) × (Unit)) := O.C 10 (a0, a1, a2, ())
theorem k0_spec_ReadClauseBytes (a0 : (List Int) × Unit) (a1 : List UInt8) (a2 : Int) : Ct E1 (fun O => c_spec_ReadClauseBytes O a0 a1 a2) := by unfold c_spec_ReadClauseBytes; exact Ct.C (E := E1) 10 (a0, a1, a2, ())
noncomputable def c_laws_toIntS (O : Oracle E1) (a0 : List Int) : Option (((List Int) × Unit) × (Unit)) := O.C 42 (a0, ())
theorem k0_laws_toIntS (a0 : List Int) : Ct E1 (fun O => c_laws_toIntS O a0) := by unfold c_laws_toIntS; exact Ct.C (E := E1) 42 (a0, ())
noncomputable def c_laws_toSign (O : Oracle E1) (a0 : (List Int) × Unit) : Option ((((List Int) × Unit) × Unit) × (Unit)) := O.C 11 (a0, ())
theorem k0_laws_toSign (a0 : (List Int) × Unit) : Ct E1 (fun O => c_laws_toSign O a0) := by unfold c_laws_toSign; exact Ct.C (E := E1) 11 (a0, ())
noncomputable def c_impl_GoodSign_1 (O : Oracle E1) (a0 : Int) : Option ((Bool × Unit) × (Unit)) := O.C 75 (a0, ())
theorem k0_impl_GoodSign_1 (a0 : Int) : Ct E1 (fun O => c_impl_GoodSign_1 O a0) := by unfold c_impl_GoodSign_1; exact Ct.C (E := E1) 75 (a0, ())
noncomputable def c_slices_IndexFunc_int_int__impl_GoodSign_1 (O : Oracle E1) (a0 : List Int) (a1 : Unit) : Option ((Int × Unit) × (Unit)) := O.C 4980845 (a0, a1, ())
theorem k0_slices_IndexFunc_int_int__impl_GoodSign_1 (a0 : List Int) (a1 : Unit) : Ct E1 (fun O => c_slices_IndexFunc_int_int__impl_GoodSign_1 O a0 a1) := by unfold c_slices_IndexFunc_int_int__impl_GoodSign_1; exact Ct.C (E := E1) 4980845 (a0, a1, ())
noncomputable def c_slices_ContainsFunc_int_int__impl_GoodSign_1 (O : Oracle E1) (a0 : List Int) (a1 : Unit) : Option ((Bool × Unit) × (Unit)) := O.C 4980810 (a0, a1, ())
theorem k0_slices_ContainsFunc_int_int__impl_GoodSign_1 (a0 : List Int) (a1 : Unit) : Ct E1 (fun O => c_slices_ContainsFunc_int_int__impl_GoodSign_1 O a0 a1) := by unfold c_slices_ContainsFunc_int_int__impl_GoodSign_1; exact Ct.C (E := E1) 4980810 (a0, a1, ())
noncomputable def c_impl_GoodSign (O : Oracle E1) (a0 : (List Int) × Unit) : Option ((Bool × Unit) × (Unit)) := O.C 43 (a0, ())
theorem k0_impl_GoodSign (a0 : (List Int) × Unit) : Ct E1 (fun O => c_impl_GoodSign O a0) := by unfold c_impl_GoodSign; exact Ct.C (E := E1) 43 (a0, ())
noncomputable def c_impl_ReadVarint (O : Oracle E1) (a0 : List UInt8) (a1 : Int) : Option ((Int × Int × Bool × Unit) × (Unit)) := O.C 110 (a0, a1, ())
theorem k0_impl_ReadVarint (a0 : List UInt8) (a1 : Int) : Ct E1 (fun O => c_impl_ReadVarint O a0 a1) := by unfold c_impl_ReadVarint; exact Ct.C (E := E1) 110 (a0, a1, ())
noncomputable def c_impl_scanner_number (O : Oracle E1) (a0 : (List UInt8) × Int × Bool × Unit) (a1 : Int) : Option ((Int × Unit) × (((List UInt8) × Int × Bool × Unit) × Unit)) := O.C 76 (a0, a1, ())
theorem k0_impl_scanner_number (a0 : (List UInt8) × Int × Bool × Unit) (a1 : Int) : Ct E1 (fun O => c_impl_scanner_number O a0 a1) := by unfold c_impl_scanner_number; exact Ct.C (E := E1) 76 (a0, a1, ())
noncomputable def c_impl_UnZig (O : Oracle E1) (a0 : Int) : Option ((Int × Bool × Unit) × (Unit)) := O.C 125 (a0, ())
theorem k0_impl_UnZig (a0 : Int) : Ct E1 (fun O => c_impl_UnZig O a0) := by unfold c_impl_UnZig; exact Ct.C (E := E1) 125 (a0, ())
noncomputable def c_impl_ReadList (O : Oracle E1) (a0 : List UInt8) (a1 : Int) : Option (((List Int) × Int × Bool × Unit) × (Unit)) := O.C 111 (a0, a1, ())
theorem k0_impl_ReadList (a0 : List UInt8) (a1 : Int) : Ct E1 (fun O => c_impl_ReadList O a0 a1) := by unfold c_impl_ReadList; exact Ct.C (E := E1) 111 (a0, a1, ())
noncomputable def c_impl_scanner_list (O : Oracle E1) (a0 : (List UInt8) × Int × Bool × Unit) : Option (((List Int) × Unit) × (((List UInt8) × Int × Bool × Unit) × Unit)) := O.C 77 (a0, ())
theorem k0_impl_scanner_list (a0 : (List UInt8) × Int × Bool × Unit) : Ct E1 (fun O => c_impl_scanner_list O a0) := by unfold c_impl_scanner_list; exact Ct.C (E := E1) 77 (a0, ())
noncomputable def c_impl_scanner_clause (O : Oracle E1) (a0 : (List UInt8) × Int × Bool × Unit) : Option (((List (Bool × (List Int) × (List Int) × Unit)) × Unit) × (((List UInt8) × Int × Bool × Unit) × Unit)) := O.C 44 (a0, ())
theorem k0_impl_scanner_clause (a0 : (List UInt8) × Int × Bool × Unit) : Ct E1 (fun O => c_impl_scanner_clause O a0) := by unfold c_impl_scanner_clause; exact Ct.C (E := E1) 44 (a0, ())
noncomputable def c_impl_Sign_args (O : Oracle E1) (a0 : (List Int) × Unit) (a1 : Int) : Option ((Int × Unit) × (Unit)) := O.C 126 (a0, a1, ())
theorem k0_impl_Sign_args (a0 : (List Int) × Unit) (a1 : Int) : Ct E1 (fun O => c_impl_Sign_args O a0 a1) := by unfold c_impl_Sign_args; exact Ct.C (E := E1) 126 (a0, a1, ())
noncomputable def c_impl_Sign_isTerm (O : Oracle E1) (a0 : (List Int) × Unit) (a1 : List Int) : Option ((Bool × Unit) × (Unit)) := O.C 113 (a0, a1, ())
theorem k0_impl_Sign_isTerm (a0 : (List Int) × Unit) (a1 : List Int) : Ct E1 (fun O => c_impl_Sign_isTerm O a0 a1) := by unfold c_impl_Sign_isTerm; exact Ct.C (E := E1) 113 (a0, a1, ())
noncomputable def c_impl_Sign_isLit (O : Oracle E1) (a0 : (List Int) × Unit) (a1 : Bool × (List Int) × (List Int) × Unit) : Option ((Bool × Unit) × (Unit)) := O.C 80 (a0, a1, ())
theorem k0_impl_Sign_isLit (a0 : (List Int) × Unit) (a1 : Bool × (List Int) × (List Int) × Unit) : Ct E1 (fun O => c_impl_Sign_isLit O a0 a1) := by unfold c_impl_Sign_isLit; exact Ct.C (E := E1) 80 (a0, a1, ())
noncomputable def c_impl_Sign_isClause_1 (O : Oracle E1) (a0 : Bool × (List Int) × (List Int) × Unit) (a1 : (List Int) × Unit) : Option ((Bool × Unit) × (Unit)) := O.C 79 (a0, a1, ())
theorem k0_impl_Sign_isClause_1 (a0 : Bool × (List Int) × (List Int) × Unit) (a1 : (List Int) × Unit) : Ct E1 (fun O => c_impl_Sign_isClause_1 O a0 a1) := by unfold c_impl_Sign_isClause_1; exact Ct.C (E := E1) 79 (a0, a1, ())
noncomputable def c_slices_IndexFunc_impl_Lit_impl_Lit__impl_Sign_isClause_1 (O : Oracle E1) (a0 : List (Bool × (List Int) × (List Int) × Unit)) (a1 : ((List Int) × Unit) × Unit) : Option ((Int × Unit) × (Unit)) := O.C 5242992 (a0, a1, ())
theorem k0_slices_IndexFunc_impl_Lit_impl_Lit__impl_Sign_isClause_1 (a0 : List (Bool × (List Int) × (List Int) × Unit)) (a1 : ((List Int) × Unit) × Unit) : Ct E1 (fun O => c_slices_IndexFunc_impl_Lit_impl_Lit__impl_Sign_isClause_1 O a0 a1) := by unfold c_slices_IndexFunc_impl_Lit_impl_Lit__impl_Sign_isClause_1; exact Ct.C (E := E1) 5242992 (a0, a1, ())
noncomputable def c_slices_ContainsFunc_impl_Lit_impl_Lit__impl_Sign_isClause_1 (O : Oracle E1) (a0 : List (Bool × (List Int) × (List Int) × Unit)) (a1 : ((List Int) × Unit) × Unit) : Option ((Bool × Unit) × (Unit)) := O.C 5242958 (a0, a1, ())
theorem k0_slices_ContainsFunc_impl_Lit_impl_Lit__impl_Sign_isClause_1 (a0 : List (Bool × (List Int) × (List Int) × Unit)) (a1 : ((List Int) × Unit) × Unit) : Ct E1 (fun O => c_slices_ContainsFunc_impl_Lit_impl_Lit__impl_Sign_isClause_1 O a0 a1) := by unfold c_slices_ContainsFunc_impl_Lit_impl_Lit__impl_Sign_isClause_1; exact Ct.C (E := E1) 5242958 (a0, a1, ())
noncomputable def c_impl_Sign_isClause (O : Oracle E1) (a0 : (List Int) × Unit) (a1 : List (Bool × (List Int) × (List Int) × Unit)) : Option ((Bool × Unit) × (Unit)) := O.C 45 (a0, a1, ())
theorem k0_impl_Sign_isClause (a0 : (List Int) × Unit) (a1 : List (Bool × (List Int) × (List Int) × Unit)) : Ct E1 (fun O => c_impl_Sign_isClause O a0 a1) := by unfold c_impl_Sign_isClause; exact Ct.C (E := E1) 45 (a0, a1, ())
noncomputable def c_impl_ReadClauseBytes (O : Oracle E1) (a0 : (List Int) × Unit) (a1 : List UInt8) (a2 : Int) : Option (((List (Bool × (List Int) × (List Int) × Unit)) × Int × Bool × Unit) × (Unit)) := O.C 12 (a0, a1, a2, ())
theorem k0_impl_ReadClauseBytes (a0 : (List Int) × Unit) (a1 : List UInt8) (a2 : Int) : Ct E1 (fun O => c_impl_ReadClauseBytes O a0 a1 a2) := by unfold c_impl_ReadClauseBytes; exact Ct.C (E := E1) 12 (a0, a1, a2, ())
noncomputable def c_laws_eqIntS (O : Oracle E1) (a0 : List Int) (a1 : List Int) : Option ((Bool × Unit) × (Unit)) := O.C 26 (a0, a1, ())
theorem k0_laws_eqIntS (a0 : List Int) (a1 : List Int) : Ct E1 (fun O => c_laws_eqIntS O a0 a1) := by unfold c_laws_eqIntS; exact Ct.C (E := E1) 26 (a0, a1, ())
noncomputable def c_laws_eqLit (O : Oracle E1) (a0 : Bool × (List Int) × (List Int) × Unit) (a1 : Bool × (List Int) × (List Int) × Unit) : Option ((Bool × Unit) × (Unit)) := O.C 46 (a0, a1, ())
theorem k0_laws_eqLit (a0 : Bool × (List Int) × (List Int) × Unit) (a1 : Bool × (List Int) × (List Int) × Unit) : Ct E1 (fun O => c_laws_eqLit O a0 a1) := by unfold c_laws_eqLit; exact Ct.C (E := E1) 46 (a0, a1, ())
noncomputable def c_laws_eqLitS (O : Oracle E1) (a0 : List (Bool × (List Int) × (List Int) × Unit)) (a1 : List (Bool × (List Int) × (List Int) × Unit)) : Option ((Bool × Unit) × (Unit)) := O.C 13 (a0, a1, ())
theorem k0_laws_eqLitS (a0 : List (Bool × (List Int) × (List Int) × Unit)) (a1 : List (Bool × (List Int) × (List Int) × Unit)) : Ct E1 (fun O => c_laws_eqLitS O a0 a1) := by unfold c_laws_eqLitS; exact Ct.C (E := E1) 13 (a0, a1, ())
noncomputable def c_laws_eqSign (O : Oracle E1) (a0 : (List Int) × Unit) (a1 : (List Int) × Unit) : Option ((Bool × Unit) × (Unit)) := O.C 14 (a0, a1, ())
theorem k0_laws_eqSign (a0 : (List Int) × Unit) (a1 : (List Int) × Unit) : Ct E1 (fun O => c_laws_eqSign O a0 a1) := by unfold c_laws_eqSign; exact Ct.C (E := E1) 14 (a0, a1, ())
noncomputable def c_laws_markIntS (O : Oracle E1) (a0 : List Int) (a1 : Int) : Option ((Int × Unit) × ((List Int) × Unit)) := O.C 29 (a0, a1, ())
theorem k0_laws_markIntS (a0 : List Int) (a1 : Int) : Ct E1 (fun O => c_laws_markIntS O a0 a1) := by unfold c_laws_markIntS; exact Ct.C (E := E1) 29 (a0, a1, ())
noncomputable def c_laws_markSign (O : Oracle E1) (a0 : (List Int) × Unit) (a1 : Int) : Option ((Int × Unit) × (((List Int) × Unit) × Unit)) := O.C 15 (a0, a1, ())
theorem k0_laws_markSign (a0 : (List Int) × Unit) (a1 : Int) : Ct E1 (fun O => c_laws_markSign O a0 a1) := by unfold c_laws_markSign; exact Ct.C (E := E1) 15 (a0, a1, ())
noncomputable def c_laws_markLitS (O : Oracle E1) (a0 : List (Bool × (List Int) × (List Int) × Unit)) (a1 : Int) : Option ((Int × Unit) × ((List (Bool × (List Int) × (List Int) × Unit)) × Unit)) := O.C 16 (a0, a1, ())
theorem k0_laws_markLitS (a0 : List (Bool × (List Int) × (List Int) × Unit)) (a1 : Int) : Ct E1 (fun O => c_laws_markLitS O a0 a1) := by unfold c_laws_markLitS; exact Ct.C (E := E1) 16 (a0, a1, ())
noncomputable def c_laws_heldIntS (O : Oracle E1) (a0 : List Int) (a1 : Int) : Option ((Int × Unit) × (Unit)) := O.C 30 (a0, a1, ())
theorem k0_laws_heldIntS (a0 : List Int) (a1 : Int) : Ct E1 (fun O => c_laws_heldIntS O a0 a1) := by unfold c_laws_heldIntS; exact Ct.C (E := E1) 30 (a0, a1, ())
noncomputable def c_laws_heldLitS (O : Oracle E1) (a0 : List (Bool × (List Int) × (List Int) × Unit)) (a1 : Int) : Option ((Int × Unit) × (Unit)) := O.C 17 (a0, a1, ())
theorem k0_laws_heldLitS (a0 : List (Bool × (List Int) × (List Int) × Unit)) (a1 : Int) : Ct E1 (fun O => c_laws_heldLitS O a0 a1) := by unfold c_laws_heldLitS; exact Ct.C (E := E1) 17 (a0, a1, ())
noncomputable def c_laws_FnExactReadClauseBytes (O : Oracle E1) (a0 : (List Int) × Unit) (a1 : List UInt8) (a2 : Int) : Option ((Bool × Unit) × (Unit)) := O.C 3 (a0, a1, a2, ())
theorem k0_laws_FnExactReadClauseBytes (a0 : (List Int) × Unit) (a1 : List UInt8) (a2 : Int) : Ct E1 (fun O => c_laws_FnExactReadClauseBytes O a0 a1 a2) := by unfold c_laws_FnExactReadClauseBytes; exact Ct.C (E := E1) 3 (a0, a1, a2, ())
noncomputable abbrev lh_spec_l1All_26 : LoopH := { key := 52, ht := [1, 2, 9, 10, 11], hτ := (fs [(.int .i64), (.int .i64), (.sl (.int .i64)), (.int .i64), (.int .i64)]), ex := 0, ot := [], oτ := (fs []) }
noncomputable def cd_spec_l1All_26 : Code := Code.part (bodyOf 71) [1, 0, 1, 0, 0]
noncomputable def l_spec_l1All_26 (O : Oracle E1) (a0 : Int) (a1 : Int) (a2 : List Int) (a3 : Int) (a4 : Int) : Option ((Unit) ⊕ ((Bool × Unit) × (Unit))) := O.L 71 lh_spec_l1All_26 cd_spec_l1All_26 (a0, a1, a2, a3, a4, ())
theorem k0l_spec_l1All_26 (a0 : Int) (a1 : Int) (a2 : List Int) (a3 : Int) (a4 : Int) : Ct E1 (fun O => l_spec_l1All_26 O a0 a1 a2 a3 a4) := by unfold l_spec_l1All_26; exact Ct.L (E := E1) 71 lh_spec_l1All_26 cd_spec_l1All_26 (a0, a1, a2, a3, a4, ())
noncomputable abbrev lh_spec_l1End_28 : LoopH := { key := 56, ht := [1, 2, 3, 7], hτ := (fs [(.sl (.int .i64)), (.int .i64), (.box (.agg (fs [(.sl (.int .i64))]))), (.int .i64)]), ex := 0, ot := [2], oτ := (fs [(.int .i64)]) }
noncomputable def cd_spec_l1End_28 : Code := Code.part (bodyOf 127) [1, 1, 0, 0, 0]
noncomputable def l_spec_l1End_28 (O : Oracle E1) (a0 : List Int) (a1 : Int) (a2 : (List Int) × Unit) (a3 : Int) : Option ((Int × Unit) ⊕ ((Int × Unit) × (Unit))) := O.L 127 lh_spec_l1End_28 cd_spec_l1End_28 (a0, a1, a2, a3, ())
theorem k0l_spec_l1End_28 (a0 : List Int) (a1 : Int) (a2 : (List Int) × Unit) (a3 : Int) : Ct E1 (fun O => l_spec_l1End_28 O a0 a1 a2 a3) := by unfold l_spec_l1End_28; exact Ct.L (E := E1) 127 lh_spec_l1End_28 cd_spec_l1End_28 (a0, a1, a2, a3, ())
noncomputable abbrev lh_spec_l4Clause_26 : LoopH := { key := 52, ht := [1, 2, 7, 8, 9], hτ := (fs [(.sl (.agg (fs [.bool, (.sl (.int .i64)), (.sl (.int .i64))]))), (.box (.agg (fs [(.sl (.int .i64))]))), (.sl (.agg (fs [.bool, (.sl (.int .i64)), (.sl (.int .i64))]))), (.int .i64), (.int .i64)]), ex := 0, ot := [1], oτ := (fs [(.sl (.agg (fs [.bool, (.sl (.int .i64)), (.sl (.int .i64))])))]) }
noncomputable def cd_spec_l4Clause_26 : Code := Code.part (bodyOf 49) [1, 0, 1, 0, 0]
noncomputable def l_spec_l4Clause_26 (O : Oracle E1) (a0 : List (Bool × (List Int) × (List Int) × Unit)) (a1 : (List Int) × Unit) (a2 : List (Bool × (List Int) × (List Int) × Unit)) (a3 : Int) (a4 : Int) : Option (((List (Bool × (List Int) × (List Int) × Unit)) × Unit) ⊕ ((Bool × Unit) × (Unit))) := O.L 49 lh_spec_l4Clause_26 cd_spec_l4Clause_26 (a0, a1, a2, a3, a4, ())
theorem k0l_spec_l4Clause_26 (a0 : List (Bool × (List Int) × (List Int) × Unit)) (a1 : (List Int) × Unit) (a2 : List (Bool × (List Int) × (List Int) × Unit)) (a3 : Int) (a4 : Int) : Ct E1 (fun O => l_spec_l4Clause_26 O a0 a1 a2 a3 a4) := by unfold l_spec_l4Clause_26; exact Ct.L (E := E1) 49 lh_spec_l4Clause_26 cd_spec_l4Clause_26 (a0, a1, a2, a3, a4, ())
noncomputable abbrev lh_spec_l10Varint_28 : LoopH := { key := 56, ht := [0, 3], hτ := (fs [(.int .i64), .str]), ex := 0, ot := [0, 3], oτ := (fs [(.int .i64), .str]) }
noncomputable def cd_spec_l10Varint_28 : Code := Code.part (bodyOf 107) [1, 1, 0, 0, 0]
noncomputable def l_spec_l10Varint_28 (O : Oracle E1) (a0 : Int) (a1 : List UInt8) : Option ((Int × (List UInt8) × Unit) ⊕ (((List UInt8) × Unit) × (Unit))) := O.L 107 lh_spec_l10Varint_28 cd_spec_l10Varint_28 (a0, a1, ())
theorem k0l_spec_l10Varint_28 (a0 : Int) (a1 : List UInt8) : Ct E1 (fun O => l_spec_l10Varint_28 O a0 a1) := by unfold l_spec_l10Varint_28; exact Ct.L (E := E1) 107 lh_spec_l10Varint_28 cd_spec_l10Varint_28 (a0, a1, ())
noncomputable abbrev lh_spec_l10Read_58 : LoopH := { key := 116, ht := [0, 1, 7, 8], hτ := (fs [.str, (.int .i64), (.int .i64), (.int .i64)]), ex := 0, ot := [], oτ := (fs []) }
noncomputable def cd_spec_l10Read_58 : Code := Code.part (bodyOf 72) [1, 1, 0, 1, 0, 0]
noncomputable def l_spec_l10Read_58 (O : Oracle E1) (a0 : List UInt8) (a1 : Int) (a2 : Int) (a3 : Int) : Option ((Unit) ⊕ ((Int × Int × Bool × Unit) × (Unit))) := O.L 72 lh_spec_l10Read_58 cd_spec_l10Read_58 (a0, a1, a2, a3, ())
theorem k0l_spec_l10Read_58 (a0 : List UInt8) (a1 : Int) (a2 : Int) (a3 : Int) : Ct E1 (fun O => l_spec_l10Read_58 O a0 a1 a2 a3) := by unfold l_spec_l10Read_58; exact Ct.L (E := E1) 72 lh_spec_l10Read_58 cd_spec_l10Read_58 (a0, a1, a2, a3, ())
noncomputable abbrev lh_spec_l10ReadList_252 : LoopH := { key := 504, ht := [0, 1, 7, 9, 10], hτ := (fs [.str, (.int .i64), (.int .i64), (.own (.int .i64)), (.int .i64)]), ex := 0, ot := [1, 9], oτ := (fs [(.int .i64), (.own (.int .i64))]) }
noncomputable def cd_spec_l10ReadList_252 : Code := Code.part (bodyOf 73) [1, 1, 1, 1, 1, 0, 0, 0]
noncomputable def l_spec_l10ReadList_252 (O : Oracle E1) (a0 : List UInt8) (a1 : Int) (a2 : Int) (a3 : List Int) (a4 : Int) : Option ((Int × (List Int) × Unit) ⊕ (((List Int) × Int × Bool × Unit) × (Unit))) := O.L 73 lh_spec_l10ReadList_252 cd_spec_l10ReadList_252 (a0, a1, a2, a3, a4, ())
theorem k0l_spec_l10ReadList_252 (a0 : List UInt8) (a1 : Int) (a2 : Int) (a3 : List Int) (a4 : Int) : Ct E1 (fun O => l_spec_l10ReadList_252 O a0 a1 a2 a3 a4) := by unfold l_spec_l10ReadList_252; exact Ct.L (E := E1) 73 lh_spec_l10ReadList_252 cd_spec_l10ReadList_252 (a0, a1, a2, a3, a4, ())
noncomputable abbrev lh_spec_l12Read_124 : LoopH := { key := 248, ht := [1, 2, 3, 9, 11], hτ := (fs [.str, (.int .i64), (.box (.agg (fs [(.sl (.int .i64))]))), (.int .i64), (.own (.agg (fs [.bool, (.sl (.int .i64)), (.sl (.int .i64))])))]), ex := 0, ot := [2, 3, 11], oτ := (fs [(.int .i64), (.box (.agg (fs [(.sl (.int .i64))]))), (.own (.agg (fs [.bool, (.sl (.int .i64)), (.sl (.int .i64))])))]) }
noncomputable def cd_spec_l12Read_124 : Code := Code.part (bodyOf 41) [1, 1, 1, 1, 0, 0, 0]
noncomputable def l_spec_l12Read_124 (O : Oracle E1) (a0 : List UInt8) (a1 : Int) (a2 : (List Int) × Unit) (a3 : Int) (a4 : List (Bool × (List Int) × (List Int) × Unit)) : Option ((Int × ((List Int) × Unit) × (List (Bool × (List Int) × (List Int) × Unit)) × Unit) ⊕ (((List (Bool × (List Int) × (List Int) × Unit)) × Int × Bool × Unit) × (Unit))) := O.L 41 lh_spec_l12Read_124 cd_spec_l12Read_124 (a0, a1, a2, a3, a4, ())
theorem k0l_spec_l12Read_124 (a0 : List UInt8) (a1 : Int) (a2 : (List Int) × Unit) (a3 : Int) (a4 : List (Bool × (List Int) × (List Int) × Unit)) : Ct E1 (fun O => l_spec_l12Read_124 O a0 a1 a2 a3 a4) := by unfold l_spec_l12Read_124; exact Ct.L (E := E1) 41 lh_spec_l12Read_124 cd_spec_l12Read_124 (a0, a1, a2, a3, a4, ())
noncomputable abbrev lh_laws_toIntS_58 : LoopH := { key := 116, ht := [0, 3, 4], hτ := (fs [(.sl (.int .i64)), (.own (.int .i64)), (.int .i64)]), ex := 0, ot := [3], oτ := (fs [(.own (.int .i64))]) }
noncomputable def cd_laws_toIntS_58 : Code := Code.part (bodyOf 42) [1, 1, 0, 1, 0, 0]
noncomputable def l_laws_toIntS_58 (O : Oracle E1) (a0 : List Int) (a1 : List Int) (a2 : Int) : Option (((List Int) × Unit) ⊕ (((List Int) × Unit) × (Unit))) := O.L 42 lh_laws_toIntS_58 cd_laws_toIntS_58 (a0, a1, a2, ())
theorem k0l_laws_toIntS_58 (a0 : List Int) (a1 : List Int) (a2 : Int) : Ct E1 (fun O => l_laws_toIntS_58 O a0 a1 a2) := by unfold l_laws_toIntS_58; exact Ct.L (E := E1) 42 lh_laws_toIntS_58 cd_laws_toIntS_58 (a0, a1, a2, ())
noncomputable abbrev lh_slices_IndexFunc_int_int__impl_GoodSign_1_26 : LoopH := { key := 52, ht := [0, 1, 7, 8], hτ := (fs [(.sl (.int .i64)), (.fn 75 (fs [])), (.int .i64), (.int .i64)]), ex := 0, ot := [], oτ := (fs []) }
noncomputable def cd_slices_IndexFunc_int_int__impl_GoodSign_1_26 : Code := Code.part (bodyOf 109) [1, 0, 1, 0, 0]
noncomputable def l_slices_IndexFunc_int_int__impl_GoodSign_1_26 (O : Oracle E1) (a0 : List Int) (a1 : Unit) (a2 : Int) (a3 : Int) : Option ((Unit) ⊕ ((Int × Unit) × (Unit))) := O.L 4980845 lh_slices_IndexFunc_int_int__impl_GoodSign_1_26 cd_slices_IndexFunc_int_int__impl_GoodSign_1_26 (a0, a1, a2, a3, ())
theorem k0l_slices_IndexFunc_int_int__impl_GoodSign_1_26 (a0 : List Int) (a1 : Unit) (a2 : Int) (a3 : Int) : Ct E1 (fun O => l_slices_IndexFunc_int_int__impl_GoodSign_1_26 O a0 a1 a2 a3) := by unfold l_slices_IndexFunc_int_int__impl_GoodSign_1_26; exact Ct.L (E := E1) 4980845 lh_slices_IndexFunc_int_int__impl_GoodSign_1_26 cd_slices_IndexFunc_int_int__impl_GoodSign_1_26 (a0, a1, a2, a3, ())
noncomputable abbrev lh_impl_ReadVarint_122 : LoopH := { key := 244, ht := [0, 1, 7, 8], hτ := (fs [.str, (.int .i64), (.int .i64), (.int .i64)]), ex := 0, ot := [], oτ := (fs []) }
noncomputable def cd_impl_ReadVarint_122 : Code := Code.part (bodyOf 110) [1, 1, 1, 0, 1, 0, 0]
noncomputable def l_impl_ReadVarint_122 (O : Oracle E1) (a0 : List UInt8) (a1 : Int) (a2 : Int) (a3 : Int) : Option ((Unit) ⊕ ((Int × Int × Bool × Unit) × (Unit))) := O.L 110 lh_impl_ReadVarint_122 cd_impl_ReadVarint_122 (a0, a1, a2, a3, ())
theorem k0l_impl_ReadVarint_122 (a0 : List UInt8) (a1 : Int) (a2 : Int) (a3 : Int) : Ct E1 (fun O => l_impl_ReadVarint_122 O a0 a1 a2 a3) := by unfold l_impl_ReadVarint_122; exact Ct.L (E := E1) 110 lh_impl_ReadVarint_122 cd_impl_ReadVarint_122 (a0, a1, a2, a3, ())
noncomputable abbrev lh_impl_ReadList_506 : LoopH := { key := 1012, ht := [0, 1, 9, 10, 27, 28], hτ := (fs [.str, (.int .i64), (.own (.int .i64)), (.int .i64), (.int .i64), (.int .i64)]), ex := 0, ot := [1, 9], oτ := (fs [(.int .i64), (.own (.int .i64))]) }
noncomputable def cd_impl_ReadList_506 : Code := Code.part (bodyOf 111) [1, 1, 1, 1, 1, 0, 1, 0, 0]
noncomputable def l_impl_ReadList_506 (O : Oracle E1) (a0 : List UInt8) (a1 : Int) (a2 : List Int) (a3 : Int) (a4 : Int) (a5 : Int) : Option ((Int × (List Int) × Unit) ⊕ (((List Int) × Int × Bool × Unit) × (Unit))) := O.L 111 lh_impl_ReadList_506 cd_impl_ReadList_506 (a0, a1, a2, a3, a4, a5, ())
theorem k0l_impl_ReadList_506 (a0 : List UInt8) (a1 : Int) (a2 : List Int) (a3 : Int) (a4 : Int) (a5 : Int) : Ct E1 (fun O => l_impl_ReadList_506 O a0 a1 a2 a3 a4 a5) := by unfold l_impl_ReadList_506; exact Ct.L (E := E1) 111 lh_impl_ReadList_506 cd_impl_ReadList_506 (a0, a1, a2, a3, a4, a5, ())
noncomputable abbrev lh_impl_scanner_clause_58 : LoopH := { key := 116, ht := [0, 3, 7, 8], hτ := (fs [(.box (.agg (fs [.str, (.int .i64), .bool]))), (.own (.agg (fs [.bool, (.own (.int .i64)), (.own (.int .i64))]))), (.int .i64), (.int .i64)]), ex := 0, ot := [0, 3], oτ := (fs [(.box (.agg (fs [.str, (.int .i64), .bool]))), (.own (.agg (fs [.bool, (.own (.int .i64)), (.own (.int .i64))])))]) }
noncomputable def cd_impl_scanner_clause_58 : Code := Code.part (bodyOf 44) [1, 1, 0, 1, 0, 0]
noncomputable def l_impl_scanner_clause_58 (O : Oracle E1) (a0 : (List UInt8) × Int × Bool × Unit) (a1 : List (Bool × (List Int) × (List Int) × Unit)) (a2 : Int) (a3 : Int) : Option ((((List UInt8) × Int × Bool × Unit) × (List (Bool × (List Int) × (List Int) × Unit)) × Unit) ⊕ (((List (Bool × (List Int) × (List Int) × Unit)) × Unit) × (((List UInt8) × Int × Bool × Unit) × Unit))) := O.L 44 lh_impl_scanner_clause_58 cd_impl_scanner_clause_58 (a0, a1, a2, a3, ())
theorem k0l_impl_scanner_clause_58 (a0 : (List UInt8) × Int × Bool × Unit) (a1 : List (Bool × (List Int) × (List Int) × Unit)) (a2 : Int) (a3 : Int) : Ct E1 (fun O => l_impl_scanner_clause_58 O a0 a1 a2 a3) := by unfold l_impl_scanner_clause_58; exact Ct.L (E := E1) 44 lh_impl_scanner_clause_58 cd_impl_scanner_clause_58 (a0, a1, a2, a3, ())
noncomputable abbrev lh_impl_Sign_isTerm_122 : LoopH := { key := 244, ht := [2, 5, 11, 12, 13], hτ := (fs [(.box (.agg (fs [(.sl (.int .i64))]))), (.int .i64), (.sl (.int .i64)), (.int .i64), (.int .i64)]), ex := 0, ot := [5], oτ := (fs [(.int .i64)]) }
noncomputable def cd_impl_Sign_isTerm_122 : Code := Code.part (bodyOf 113) [1, 1, 1, 0, 1, 0, 0]
noncomputable def l_impl_Sign_isTerm_122 (O : Oracle E1) (a0 : (List Int) × Unit) (a1 : Int) (a2 : List Int) (a3 : Int) (a4 : Int) : Option ((Int × Unit) ⊕ ((Bool × Unit) × (Unit))) := O.L 113 lh_impl_Sign_isTerm_122 cd_impl_Sign_isTerm_122 (a0, a1, a2, a3, a4, ())
theorem k0l_impl_Sign_isTerm_122 (a0 : (List Int) × Unit) (a1 : Int) (a2 : List Int) (a3 : Int) (a4 : Int) : Ct E1 (fun O => l_impl_Sign_isTerm_122 O a0 a1 a2 a3 a4) := by unfold l_impl_Sign_isTerm_122; exact Ct.L (E := E1) 113 lh_impl_Sign_isTerm_122 cd_impl_Sign_isTerm_122 (a0, a1, a2, a3, a4, ())
noncomputable abbrev lh_slices_IndexFunc_impl_Lit_impl_Lit__impl_Sign_isClause_1_26 : LoopH := { key := 52, ht := [0, 1, 7, 8], hτ := (fs [(.sl (.agg (fs [.bool, (.sl (.int .i64)), (.sl (.int .i64))]))), (.fn 79 (fs [(.ptr (.agg (fs [(.sl (.int .i64))])))])), (.int .i64), (.int .i64)]), ex := 0, ot := [], oτ := (fs []) }
noncomputable def cd_slices_IndexFunc_impl_Lit_impl_Lit__impl_Sign_isClause_1_26 : Code := Code.part (bodyOf 112) [1, 0, 1, 0, 0]
noncomputable def l_slices_IndexFunc_impl_Lit_impl_Lit__impl_Sign_isClause_1_26 (O : Oracle E1) (a0 : List (Bool × (List Int) × (List Int) × Unit)) (a1 : ((List Int) × Unit) × Unit) (a2 : Int) (a3 : Int) : Option ((Unit) ⊕ ((Int × Unit) × (Unit))) := O.L 5242992 lh_slices_IndexFunc_impl_Lit_impl_Lit__impl_Sign_isClause_1_26 cd_slices_IndexFunc_impl_Lit_impl_Lit__impl_Sign_isClause_1_26 (a0, a1, a2, a3, ())
theorem k0l_slices_IndexFunc_impl_Lit_impl_Lit__impl_Sign_isClause_1_26 (a0 : List (Bool × (List Int) × (List Int) × Unit)) (a1 : ((List Int) × Unit) × Unit) (a2 : Int) (a3 : Int) : Ct E1 (fun O => l_slices_IndexFunc_impl_Lit_impl_Lit__impl_Sign_isClause_1_26 O a0 a1 a2 a3) := by unfold l_slices_IndexFunc_impl_Lit_impl_Lit__impl_Sign_isClause_1_26; exact Ct.L (E := E1) 5242992 lh_slices_IndexFunc_impl_Lit_impl_Lit__impl_Sign_isClause_1_26 cd_slices_IndexFunc_impl_Lit_impl_Lit__impl_Sign_isClause_1_26 (a0, a1, a2, a3, ())
noncomputable abbrev lh_laws_eqIntS_58 : LoopH := { key := 116, ht := [0, 1, 5], hτ := (fs [(.sl (.int .i64)), (.sl (.int .i64)), (.int .i64)]), ex := 0, ot := [], oτ := (fs []) }
noncomputable def cd_laws_eqIntS_58 : Code := Code.part (bodyOf 26) [1, 1, 0, 1, 0, 0]
noncomputable def l_laws_eqIntS_58 (O : Oracle E1) (a0 : List Int) (a1 : List Int) (a2 : Int) : Option ((Unit) ⊕ ((Bool × Unit) × (Unit))) := O.L 26 lh_laws_eqIntS_58 cd_laws_eqIntS_58 (a0, a1, a2, ())
theorem k0l_laws_eqIntS_58 (a0 : List Int) (a1 : List Int) (a2 : Int) : Ct E1 (fun O => l_laws_eqIntS_58 O a0 a1 a2) := by unfold l_laws_eqIntS_58; exact Ct.L (E := E1) 26 lh_laws_eqIntS_58 cd_laws_eqIntS_58 (a0, a1, a2, ())
noncomputable abbrev lh_laws_eqLitS_58 : LoopH := { key := 116, ht := [0, 1, 5], hτ := (fs [(.sl (.agg (fs [.bool, (.sl (.int .i64)), (.sl (.int .i64))]))), (.sl (.agg (fs [.bool, (.sl (.int .i64)), (.sl (.int .i64))]))), (.int .i64)]), ex := 0, ot := [], oτ := (fs []) }
noncomputable def cd_laws_eqLitS_58 : Code := Code.part (bodyOf 13) [1, 1, 0, 1, 0, 0]
noncomputable def l_laws_eqLitS_58 (O : Oracle E1) (a0 : List (Bool × (List Int) × (List Int) × Unit)) (a1 : List (Bool × (List Int) × (List Int) × Unit)) (a2 : Int) : Option ((Unit) ⊕ ((Bool × Unit) × (Unit))) := O.L 13 lh_laws_eqLitS_58 cd_laws_eqLitS_58 (a0, a1, a2, ())
theorem k0l_laws_eqLitS_58 (a0 : List (Bool × (List Int) × (List Int) × Unit)) (a1 : List (Bool × (List Int) × (List Int) × Unit)) (a2 : Int) : Ct E1 (fun O => l_laws_eqLitS_58 O a0 a1 a2) := by unfold l_laws_eqLitS_58; exact Ct.L (E := E1) 13 lh_laws_eqLitS_58 cd_laws_eqLitS_58 (a0, a1, a2, ())
noncomputable abbrev lh_laws_markIntS_26 : LoopH := { key := 52, ht := [0, 1, 5], hτ := (fs [(.own (.int .i64)), (.int .i64), (.int .i64)]), ex := 0, ot := [0, 1], oτ := (fs [(.own (.int .i64)), (.int .i64)]) }
noncomputable def cd_laws_markIntS_26 : Code := Code.part (bodyOf 29) [1, 0, 1, 0, 0]
noncomputable def l_laws_markIntS_26 (O : Oracle E1) (a0 : List Int) (a1 : Int) (a2 : Int) : Option (((List Int) × Int × Unit) ⊕ ((Int × Unit) × ((List Int) × Unit))) := O.L 29 lh_laws_markIntS_26 cd_laws_markIntS_26 (a0, a1, a2, ())
theorem k0l_laws_markIntS_26 (a0 : List Int) (a1 : Int) (a2 : Int) : Ct E1 (fun O => l_laws_markIntS_26 O a0 a1 a2) := by unfold l_laws_markIntS_26; exact Ct.L (E := E1) 29 lh_laws_markIntS_26 cd_laws_markIntS_26 (a0, a1, a2, ())
noncomputable abbrev lh_laws_markLitS_26 : LoopH := { key := 52, ht := [0, 1, 5], hτ := (fs [(.own (.agg (fs [.bool, (.own (.int .i64)), (.own (.int .i64))]))), (.int .i64), (.int .i64)]), ex := 0, ot := [0, 1], oτ := (fs [(.own (.agg (fs [.bool, (.own (.int .i64)), (.own (.int .i64))]))), (.int .i64)]) }
noncomputable def cd_laws_markLitS_26 : Code := Code.part (bodyOf 16) [1, 0, 1, 0, 0]
noncomputable def l_laws_markLitS_26 (O : Oracle E1) (a0 : List (Bool × (List Int) × (List Int) × Unit)) (a1 : Int) (a2 : Int) : Option (((List (Bool × (List Int) × (List Int) × Unit)) × Int × Unit) ⊕ ((Int × Unit) × ((List (Bool × (List Int) × (List Int) × Unit)) × Unit))) := O.L 16 lh_laws_markLitS_26 cd_laws_markLitS_26 (a0, a1, a2, ())
theorem k0l_laws_markLitS_26 (a0 : List (Bool × (List Int) × (List Int) × Unit)) (a1 : Int) (a2 : Int) : Ct E1 (fun O => l_laws_markLitS_26 O a0 a1 a2) := by unfold l_laws_markLitS_26; exact Ct.L (E := E1) 16 lh_laws_markLitS_26 cd_laws_markLitS_26 (a0, a1, a2, ())
noncomputable abbrev lh_laws_heldIntS_26 : LoopH := { key := 52, ht := [0, 1, 5], hτ := (fs [(.sl (.int .i64)), (.int .i64), (.int .i64)]), ex := 0, ot := [1], oτ := (fs [(.int .i64)]) }
noncomputable def cd_laws_heldIntS_26 : Code := Code.part (bodyOf 30) [1, 0, 1, 0, 0]
noncomputable def l_laws_heldIntS_26 (O : Oracle E1) (a0 : List Int) (a1 : Int) (a2 : Int) : Option ((Int × Unit) ⊕ ((Int × Unit) × (Unit))) := O.L 30 lh_laws_heldIntS_26 cd_laws_heldIntS_26 (a0, a1, a2, ())
theorem k0l_laws_heldIntS_26 (a0 : List Int) (a1 : Int) (a2 : Int) : Ct E1 (fun O => l_laws_heldIntS_26 O a0 a1 a2) := by unfold l_laws_heldIntS_26; exact Ct.L (E := E1) 30 lh_laws_heldIntS_26 cd_laws_heldIntS_26 (a0, a1, a2, ())
noncomputable abbrev lh_laws_heldLitS_26 : LoopH := { key := 52, ht := [0, 1, 5], hτ := (fs [(.sl (.agg (fs [.bool, (.sl (.int .i64)), (.sl (.int .i64))]))), (.int .i64), (.int .i64)]), ex := 0, ot := [1], oτ := (fs [(.int .i64)]) }
noncomputable def cd_laws_heldLitS_26 : Code := Code.part (bodyOf 17) [1, 0, 1, 0, 0]
noncomputable def l_laws_heldLitS_26 (O : Oracle E1) (a0 : List (Bool × (List Int) × (List Int) × Unit)) (a1 : Int) (a2 : Int) : Option ((Int × Unit) ⊕ ((Int × Unit) × (Unit))) := O.L 17 lh_laws_heldLitS_26 cd_laws_heldLitS_26 (a0, a1, a2, ())
theorem k0l_laws_heldLitS_26 (a0 : List (Bool × (List Int) × (List Int) × Unit)) (a1 : Int) (a2 : Int) : Ct E1 (fun O => l_laws_heldLitS_26 O a0 a1 a2) := by unfold l_laws_heldLitS_26; exact Ct.L (E := E1) 17 lh_laws_heldLitS_26 cd_laws_heldLitS_26 (a0, a1, a2, ())
end Go.Proofs.YtofkhmedmeihiaaRb.Ev
