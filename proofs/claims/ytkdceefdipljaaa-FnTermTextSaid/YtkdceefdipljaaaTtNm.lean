/- A text of its own: Nm; no condition but those that each theorem names. -/
import Derived.Test.YtkdceefdipljaaaTtEnv
import Derived.Test.YtkdceefdipljaaaTtEvWt
/- The functions' names, at every oracle: printed by sym.py; no condition. -/
namespace Go.Proofs.YtkdceefdipljaaaTt.Ev
open Go
set_option maxRecDepth 100000
set_option autoImplicit false
set_option linter.unusedVariables false

noncomputable abbrev M : Oracle E1 := Lm E1
noncomputable def c_laws_big (O : Oracle E1) (a0 : List Int) (a1 : List Int) : Option ((Bool × Unit) × (Unit)) := O.C 7 (a0, a1, ())
theorem k0_laws_big (a0 : List Int) (a1 : List Int) : Ct E1 (fun O => c_laws_big O a0 a1) := by unfold c_laws_big; exact Ct.C (E := E1) 7 (a0, a1, ())
noncomputable def c_spec_l1Cur_next (O : Oracle E1) (a0 : (List Int) × Int × Int × Unit) : Option ((Int × Unit) × (((List Int) × Int × Int × Unit) × Unit)) := O.C 166 (a0, ())
theorem k0_spec_l1Cur_next (a0 : (List Int) × Int × Int × Unit) : Ct E1 (fun O => c_spec_l1Cur_next O a0) := by unfold c_spec_l1Cur_next; exact Ct.C (E := E1) 166 (a0, ())
noncomputable def c_spec_l1Cur_pick (O : Oracle E1) (a0 : (List Int) × Int × Int × Unit) (a1 : Int) : Option ((Int × Unit) × (((List Int) × Int × Int × Unit) × Unit)) := O.C 129 (a0, a1, ())
theorem k0_spec_l1Cur_pick (a0 : (List Int) × Int × Int × Unit) (a1 : Int) : Ct E1 (fun O => c_spec_l1Cur_pick O a0 a1) := by unfold c_spec_l1Cur_pick; exact Ct.C (E := E1) 129 (a0, a1, ())
noncomputable def c_spec_l1Cur_sign (O : Oracle E1) (a0 : (List Int) × Int × Int × Unit) : Option ((((List Int) × Unit) × Unit) × (((List Int) × Int × Int × Unit) × Unit)) := O.C 67 (a0, ())
theorem k0_spec_l1Cur_sign (a0 : (List Int) × Int × Int × Unit) : Ct E1 (fun O => c_spec_l1Cur_sign O a0) := by unfold c_spec_l1Cur_sign; exact Ct.C (E := E1) 67 (a0, ())
noncomputable def c_spec_l1Cur_among (O : Oracle E1) (a0 : (List Int) × Int × Int × Unit) (a1 : List Int) : Option ((Int × Unit) × (((List Int) × Int × Int × Unit) × Unit)) := O.C 74 (a0, a1, ())
theorem k0_spec_l1Cur_among (a0 : (List Int) × Int × Int × Unit) (a1 : List Int) : Ct E1 (fun O => c_spec_l1Cur_among O a0 a1) := by unfold c_spec_l1Cur_among; exact Ct.C (E := E1) 74 (a0, a1, ())
noncomputable def c_spec_l1Cur_one (O : Oracle E1) (a0 : (List Int) × Int × Int × Unit) (a1 : Int) : Option ((Bool × Unit) × (((List Int) × Int × Int × Unit) × Unit)) := O.C 69 (a0, a1, ())
theorem k0_spec_l1Cur_one (a0 : (List Int) × Int × Int × Unit) (a1 : Int) : Ct E1 (fun O => c_spec_l1Cur_one O a0 a1) := by unfold c_spec_l1Cur_one; exact Ct.C (E := E1) 69 (a0, a1, ())
noncomputable def c_spec_l1Cur_term (O : Oracle E1) (a0 : (List Int) × Int × Int × Unit) (a1 : (List Int) × Unit) (a2 : Int) (a3 : Int) : Option (((List Int) × Unit) × (((List Int) × Int × Int × Unit) × Unit)) := O.C 130 (a0, a1, a2, a3, ())
theorem k0_spec_l1Cur_term (a0 : (List Int) × Int × Int × Unit) (a1 : (List Int) × Unit) (a2 : Int) (a3 : Int) : Ct E1 (fun O => c_spec_l1Cur_term O a0 a1 a2 a3) := by unfold c_spec_l1Cur_term; exact Ct.C (E := E1) 130 (a0, a1, a2, a3, ())
noncomputable def c_spec_l1Cur_anyTerm (O : Oracle E1) (a0 : (List Int) × Int × Int × Unit) (a1 : (List Int) × Unit) : Option (((List Int) × Unit) × (((List Int) × Int × Int × Unit) × Unit)) := O.C 68 (a0, a1, ())
theorem k0_spec_l1Cur_anyTerm (a0 : (List Int) × Int × Int × Unit) (a1 : (List Int) × Unit) : Ct E1 (fun O => c_spec_l1Cur_anyTerm O a0 a1) := by unfold c_spec_l1Cur_anyTerm; exact Ct.C (E := E1) 68 (a0, a1, ())
noncomputable def c_spec_DrawGoodTerm (O : Oracle E1) (a0 : List Int) : Option ((((List Int) × Unit) × (List Int) × Unit) × (Unit)) := O.C 59 (a0, ())
theorem k0_spec_DrawGoodTerm (a0 : List Int) : Ct E1 (fun O => c_spec_DrawGoodTerm O a0) := by unfold c_spec_DrawGoodTerm; exact Ct.C (E := E1) 59 (a0, ())
noncomputable def c_spec_DrawTermText (O : Oracle E1) (a0 : List Int) : Option ((((List Int) × Unit) × (List Int) × Unit) × (Unit)) := O.C 8 (a0, ())
theorem k0_spec_DrawTermText (a0 : List Int) : Ct E1 (fun O => c_spec_DrawTermText O a0) := by unfold c_spec_DrawTermText; exact Ct.C (E := E1) 8 (a0, ())
noncomputable def c_impl_GoodSign_1 (O : Oracle E1) (a0 : Int) : Option ((Bool × Unit) × (Unit)) := O.C 126 (a0, ())
theorem k0_impl_GoodSign_1 (a0 : Int) : Ct E1 (fun O => c_impl_GoodSign_1 O a0) := by unfold c_impl_GoodSign_1; exact Ct.C (E := E1) 126 (a0, ())
noncomputable def c_slices_IndexFunc_int_int__impl_GoodSign_1 (O : Oracle E1) (a0 : List Int) (a1 : Unit) : Option ((Int × Unit) × (Unit)) := O.C 8323237 (a0, a1, ())
theorem k0_slices_IndexFunc_int_int__impl_GoodSign_1 (a0 : List Int) (a1 : Unit) : Ct E1 (fun O => c_slices_IndexFunc_int_int__impl_GoodSign_1 O a0 a1) := by unfold c_slices_IndexFunc_int_int__impl_GoodSign_1; exact Ct.C (E := E1) 8323237 (a0, a1, ())
noncomputable def c_slices_ContainsFunc_int_int__impl_GoodSign_1 (O : Oracle E1) (a0 : List Int) (a1 : Unit) : Option ((Bool × Unit) × (Unit)) := O.C 8323197 (a0, a1, ())
theorem k0_slices_ContainsFunc_int_int__impl_GoodSign_1 (a0 : List Int) (a1 : Unit) : Ct E1 (fun O => c_slices_ContainsFunc_int_int__impl_GoodSign_1 O a0 a1) := by unfold c_slices_ContainsFunc_int_int__impl_GoodSign_1; exact Ct.C (E := E1) 8323197 (a0, a1, ())
noncomputable def c_impl_GoodSign (O : Oracle E1) (a0 : (List Int) × Unit) : Option ((Bool × Unit) × (Unit)) := O.C 64 (a0, ())
theorem k0_impl_GoodSign (a0 : (List Int) × Unit) : Ct E1 (fun O => c_impl_GoodSign O a0) := by unfold c_impl_GoodSign; exact Ct.C (E := E1) 64 (a0, ())
noncomputable def c_impl_Sign_args (O : Oracle E1) (a0 : (List Int) × Unit) (a1 : Int) : Option ((Int × Unit) × (Unit)) := O.C 134 (a0, a1, ())
theorem k0_impl_Sign_args (a0 : (List Int) × Unit) (a1 : Int) : Ct E1 (fun O => c_impl_Sign_args O a0 a1) := by unfold c_impl_Sign_args; exact Ct.C (E := E1) 134 (a0, a1, ())
noncomputable def c_impl_Sign_isTerm (O : Oracle E1) (a0 : (List Int) × Unit) (a1 : List Int) : Option ((Bool × Unit) × (Unit)) := O.C 76 (a0, a1, ())
theorem k0_impl_Sign_isTerm (a0 : (List Int) × Unit) (a1 : List Int) : Ct E1 (fun O => c_impl_Sign_isTerm O a0 a1) := by unfold c_impl_Sign_isTerm; exact Ct.C (E := E1) 76 (a0, a1, ())
noncomputable def c_impl_GoodTerm (O : Oracle E1) (a0 : (List Int) × Unit) (a1 : List Int) : Option ((Bool × Unit) × (Unit)) := O.C 60 (a0, a1, ())
theorem k0_impl_GoodTerm (a0 : (List Int) × Unit) (a1 : List Int) : Ct E1 (fun O => c_impl_GoodTerm O a0 a1) := by unfold c_impl_GoodTerm; exact Ct.C (E := E1) 60 (a0, a1, ())
noncomputable def c_impl_Sign_text (O : Oracle E1) (a0 : (List Int) × Unit) (a1 : List Int) (a2 : List Int) (a3 : Int) : Option (((List Int) × Int × Unit) × (Unit)) := O.C 123 (a0, a1, a2, a3, ())
theorem k0_impl_Sign_text (a0 : (List Int) × Unit) (a1 : List Int) (a2 : List Int) (a3 : Int) : Ct E1 (fun O => c_impl_Sign_text O a0 a1 a2 a3) := by unfold c_impl_Sign_text; exact Ct.C (E := E1) 123 (a0, a1, a2, a3, ())
noncomputable def c_impl_Sign_termText (O : Oracle E1) (a0 : (List Int) × Unit) (a1 : List Int) : Option (((List UInt8) × Unit) × (Unit)) := O.C 61 (a0, a1, ())
theorem k0_impl_Sign_termText (a0 : (List Int) × Unit) (a1 : List Int) : Ct E1 (fun O => c_impl_Sign_termText O a0 a1) := by unfold c_impl_Sign_termText; exact Ct.C (E := E1) 61 (a0, a1, ())
noncomputable def c_impl_TermText (O : Oracle E1) (a0 : (List Int) × Unit) (a1 : List Int) : Option (((List UInt8) × Bool × Unit) × (Unit)) := O.C 9 (a0, a1, ())
theorem k0_impl_TermText (a0 : (List Int) × Unit) (a1 : List Int) : Ct E1 (fun O => c_impl_TermText O a0 a1) := by unfold c_impl_TermText; exact Ct.C (E := E1) 9 (a0, a1, ())
noncomputable def c_spec_l1In (O : Oracle E1) (a0 : Int) (a1 : Int) (a2 : Int) : Option ((Bool × Unit) × (Unit)) := O.C 77 (a0, a1, a2, ())
theorem k0_spec_l1In (a0 : Int) (a1 : Int) (a2 : Int) : Ct E1 (fun O => c_spec_l1In O a0 a1 a2) := by unfold c_spec_l1In; exact Ct.C (E := E1) 77 (a0, a1, a2, ())
noncomputable def c_spec_l1All (O : Oracle E1) (a0 : List Int) (a1 : Int) (a2 : Int) : Option ((Bool × Unit) × (Unit)) := O.C 131 (a0, a1, a2, ())
theorem k0_spec_l1All (a0 : List Int) (a1 : Int) (a2 : Int) : Ct E1 (fun O => c_spec_l1All O a0 a1 a2) := by unfold c_spec_l1All; exact Ct.C (E := E1) 131 (a0, a1, a2, ())
noncomputable def c_spec_GoodSign (O : Oracle E1) (a0 : (List Int) × Unit) : Option ((Bool × Unit) × (Unit)) := O.C 71 (a0, ())
theorem k0_spec_GoodSign (a0 : (List Int) × Unit) : Ct E1 (fun O => c_spec_GoodSign O a0) := by unfold c_spec_GoodSign; exact Ct.C (E := E1) 71 (a0, ())
noncomputable def c_spec_l1End (O : Oracle E1) (a0 : (List Int) × Unit) (a1 : List Int) (a2 : Int) : Option ((Int × Unit) × (Unit)) := O.C 132 (a0, a1, a2, ())
theorem k0_spec_l1End (a0 : (List Int) × Unit) (a1 : List Int) (a2 : Int) : Ct E1 (fun O => c_spec_l1End O a0 a1 a2) := by unfold c_spec_l1End; exact Ct.C (E := E1) 132 (a0, a1, a2, ())
noncomputable def c_spec_l1Term (O : Oracle E1) (a0 : (List Int) × Unit) (a1 : List Int) : Option ((Bool × Unit) × (Unit)) := O.C 73 (a0, a1, ())
theorem k0_spec_l1Term (a0 : (List Int) × Unit) (a1 : List Int) : Ct E1 (fun O => c_spec_l1Term O a0 a1) := by unfold c_spec_l1Term; exact Ct.C (E := E1) 73 (a0, a1, ())
noncomputable def c_spec_GoodTerm (O : Oracle E1) (a0 : (List Int) × Unit) (a1 : List Int) : Option ((Bool × Unit) × (Unit)) := O.C 62 (a0, a1, ())
theorem k0_spec_GoodTerm (a0 : (List Int) × Unit) (a1 : List Int) : Ct E1 (fun O => c_spec_GoodTerm O a0 a1) := by unfold c_spec_GoodTerm; exact Ct.C (E := E1) 62 (a0, a1, ())
noncomputable def c_spec_l1Args (O : Oracle E1) (a0 : (List Int) × Unit) (a1 : List Int) (a2 : Int) : Option (((List Int) × Unit) × (Unit)) := O.C 124 (a0, a1, a2, ())
theorem k0_spec_l1Args (a0 : (List Int) × Unit) (a1 : List Int) (a2 : Int) : Ct E1 (fun O => c_spec_l1Args O a0 a1 a2) := by unfold c_spec_l1Args; exact Ct.C (E := E1) 124 (a0, a1, a2, ())
noncomputable def c_spec_l1TermText (O : Oracle E1) (a0 : (List Int) × Unit) (a1 : List Int) (a2 : Int) : Option (((List UInt8) × Unit) × (Unit)) := O.C 63 (a0, a1, a2, ())
theorem k0_spec_l1TermText (a0 : (List Int) × Unit) (a1 : List Int) (a2 : Int) : Ct E1 (fun O => c_spec_l1TermText O a0 a1 a2) := by unfold c_spec_l1TermText; exact Ct.C (E := E1) 63 (a0, a1, a2, ())
noncomputable def c_spec_TermText (O : Oracle E1) (a0 : (List Int) × Unit) (a1 : List Int) : Option (((List UInt8) × Bool × Unit) × (Unit)) := O.C 10 (a0, a1, ())
theorem k0_spec_TermText (a0 : (List Int) × Unit) (a1 : List Int) : Ct E1 (fun O => c_spec_TermText O a0 a1) := by unfold c_spec_TermText; exact Ct.C (E := E1) 10 (a0, a1, ())
noncomputable def c_impl_parser_next (O : Oracle E1) (a0 : ((List Int) × Unit) × (List UInt8) × Int × Int × Bool × Unit) : Option ((Int × Unit) × ((((List Int) × Unit) × (List UInt8) × Int × Int × Bool × Unit) × Unit)) := O.C 127 (a0, ())
theorem k0_impl_parser_next (a0 : ((List Int) × Unit) × (List UInt8) × Int × Int × Bool × Unit) : Ct E1 (fun O => c_impl_parser_next O a0) := by unfold c_impl_parser_next; exact Ct.C (E := E1) 127 (a0, ())
noncomputable def c_impl_parser_take (O : Oracle E1) (a0 : ((List Int) × Unit) × (List UInt8) × Int × Int × Bool × Unit) (a1 : List UInt8) : Option ((Int × Unit) × ((((List Int) × Unit) × (List UInt8) × Int × Int × Bool × Unit) × Unit)) := O.C 128 (a0, a1, ())
theorem k0_impl_parser_take (a0 : ((List Int) × Unit) × (List UInt8) × Int × Int × Bool × Unit) (a1 : List UInt8) : Ct E1 (fun O => c_impl_parser_take O a0 a1) := by unfold c_impl_parser_take; exact Ct.C (E := E1) 128 (a0, a1, ())
noncomputable def c_impl_parser_term (O : Oracle E1) (a0 : ((List Int) × Unit) × (List UInt8) × Int × Int × Bool × Unit) : Option (((List Int) × Unit) × ((((List Int) × Unit) × (List UInt8) × Int × Int × Bool × Unit) × Unit)) := O.C 65 (a0, ())
theorem k0_impl_parser_term (a0 : ((List Int) × Unit) × (List UInt8) × Int × Int × Bool × Unit) : Ct E1 (fun O => c_impl_parser_term O a0) := by unfold c_impl_parser_term; exact Ct.C (E := E1) 65 (a0, ())
noncomputable def c_impl_parser_done (O : Oracle E1) (a0 : ((List Int) × Unit) × (List UInt8) × Int × Int × Bool × Unit) : Option ((Bool × Unit) × ((((List Int) × Unit) × (List UInt8) × Int × Int × Bool × Unit) × Unit)) := O.C 66 (a0, ())
theorem k0_impl_parser_done (a0 : ((List Int) × Unit) × (List UInt8) × Int × Int × Bool × Unit) : Ct E1 (fun O => c_impl_parser_done O a0) := by unfold c_impl_parser_done; exact Ct.C (E := E1) 66 (a0, ())
noncomputable def c_impl_ReadTerm (O : Oracle E1) (a0 : (List Int) × Unit) (a1 : List UInt8) : Option (((List Int) × Int × Bool × Unit) × (Unit)) := O.C 11 (a0, a1, ())
theorem k0_impl_ReadTerm (a0 : (List Int) × Unit) (a1 : List UInt8) : Ct E1 (fun O => c_impl_ReadTerm O a0 a1) := by unfold c_impl_ReadTerm; exact Ct.C (E := E1) 11 (a0, a1, ())
noncomputable def c_laws_sameInts (O : Oracle E1) (a0 : List Int) (a1 : List Int) : Option ((Bool × Unit) × (Unit)) := O.C 42 (a0, a1, ())
theorem k0_laws_sameInts (a0 : List Int) (a1 : List Int) : Ct E1 (fun O => c_laws_sameInts O a0 a1) := by unfold c_laws_sameInts; exact Ct.C (E := E1) 42 (a0, a1, ())
noncomputable def c_laws_sameTerm (O : Oracle E1) (a0 : List Int) (a1 : List Int) : Option ((Bool × Unit) × (Unit)) := O.C 12 (a0, a1, ())
theorem k0_laws_sameTerm (a0 : List Int) (a1 : List Int) : Ct E1 (fun O => c_laws_sameTerm O a0 a1) := by unfold c_laws_sameTerm; exact Ct.C (E := E1) 12 (a0, a1, ())
noncomputable def c_spec_l1Cur_spoilt (O : Oracle E1) (a0 : (List Int) × Int × Int × Unit) (a1 : List UInt8) (a2 : List UInt8) : Option (((List UInt8) × Unit) × (((List Int) × Int × Int × Unit) × Unit)) := O.C 70 (a0, a1, a2, ())
theorem k0_spec_l1Cur_spoilt (a0 : (List Int) × Int × Int × Unit) (a1 : List UInt8) (a2 : List UInt8) : Ct E1 (fun O => c_spec_l1Cur_spoilt O a0 a1 a2) := by unfold c_spec_l1Cur_spoilt; exact Ct.C (E := E1) 70 (a0, a1, a2, ())
noncomputable def c_spec_DrawReadTerm (O : Oracle E1) (a0 : List Int) : Option ((((List Int) × Unit) × (List UInt8) × Unit) × (Unit)) := O.C 13 (a0, ())
theorem k0_spec_DrawReadTerm (a0 : List Int) : Ct E1 (fun O => c_spec_DrawReadTerm O a0) := by unfold c_spec_DrawReadTerm; exact Ct.C (E := E1) 13 (a0, ())
noncomputable def c_spec_l1ReadTerm (O : Oracle E1) (a0 : (List Int) × Unit) (a1 : List UInt8) (a2 : Int) : Option (((List Int) × Int × Bool × Unit) × (Unit)) := O.C 72 (a0, a1, a2, ())
theorem k0_spec_l1ReadTerm (a0 : (List Int) × Unit) (a1 : List UInt8) (a2 : Int) : Ct E1 (fun O => c_spec_l1ReadTerm O a0 a1 a2) := by unfold c_spec_l1ReadTerm; exact Ct.C (E := E1) 72 (a0, a1, a2, ())
noncomputable def c_spec_ReadTerm (O : Oracle E1) (a0 : (List Int) × Unit) (a1 : List UInt8) : Option (((List Int) × Int × Bool × Unit) × (Unit)) := O.C 14 (a0, a1, ())
theorem k0_spec_ReadTerm (a0 : (List Int) × Unit) (a1 : List UInt8) : Ct E1 (fun O => c_spec_ReadTerm O a0 a1) := by unfold c_spec_ReadTerm; exact Ct.C (E := E1) 14 (a0, a1, ())
noncomputable def c_spec_DrawShiftVars (O : Oracle E1) (a0 : List Int) : Option ((((List Int) × Unit) × (List Int) × Int × Unit) × (Unit)) := O.C 15 (a0, ())
theorem k0_spec_DrawShiftVars (a0 : List Int) : Ct E1 (fun O => c_spec_DrawShiftVars O a0) := by unfold c_spec_DrawShiftVars; exact Ct.C (E := E1) 15 (a0, ())
noncomputable def c_impl_shift (O : Oracle E1) (a0 : List Int) (a1 : Int) : Option (((List Int) × Unit) × (Unit)) := O.C 75 (a0, a1, ())
theorem k0_impl_shift (a0 : List Int) (a1 : Int) : Ct E1 (fun O => c_impl_shift O a0 a1) := by unfold c_impl_shift; exact Ct.C (E := E1) 75 (a0, a1, ())
noncomputable def c_impl_ShiftVars (O : Oracle E1) (a0 : (List Int) × Unit) (a1 : List Int) (a2 : Int) : Option (((List Int) × Bool × Unit) × (Unit)) := O.C 16 (a0, a1, a2, ())
theorem k0_impl_ShiftVars (a0 : (List Int) × Unit) (a1 : List Int) (a2 : Int) : Ct E1 (fun O => c_impl_ShiftVars O a0 a1 a2) := by unfold c_impl_ShiftVars; exact Ct.C (E := E1) 16 (a0, a1, a2, ())
noncomputable def c_spec_l1Own (O : Oracle E1) (a0 : List Int) : Option (((List Int) × Unit) × (Unit)) := O.C 135 (a0, ())
theorem k0_spec_l1Own (a0 : List Int) : Ct E1 (fun O => c_spec_l1Own O a0) := by unfold c_spec_l1Own; exact Ct.C (E := E1) 135 (a0, ())
noncomputable def c_spec_l1Shift (O : Oracle E1) (a0 : List Int) (a1 : Int) : Option (((List Int) × Unit) × (Unit)) := O.C 78 (a0, a1, ())
theorem k0_spec_l1Shift (a0 : List Int) (a1 : Int) : Ct E1 (fun O => c_spec_l1Shift O a0 a1) := by unfold c_spec_l1Shift; exact Ct.C (E := E1) 78 (a0, a1, ())
noncomputable def c_spec_ShiftVars (O : Oracle E1) (a0 : (List Int) × Unit) (a1 : List Int) (a2 : Int) : Option (((List Int) × Bool × Unit) × (Unit)) := O.C 17 (a0, a1, a2, ())
theorem k0_spec_ShiftVars (a0 : (List Int) × Unit) (a1 : List Int) (a2 : Int) : Ct E1 (fun O => c_spec_ShiftVars O a0 a1 a2) := by unfold c_spec_ShiftVars; exact Ct.C (E := E1) 17 (a0, a1, a2, ())
noncomputable def c_slices_Equal_int_int (O : Oracle E1) (a0 : List Int) (a1 : List Int) : Option ((Bool × Unit) × (Unit)) := O.C 79 (a0, a1, ())
theorem k0_slices_Equal_int_int (a0 : List Int) (a1 : List Int) : Ct E1 (fun O => c_slices_Equal_int_int O a0 a1) := by unfold c_slices_Equal_int_int; exact Ct.C (E := E1) 79 (a0, a1, ())
noncomputable def c_impl_rename (O : Oracle E1) (a0 : List (List Int)) : Option (((List (List Int)) × Unit) × (Unit)) := O.C 80 (a0, ())
theorem k0_impl_rename (a0 : List (List Int)) : Ct E1 (fun O => c_impl_rename O a0) := by unfold c_impl_rename; exact Ct.C (E := E1) 80 (a0, ())
noncomputable def c_impl_SameUpTo (O : Oracle E1) (a0 : (List Int) × Unit) (a1 : List Int) (a2 : List Int) : Option ((Bool × Bool × Unit) × (Unit)) := O.C 18 (a0, a1, a2, ())
theorem k0_impl_SameUpTo (a0 : (List Int) × Unit) (a1 : List Int) (a2 : List Int) : Ct E1 (fun O => c_impl_SameUpTo O a0 a1 a2) := by unfold c_impl_SameUpTo; exact Ct.C (E := E1) 18 (a0, a1, a2, ())
noncomputable def c_laws_FnTermText (O : Oracle E1) (a0 : List Int) (a1 : List Int) : Option ((Bool × Unit) × (Unit)) := O.C 3 (a0, a1, ())
theorem k0_laws_FnTermText (a0 : List Int) (a1 : List Int) : Ct E1 (fun O => c_laws_FnTermText O a0 a1) := by unfold c_laws_FnTermText; exact Ct.C (E := E1) 3 (a0, a1, ())
noncomputable abbrev lh_spec_l1Cur_term_2042 : LoopH := { key := 4084, ht := [0, 2, 3, 5, 10, 11], hτ := (fs [(.box (.agg (fs [(.sl (.int .u8)), (.int .i64), (.int .u64)]))), (.int .i64), (.int .i64), (.box (.agg (fs [(.sl (.int .i64))]))), (.own (.int .i64)), (.int .i64)]), ex := 0, ot := [0, 10], oτ := (fs [(.box (.agg (fs [(.sl (.int .u8)), (.int .i64), (.int .u64)]))), (.own (.int .i64))]) }
noncomputable def cd_spec_l1Cur_term_2042 : Code := Code.part (bodyOf 130) [1, 1, 1, 1, 1, 1, 1, 0, 1, 0, 0]
noncomputable def l_spec_l1Cur_term_2042 (O : Oracle E1) (a0 : (List Int) × Int × Int × Unit) (a1 : Int) (a2 : Int) (a3 : (List Int) × Unit) (a4 : List Int) (a5 : Int) : Option ((((List Int) × Int × Int × Unit) × (List Int) × Unit) ⊕ (((List Int) × Unit) × (((List Int) × Int × Int × Unit) × Unit))) := O.L 130 lh_spec_l1Cur_term_2042 cd_spec_l1Cur_term_2042 (a0, a1, a2, a3, a4, a5, ())
theorem k0l_spec_l1Cur_term_2042 (a0 : (List Int) × Int × Int × Unit) (a1 : Int) (a2 : Int) (a3 : (List Int) × Unit) (a4 : List Int) (a5 : Int) : Ct E1 (fun O => l_spec_l1Cur_term_2042 O a0 a1 a2 a3 a4 a5) := by unfold l_spec_l1Cur_term_2042; exact Ct.L (E := E1) 130 lh_spec_l1Cur_term_2042 cd_spec_l1Cur_term_2042 (a0, a1, a2, a3, a4, a5, ())
noncomputable abbrev lh_slices_IndexFunc_int_int__impl_GoodSign_1_26 : LoopH := { key := 52, ht := [0, 1, 7, 8], hτ := (fs [(.sl (.int .i64)), (.fn 126 (fs [])), (.int .i64), (.int .i64)]), ex := 0, ot := [], oτ := (fs []) }
noncomputable def cd_slices_IndexFunc_int_int__impl_GoodSign_1_26 : Code := Code.part (bodyOf 165) [1, 0, 1, 0, 0]
noncomputable def l_slices_IndexFunc_int_int__impl_GoodSign_1_26 (O : Oracle E1) (a0 : List Int) (a1 : Unit) (a2 : Int) (a3 : Int) : Option ((Unit) ⊕ ((Int × Unit) × (Unit))) := O.L 8323237 lh_slices_IndexFunc_int_int__impl_GoodSign_1_26 cd_slices_IndexFunc_int_int__impl_GoodSign_1_26 (a0, a1, a2, a3, ())
theorem k0l_slices_IndexFunc_int_int__impl_GoodSign_1_26 (a0 : List Int) (a1 : Unit) (a2 : Int) (a3 : Int) : Ct E1 (fun O => l_slices_IndexFunc_int_int__impl_GoodSign_1_26 O a0 a1 a2 a3) := by unfold l_slices_IndexFunc_int_int__impl_GoodSign_1_26; exact Ct.L (E := E1) 8323237 lh_slices_IndexFunc_int_int__impl_GoodSign_1_26 cd_slices_IndexFunc_int_int__impl_GoodSign_1_26 (a0, a1, a2, a3, ())
noncomputable abbrev lh_impl_Sign_isTerm_122 : LoopH := { key := 244, ht := [2, 5, 11, 12, 13], hτ := (fs [(.box (.agg (fs [(.sl (.int .i64))]))), (.int .i64), (.sl (.int .i64)), (.int .i64), (.int .i64)]), ex := 0, ot := [5], oτ := (fs [(.int .i64)]) }
noncomputable def cd_impl_Sign_isTerm_122 : Code := Code.part (bodyOf 76) [1, 1, 1, 0, 1, 0, 0]
noncomputable def l_impl_Sign_isTerm_122 (O : Oracle E1) (a0 : (List Int) × Unit) (a1 : Int) (a2 : List Int) (a3 : Int) (a4 : Int) : Option ((Int × Unit) ⊕ ((Bool × Unit) × (Unit))) := O.L 76 lh_impl_Sign_isTerm_122 cd_impl_Sign_isTerm_122 (a0, a1, a2, a3, a4, ())
theorem k0l_impl_Sign_isTerm_122 (a0 : (List Int) × Unit) (a1 : Int) (a2 : List Int) (a3 : Int) (a4 : Int) : Ct E1 (fun O => l_impl_Sign_isTerm_122 O a0 a1 a2 a3 a4) := by unfold l_impl_Sign_isTerm_122; exact Ct.L (E := E1) 76 lh_impl_Sign_isTerm_122 cd_impl_Sign_isTerm_122 (a0, a1, a2, a3, a4, ())
noncomputable abbrev lh_impl_Sign_text_506 : LoopH := { key := 1012, ht := [1, 2, 4, 10, 11, 39, 40], hτ := (fs [(.own (.int .u8)), (.sl (.int .i64)), (.box (.agg (fs [(.sl (.int .i64))]))), (.int .i64), (.int .i64), (.int .i64), (.int .i64)]), ex := 0, ot := [1, 4, 10, 11], oτ := (fs [(.own (.int .u8)), (.box (.agg (fs [(.sl (.int .i64))]))), (.int .i64), (.int .i64)]) }
noncomputable def cd_impl_Sign_text_506 : Code := Code.part (bodyOf 123) [1, 1, 1, 1, 1, 0, 1, 0, 0]
noncomputable def l_impl_Sign_text_506 (O : Oracle E1) (a0 : List Int) (a1 : List Int) (a2 : (List Int) × Unit) (a3 : Int) (a4 : Int) (a5 : Int) (a6 : Int) : Option (((List Int) × ((List Int) × Unit) × Int × Int × Unit) ⊕ (((List Int) × Int × Unit) × (Unit))) := O.L 123 lh_impl_Sign_text_506 cd_impl_Sign_text_506 (a0, a1, a2, a3, a4, a5, a6, ())
theorem k0l_impl_Sign_text_506 (a0 : List Int) (a1 : List Int) (a2 : (List Int) × Unit) (a3 : Int) (a4 : Int) (a5 : Int) (a6 : Int) : Ct E1 (fun O => l_impl_Sign_text_506 O a0 a1 a2 a3 a4 a5 a6) := by unfold l_impl_Sign_text_506; exact Ct.L (E := E1) 123 lh_impl_Sign_text_506 cd_impl_Sign_text_506 (a0, a1, a2, a3, a4, a5, a6, ())
noncomputable abbrev lh_spec_l1All_26 : LoopH := { key := 52, ht := [1, 2, 9, 10, 11], hτ := (fs [(.int .i64), (.int .i64), (.sl (.int .i64)), (.int .i64), (.int .i64)]), ex := 0, ot := [], oτ := (fs []) }
noncomputable def cd_spec_l1All_26 : Code := Code.part (bodyOf 131) [1, 0, 1, 0, 0]
noncomputable def l_spec_l1All_26 (O : Oracle E1) (a0 : Int) (a1 : Int) (a2 : List Int) (a3 : Int) (a4 : Int) : Option ((Unit) ⊕ ((Bool × Unit) × (Unit))) := O.L 131 lh_spec_l1All_26 cd_spec_l1All_26 (a0, a1, a2, a3, a4, ())
theorem k0l_spec_l1All_26 (a0 : Int) (a1 : Int) (a2 : List Int) (a3 : Int) (a4 : Int) : Ct E1 (fun O => l_spec_l1All_26 O a0 a1 a2 a3 a4) := by unfold l_spec_l1All_26; exact Ct.L (E := E1) 131 lh_spec_l1All_26 cd_spec_l1All_26 (a0, a1, a2, a3, a4, ())
noncomputable abbrev lh_spec_l1End_28 : LoopH := { key := 56, ht := [1, 2, 3, 7], hτ := (fs [(.sl (.int .i64)), (.int .i64), (.box (.agg (fs [(.sl (.int .i64))]))), (.int .i64)]), ex := 0, ot := [2], oτ := (fs [(.int .i64)]) }
noncomputable def cd_spec_l1End_28 : Code := Code.part (bodyOf 132) [1, 1, 0, 0, 0]
noncomputable def l_spec_l1End_28 (O : Oracle E1) (a0 : List Int) (a1 : Int) (a2 : (List Int) × Unit) (a3 : Int) : Option ((Int × Unit) ⊕ ((Int × Unit) × (Unit))) := O.L 132 lh_spec_l1End_28 cd_spec_l1End_28 (a0, a1, a2, a3, ())
theorem k0l_spec_l1End_28 (a0 : List Int) (a1 : Int) (a2 : (List Int) × Unit) (a3 : Int) : Ct E1 (fun O => l_spec_l1End_28 O a0 a1 a2 a3) := by unfold l_spec_l1End_28; exact Ct.L (E := E1) 132 lh_spec_l1End_28 cd_spec_l1End_28 (a0, a1, a2, a3, ())
noncomputable abbrev lh_spec_l1Args_250 : LoopH := { key := 500, ht := [1, 3, 7, 8, 9], hτ := (fs [(.sl (.int .i64)), (.box (.agg (fs [(.sl (.int .i64))]))), (.own (.int .i64)), (.int .i64), (.int .i64)]), ex := 0, ot := [7], oτ := (fs [(.own (.int .i64))]) }
noncomputable def cd_spec_l1Args_250 : Code := Code.part (bodyOf 124) [1, 1, 1, 1, 0, 1, 0, 0]
noncomputable def l_spec_l1Args_250 (O : Oracle E1) (a0 : List Int) (a1 : (List Int) × Unit) (a2 : List Int) (a3 : Int) (a4 : Int) : Option (((List Int) × Unit) ⊕ (((List Int) × Unit) × (Unit))) := O.L 124 lh_spec_l1Args_250 cd_spec_l1Args_250 (a0, a1, a2, a3, a4, ())
theorem k0l_spec_l1Args_250 (a0 : List Int) (a1 : (List Int) × Unit) (a2 : List Int) (a3 : Int) (a4 : Int) : Ct E1 (fun O => l_spec_l1Args_250 O a0 a1 a2 a3 a4) := by unfold l_spec_l1Args_250; exact Ct.L (E := E1) 124 lh_spec_l1Args_250 cd_spec_l1Args_250 (a0, a1, a2, a3, a4, ())
noncomputable abbrev lh_spec_l1TermText_122 : LoopH := { key := 244, ht := [1, 2, 3, 7, 35, 36, 37], hτ := (fs [(.sl (.int .i64)), (.int .i64), (.box (.agg (fs [(.sl (.int .i64))]))), .str, (.own (.int .i64)), (.int .i64), (.int .i64)]), ex := 0, ot := [1, 2, 3, 7], oτ := (fs [(.sl (.int .i64)), (.int .i64), (.box (.agg (fs [(.sl (.int .i64))]))), .str]) }
noncomputable def cd_spec_l1TermText_122 : Code := Code.part (bodyOf 63) [1, 1, 1, 0, 1, 0, 0]
noncomputable def l_spec_l1TermText_122 (O : Oracle E1) (a0 : List Int) (a1 : Int) (a2 : (List Int) × Unit) (a3 : List UInt8) (a4 : List Int) (a5 : Int) (a6 : Int) : Option (((List Int) × Int × ((List Int) × Unit) × (List UInt8) × Unit) ⊕ (((List UInt8) × Unit) × (Unit))) := O.L 63 lh_spec_l1TermText_122 cd_spec_l1TermText_122 (a0, a1, a2, a3, a4, a5, a6, ())
theorem k0l_spec_l1TermText_122 (a0 : List Int) (a1 : Int) (a2 : (List Int) × Unit) (a3 : List UInt8) (a4 : List Int) (a5 : Int) (a6 : Int) : Ct E1 (fun O => l_spec_l1TermText_122 O a0 a1 a2 a3 a4 a5 a6) := by unfold l_spec_l1TermText_122; exact Ct.L (E := E1) 63 lh_spec_l1TermText_122 cd_spec_l1TermText_122 (a0, a1, a2, a3, a4, a5, a6, ())
noncomputable abbrev lh_impl_parser_take_58 : LoopH := { key := 116, ht := [0, 1, 5, 10, 11], hτ := (fs [(.box (.agg (fs [(.sl (.int .i64)), .str, (.int .i64), (.int .i64), .bool]))), .str, (.int .u8), (.int .i64), (.int .i64)]), ex := 0, ot := [0], oτ := (fs [(.box (.agg (fs [(.sl (.int .i64)), .str, (.int .i64), (.int .i64), .bool])))]) }
noncomputable def cd_impl_parser_take_58 : Code := Code.part (bodyOf 128) [1, 1, 0, 1, 0, 0]
noncomputable def l_impl_parser_take_58 (O : Oracle E1) (a0 : (List Int) × (List UInt8) × Int × Int × Bool × Unit) (a1 : List UInt8) (a2 : Int) (a3 : Int) (a4 : Int) : Option ((((List Int) × (List UInt8) × Int × Int × Bool × Unit) × Unit) ⊕ ((Int × Unit) × ((((List Int) × Unit) × (List UInt8) × Int × Int × Bool × Unit) × Unit))) := O.L 128 lh_impl_parser_take_58 cd_impl_parser_take_58 (a0, a1, a2, a3, a4, ())
theorem k0l_impl_parser_take_58 (a0 : (List Int) × (List UInt8) × Int × Int × Bool × Unit) (a1 : List UInt8) (a2 : Int) (a3 : Int) (a4 : Int) : Ct E1 (fun O => l_impl_parser_take_58 O a0 a1 a2 a3 a4) := by unfold l_impl_parser_take_58; exact Ct.L (E := E1) 128 lh_impl_parser_take_58 cd_impl_parser_take_58 (a0, a1, a2, a3, a4, ())
noncomputable abbrev lh_impl_parser_term_1018 : LoopH := { key := 2036, ht := [0, 4, 5, 71, 72], hτ := (fs [(.box (.agg (fs [(.sl (.int .i64)), .str, (.int .i64), (.int .i64), .bool]))), (.int .i64), (.own (.int .i64)), (.int .i64), (.int .i64)]), ex := 1, ot := [0, 4, 5], oτ := (fs [(.box (.agg (fs [(.sl (.int .i64)), .str, (.int .i64), (.int .i64), .bool]))), (.int .i64), (.own (.int .i64))]) }
noncomputable def cd_impl_parser_term_1018 : Code := Code.part (bodyOf 65) [1, 1, 1, 1, 1, 1, 0, 1, 0, 0]
noncomputable def l_impl_parser_term_1018 (O : Oracle E1) (a0 : (List Int) × (List UInt8) × Int × Int × Bool × Unit) (a1 : Int) (a2 : List Int) (a3 : Int) (a4 : Int) : Option ((((List Int) × (List UInt8) × Int × Int × Bool × Unit) × Int × (List Int) × Unit) ⊕ (((List Int) × Unit) × ((((List Int) × Unit) × (List UInt8) × Int × Int × Bool × Unit) × Unit))) := O.L 65 lh_impl_parser_term_1018 cd_impl_parser_term_1018 (a0, a1, a2, a3, a4, ())
theorem k0l_impl_parser_term_1018 (a0 : (List Int) × (List UInt8) × Int × Int × Bool × Unit) (a1 : Int) (a2 : List Int) (a3 : Int) (a4 : Int) : Ct E1 (fun O => l_impl_parser_term_1018 O a0 a1 a2 a3 a4) := by unfold l_impl_parser_term_1018; exact Ct.L (E := E1) 65 lh_impl_parser_term_1018 cd_impl_parser_term_1018 (a0, a1, a2, a3, a4, ())
noncomputable abbrev lh_laws_sameInts_58 : LoopH := { key := 116, ht := [0, 1, 12, 13], hτ := (fs [(.sl (.int .i64)), (.sl (.int .i64)), (.int .i64), (.int .i64)]), ex := 0, ot := [], oτ := (fs []) }
noncomputable def cd_laws_sameInts_58 : Code := Code.part (bodyOf 42) [1, 1, 0, 1, 0, 0]
noncomputable def l_laws_sameInts_58 (O : Oracle E1) (a0 : List Int) (a1 : List Int) (a2 : Int) (a3 : Int) : Option ((Unit) ⊕ ((Bool × Unit) × (Unit))) := O.L 42 lh_laws_sameInts_58 cd_laws_sameInts_58 (a0, a1, a2, a3, ())
theorem k0l_laws_sameInts_58 (a0 : List Int) (a1 : List Int) (a2 : Int) (a3 : Int) : Ct E1 (fun O => l_laws_sameInts_58 O a0 a1 a2 a3) := by unfold l_laws_sameInts_58; exact Ct.L (E := E1) 42 lh_laws_sameInts_58 cd_laws_sameInts_58 (a0, a1, a2, a3, ())
noncomputable abbrev lh_spec_l1Cur_spoilt_26 : LoopH := { key := 52, ht := [0, 1, 2, 7], hτ := (fs [(.box (.agg (fs [(.sl (.int .u8)), (.int .i64), (.int .u64)]))), .str, .str, (.int .i64)]), ex := 0, ot := [0, 1], oτ := (fs [(.box (.agg (fs [(.sl (.int .u8)), (.int .i64), (.int .u64)]))), .str]) }
noncomputable def cd_spec_l1Cur_spoilt_26 : Code := Code.part (bodyOf 70) [1, 0, 1, 0, 0]
noncomputable def l_spec_l1Cur_spoilt_26 (O : Oracle E1) (a0 : (List Int) × Int × Int × Unit) (a1 : List UInt8) (a2 : List UInt8) (a3 : Int) : Option ((((List Int) × Int × Int × Unit) × (List UInt8) × Unit) ⊕ (((List UInt8) × Unit) × (((List Int) × Int × Int × Unit) × Unit))) := O.L 70 lh_spec_l1Cur_spoilt_26 cd_spec_l1Cur_spoilt_26 (a0, a1, a2, a3, ())
theorem k0l_spec_l1Cur_spoilt_26 (a0 : (List Int) × Int × Int × Unit) (a1 : List UInt8) (a2 : List UInt8) (a3 : Int) : Ct E1 (fun O => l_spec_l1Cur_spoilt_26 O a0 a1 a2 a3) := by unfold l_spec_l1Cur_spoilt_26; exact Ct.L (E := E1) 70 lh_spec_l1Cur_spoilt_26 cd_spec_l1Cur_spoilt_26 (a0, a1, a2, a3, ())
noncomputable abbrev lh_spec_l1ReadTerm_2042 : LoopH := { key := 4084, ht := [1, 2, 3, 9, 10, 11], hτ := (fs [.str, (.int .i64), (.box (.agg (fs [(.sl (.int .i64))]))), (.int .i64), (.own (.int .i64)), (.int .i64)]), ex := 0, ot := [1, 2, 3, 9, 10], oτ := (fs [.str, (.int .i64), (.box (.agg (fs [(.sl (.int .i64))]))), (.int .i64), (.own (.int .i64))]) }
noncomputable def cd_spec_l1ReadTerm_2042 : Code := Code.part (bodyOf 72) [1, 1, 1, 1, 1, 1, 1, 0, 1, 0, 0]
noncomputable def l_spec_l1ReadTerm_2042 (O : Oracle E1) (a0 : List UInt8) (a1 : Int) (a2 : (List Int) × Unit) (a3 : Int) (a4 : List Int) (a5 : Int) : Option (((List UInt8) × Int × ((List Int) × Unit) × Int × (List Int) × Unit) ⊕ (((List Int) × Int × Bool × Unit) × (Unit))) := O.L 72 lh_spec_l1ReadTerm_2042 cd_spec_l1ReadTerm_2042 (a0, a1, a2, a3, a4, a5, ())
theorem k0l_spec_l1ReadTerm_2042 (a0 : List UInt8) (a1 : Int) (a2 : (List Int) × Unit) (a3 : Int) (a4 : List Int) (a5 : Int) : Ct E1 (fun O => l_spec_l1ReadTerm_2042 O a0 a1 a2 a3 a4 a5) := by unfold l_spec_l1ReadTerm_2042; exact Ct.L (E := E1) 72 lh_spec_l1ReadTerm_2042 cd_spec_l1ReadTerm_2042 (a0, a1, a2, a3, a4, a5, ())
noncomputable abbrev lh_impl_shift_58 : LoopH := { key := 116, ht := [1, 5, 11, 12], hτ := (fs [(.int .i64), (.own (.int .i64)), (.int .i64), (.int .i64)]), ex := 0, ot := [5], oτ := (fs [(.own (.int .i64))]), hal := [(10, 5)] }
noncomputable def cd_impl_shift_58 : Code := Code.part (bodyOf 75) [1, 1, 0, 1, 0, 0]
noncomputable def l_impl_shift_58 (O : Oracle E1) (a0 : Int) (a1 : List Int) (a2 : Int) (a3 : Int) : Option (((List Int) × Unit) ⊕ (((List Int) × Unit) × (Unit))) := O.L 75 lh_impl_shift_58 cd_impl_shift_58 (a0, a1, a2, a3, ())
theorem k0l_impl_shift_58 (a0 : Int) (a1 : List Int) (a2 : Int) (a3 : Int) : Ct E1 (fun O => l_impl_shift_58 O a0 a1 a2 a3) := by unfold l_impl_shift_58; exact Ct.L (E := E1) 75 lh_impl_shift_58 cd_impl_shift_58 (a0, a1, a2, a3, ())
noncomputable abbrev lh_spec_l1Shift_58 : LoopH := { key := 116, ht := [1, 5, 11, 12], hτ := (fs [(.int .i64), (.own (.int .i64)), (.int .i64), (.int .i64)]), ex := 0, ot := [5], oτ := (fs [(.own (.int .i64))]), hal := [(10, 5)] }
noncomputable def cd_spec_l1Shift_58 : Code := Code.part (bodyOf 78) [1, 1, 0, 1, 0, 0]
noncomputable def l_spec_l1Shift_58 (O : Oracle E1) (a0 : Int) (a1 : List Int) (a2 : Int) (a3 : Int) : Option (((List Int) × Unit) ⊕ (((List Int) × Unit) × (Unit))) := O.L 78 lh_spec_l1Shift_58 cd_spec_l1Shift_58 (a0, a1, a2, a3, ())
theorem k0l_spec_l1Shift_58 (a0 : Int) (a1 : List Int) (a2 : Int) (a3 : Int) : Ct E1 (fun O => l_spec_l1Shift_58 O a0 a1 a2 a3) := by unfold l_spec_l1Shift_58; exact Ct.L (E := E1) 78 lh_spec_l1Shift_58 cd_spec_l1Shift_58 (a0, a1, a2, a3, ())
noncomputable abbrev lh_slices_Equal_int_int_58 : LoopH := { key := 116, ht := [0, 1, 12, 13], hτ := (fs [(.sl (.int .i64)), (.sl (.int .i64)), (.int .i64), (.int .i64)]), ex := 0, ot := [], oτ := (fs []) }
noncomputable def cd_slices_Equal_int_int_58 : Code := Code.part (bodyOf 79) [1, 1, 0, 1, 0, 0]
noncomputable def l_slices_Equal_int_int_58 (O : Oracle E1) (a0 : List Int) (a1 : List Int) (a2 : Int) (a3 : Int) : Option ((Unit) ⊕ ((Bool × Unit) × (Unit))) := O.L 79 lh_slices_Equal_int_int_58 cd_slices_Equal_int_int_58 (a0, a1, a2, a3, ())
theorem k0l_slices_Equal_int_int_58 (a0 : List Int) (a1 : List Int) (a2 : Int) (a3 : Int) : Ct E1 (fun O => l_slices_Equal_int_int_58 O a0 a1 a2 a3) := by unfold l_slices_Equal_int_int_58; exact Ct.L (E := E1) 79 lh_slices_Equal_int_int_58 cd_slices_Equal_int_int_58 (a0, a1, a2, a3, ())
noncomputable abbrev lh_impl_rename_122 : LoopH := { key := 244, ht := [3, 4, 15, 16, 17], hτ := (fs [(.map (.int .i64)), (.own (.own (.int .i64))), (.sl (.sl (.int .i64))), (.int .i64), (.int .i64)]), ex := 0, ot := [4], oτ := (fs [(.own (.own (.int .i64)))]) }
noncomputable def cd_impl_rename_122 : Code := Code.part (bodyOf 80) [1, 1, 1, 0, 1, 0, 0]
noncomputable def l_impl_rename_122 (O : Oracle E1) (a0 : List (Int × Int)) (a1 : List (List Int)) (a2 : List (List Int)) (a3 : Int) (a4 : Int) : Option (((List (List Int)) × Unit) ⊕ (((List (List Int)) × Unit) × (Unit))) := O.L 80 lh_impl_rename_122 cd_impl_rename_122 (a0, a1, a2, a3, a4, ())
theorem k0l_impl_rename_122 (a0 : List (Int × Int)) (a1 : List (List Int)) (a2 : List (List Int)) (a3 : Int) (a4 : Int) : Ct E1 (fun O => l_impl_rename_122 O a0 a1 a2 a3 a4) := by unfold l_impl_rename_122; exact Ct.L (E := E1) 80 lh_impl_rename_122 cd_impl_rename_122 (a0, a1, a2, a3, a4, ())
noncomputable abbrev lh_impl_rename_62670 : LoopH := { key := 125340, ht := [3, 4, 5, 15, 16, 17, 27, 28, 29], hτ := (fs [(.map (.int .i64)), (.own (.own (.int .i64))), (.int .i64), (.sl (.sl (.int .i64))), (.int .i64), (.int .i64), (.sl (.int .i64)), (.int .i64), (.int .i64)]), ex := 2, ot := [3, 4, 15, 16, 17], oτ := (fs [(.map (.int .i64)), (.own (.own (.int .i64))), (.sl (.sl (.int .i64))), (.int .i64), (.int .i64)]) }
noncomputable def cd_impl_rename_62670 : Code := Code.part (bodyOf 80) [1, 1, 1, 0, 1, 0, 0, 1, 1, 0, 0, 1, 1, 1, 0, 0]
noncomputable def l_impl_rename_62670 (O : Oracle E1) (a0 : List (Int × Int)) (a1 : List (List Int)) (a2 : Int) (a3 : List (List Int)) (a4 : Int) (a5 : Int) (a6 : List Int) (a7 : Int) (a8 : Int) : Option (((List (Int × Int)) × (List (List Int)) × (List (List Int)) × Int × Int × Unit) ⊕ (((List (List Int)) × Unit) × (Unit))) := O.L 80 lh_impl_rename_62670 cd_impl_rename_62670 (a0, a1, a2, a3, a4, a5, a6, a7, a8, ())
theorem k0l_impl_rename_62670 (a0 : List (Int × Int)) (a1 : List (List Int)) (a2 : Int) (a3 : List (List Int)) (a4 : Int) (a5 : Int) (a6 : List Int) (a7 : Int) (a8 : Int) : Ct E1 (fun O => l_impl_rename_62670 O a0 a1 a2 a3 a4 a5 a6 a7 a8) := by unfold l_impl_rename_62670; exact Ct.L (E := E1) 80 lh_impl_rename_62670 cd_impl_rename_62670 (a0, a1, a2, a3, a4, a5, a6, a7, a8, ())
end Go.Proofs.YtkdceefdipljaaaTt.Ev
