/- The functions' names, at every oracle: printed by sym.py; no condition. -/
import Derived.Test.YtejklhcalinhpaaViEnv
import Derived.Test.YtejklhcalinhpaaViEvLm
namespace Go.Proofs.YtejklhcalinhpaaVi.Ev
open Go
set_option maxRecDepth 100000
set_option autoImplicit false
set_option linter.unusedVariables false

noncomputable abbrev M : Oracle E1 := Lm E1
noncomputable def c_laws_big (O : Oracle E1) (a0 : List Int) (a1 : List Int) : Option ((Bool × Unit) × (Unit)) := O.C 32 (a0, a1, ())
theorem k0_laws_big (a0 : List Int) (a1 : List Int) : Ct E1 (fun O => c_laws_big O a0 a1) := by unfold c_laws_big; exact Ct.C (E := E1) 32 (a0, a1, ())
noncomputable def c_spec_l1Cur_next (O : Oracle E1) (a0 : (List Int) × Int × Int × Unit) : Option ((Int × Unit) × (((List Int) × Int × Int × Unit) × Unit)) := O.C 111 (a0, ())
theorem k0_spec_l1Cur_next (a0 : (List Int) × Int × Int × Unit) : Ct E1 (fun O => c_spec_l1Cur_next O a0) := by unfold c_spec_l1Cur_next; exact Ct.C (E := E1) 111 (a0, ())
noncomputable def c_spec_l1Cur_pick (O : Oracle E1) (a0 : (List Int) × Int × Int × Unit) (a1 : Int) : Option ((Int × Unit) × (((List Int) × Int × Int × Unit) × Unit)) := O.C 89 (a0, a1, ())
theorem k0_spec_l1Cur_pick (a0 : (List Int) × Int × Int × Unit) (a1 : Int) : Ct E1 (fun O => c_spec_l1Cur_pick O a0 a1) := by unfold c_spec_l1Cur_pick; exact Ct.C (E := E1) 89 (a0, a1, ())
noncomputable def c_spec_l1Cur_among (O : Oracle E1) (a0 : (List Int) × Int × Int × Unit) (a1 : List Int) : Option ((Int × Unit) × (((List Int) × Int × Int × Unit) × Unit)) := O.C 110 (a0, a1, ())
theorem k0_spec_l1Cur_among (a0 : (List Int) × Int × Int × Unit) (a1 : List Int) : Ct E1 (fun O => c_spec_l1Cur_among O a0 a1) := by unfold c_spec_l1Cur_among; exact Ct.C (E := E1) 110 (a0, a1, ())
noncomputable def c_spec_l1Cur_number (O : Oracle E1) (a0 : (List Int) × Int × Int × Unit) : Option ((Int × Unit) × (((List Int) × Int × Int × Unit) × Unit)) := O.C 81 (a0, ())
theorem k0_spec_l1Cur_number (a0 : (List Int) × Int × Int × Unit) : Ct E1 (fun O => c_spec_l1Cur_number O a0) := by unfold c_spec_l1Cur_number; exact Ct.C (E := E1) 81 (a0, ())
noncomputable def c_spec_DrawVarintOf (O : Oracle E1) (a0 : List Int) : Option ((Int × Unit) × (Unit)) := O.C 33 (a0, ())
theorem k0_spec_DrawVarintOf (a0 : List Int) : Ct E1 (fun O => c_spec_DrawVarintOf O a0) := by unfold c_spec_DrawVarintOf; exact Ct.C (E := E1) 33 (a0, ())
noncomputable def c_impl_isNumber (O : Oracle E1) (a0 : Int) : Option ((Bool × Unit) × (Unit)) := O.C 82 (a0, ())
theorem k0_impl_isNumber (a0 : Int) : Ct E1 (fun O => c_impl_isNumber O a0) := by unfold c_impl_isNumber; exact Ct.C (E := E1) 82 (a0, ())
noncomputable def c_impl_putVarint (O : Oracle E1) (a0 : List Int) (a1 : Int) : Option (((List Int) × Unit) × (Unit)) := O.C 83 (a0, a1, ())
theorem k0_impl_putVarint (a0 : List Int) (a1 : Int) : Ct E1 (fun O => c_impl_putVarint O a0 a1) := by unfold c_impl_putVarint; exact Ct.C (E := E1) 83 (a0, a1, ())
noncomputable def c_impl_VarintOf (O : Oracle E1) (a0 : Int) : Option (((List UInt8) × Bool × Unit) × (Unit)) := O.C 34 (a0, ())
theorem k0_impl_VarintOf (a0 : Int) : Ct E1 (fun O => c_impl_VarintOf O a0) := by unfold c_impl_VarintOf; exact Ct.C (E := E1) 34 (a0, ())
noncomputable def c_spec_l1In (O : Oracle E1) (a0 : Int) (a1 : Int) (a2 : Int) : Option ((Bool × Unit) × (Unit)) := O.C 57 (a0, a1, a2, ())
theorem k0_spec_l1In (a0 : Int) (a1 : Int) (a2 : Int) : Ct E1 (fun O => c_spec_l1In O a0 a1 a2) := by unfold c_spec_l1In; exact Ct.C (E := E1) 57 (a0, a1, a2, ())
noncomputable def c_spec_l10Varint (O : Oracle E1) (a0 : Int) : Option (((List UInt8) × Unit) × (Unit)) := O.C 84 (a0, ())
theorem k0_spec_l10Varint (a0 : Int) : Ct E1 (fun O => c_spec_l10Varint O a0) := by unfold c_spec_l10Varint; exact Ct.C (E := E1) 84 (a0, ())
noncomputable def c_spec_VarintOf (O : Oracle E1) (a0 : Int) : Option (((List UInt8) × Bool × Unit) × (Unit)) := O.C 35 (a0, ())
theorem k0_spec_VarintOf (a0 : Int) : Ct E1 (fun O => c_spec_VarintOf O a0) := by unfold c_spec_VarintOf; exact Ct.C (E := E1) 35 (a0, ())
noncomputable def c_impl_ZigOf (O : Oracle E1) (a0 : Int) : Option ((Int × Bool × Unit) × (Unit)) := O.C 36 (a0, ())
theorem k0_impl_ZigOf (a0 : Int) : Ct E1 (fun O => c_impl_ZigOf O a0) := by unfold c_impl_ZigOf; exact Ct.C (E := E1) 36 (a0, ())
noncomputable def c_spec_l10Zig (O : Oracle E1) (a0 : Int) : Option ((Int × Unit) × (Unit)) := O.C 85 (a0, ())
theorem k0_spec_l10Zig (a0 : Int) : Ct E1 (fun O => c_spec_l10Zig O a0) := by unfold c_spec_l10Zig; exact Ct.C (E := E1) 85 (a0, ())
noncomputable def c_spec_ZigOf (O : Oracle E1) (a0 : Int) : Option ((Int × Bool × Unit) × (Unit)) := O.C 37 (a0, ())
theorem k0_spec_ZigOf (a0 : Int) : Ct E1 (fun O => c_spec_ZigOf O a0) := by unfold c_spec_ZigOf; exact Ct.C (E := E1) 37 (a0, ())
noncomputable def c_impl_ReadVarint (O : Oracle E1) (a0 : List UInt8) (a1 : Int) : Option ((Int × Int × Bool × Unit) × (Unit)) := O.C 38 (a0, a1, ())
theorem k0_impl_ReadVarint (a0 : List UInt8) (a1 : Int) : Ct E1 (fun O => c_impl_ReadVarint O a0 a1) := by unfold c_impl_ReadVarint; exact Ct.C (E := E1) 38 (a0, a1, ())
noncomputable def c_impl_UnZig (O : Oracle E1) (a0 : Int) : Option ((Int × Bool × Unit) × (Unit)) := O.C 39 (a0, ())
theorem k0_impl_UnZig (a0 : Int) : Ct E1 (fun O => c_impl_UnZig O a0) := by unfold c_impl_UnZig; exact Ct.C (E := E1) 39 (a0, ())
noncomputable def c_spec_l1Cur_one (O : Oracle E1) (a0 : (List Int) × Int × Int × Unit) (a1 : Int) : Option ((Bool × Unit) × (((List Int) × Int × Int × Unit) × Unit)) := O.C 90 (a0, a1, ())
theorem k0_spec_l1Cur_one (a0 : (List Int) × Int × Int × Unit) (a1 : Int) : Ct E1 (fun O => c_spec_l1Cur_one O a0 a1) := by unfold c_spec_l1Cur_one; exact Ct.C (E := E1) 90 (a0, a1, ())
noncomputable def c_spec_l1Cur_list (O : Oracle E1) (a0 : (List Int) × Int × Int × Unit) : Option (((List Int) × Unit) × (((List Int) × Int × Int × Unit) × Unit)) := O.C 86 (a0, ())
theorem k0_spec_l1Cur_list (a0 : (List Int) × Int × Int × Unit) : Ct E1 (fun O => c_spec_l1Cur_list O a0) := by unfold c_spec_l1Cur_list; exact Ct.C (E := E1) 86 (a0, ())
noncomputable def c_spec_DrawListBytes (O : Oracle E1) (a0 : List Int) : Option (((List Int) × Unit) × (Unit)) := O.C 40 (a0, ())
theorem k0_spec_DrawListBytes (a0 : List Int) : Ct E1 (fun O => c_spec_DrawListBytes O a0) := by unfold c_spec_DrawListBytes; exact Ct.C (E := E1) 40 (a0, ())
noncomputable def c_impl_ListBytes (O : Oracle E1) (a0 : List Int) : Option (((List UInt8) × Bool × Unit) × (Unit)) := O.C 41 (a0, ())
theorem k0_impl_ListBytes (a0 : List Int) : Ct E1 (fun O => c_impl_ListBytes O a0) := by unfold c_impl_ListBytes; exact Ct.C (E := E1) 41 (a0, ())
noncomputable def c_spec_l10List (O : Oracle E1) (a0 : List Int) : Option (((List UInt8) × Unit) × (Unit)) := O.C 87 (a0, ())
theorem k0_spec_l10List (a0 : List Int) : Ct E1 (fun O => c_spec_l10List O a0) := by unfold c_spec_l10List; exact Ct.C (E := E1) 87 (a0, ())
noncomputable def c_spec_ListBytes (O : Oracle E1) (a0 : List Int) : Option (((List UInt8) × Bool × Unit) × (Unit)) := O.C 42 (a0, ())
theorem k0_spec_ListBytes (a0 : List Int) : Ct E1 (fun O => c_spec_ListBytes O a0) := by unfold c_spec_ListBytes; exact Ct.C (E := E1) 42 (a0, ())
noncomputable def c_impl_ReadList (O : Oracle E1) (a0 : List UInt8) (a1 : Int) : Option (((List Int) × Int × Bool × Unit) × (Unit)) := O.C 43 (a0, a1, ())
theorem k0_impl_ReadList (a0 : List UInt8) (a1 : Int) : Ct E1 (fun O => c_impl_ReadList O a0 a1) := by unfold c_impl_ReadList; exact Ct.C (E := E1) 43 (a0, a1, ())
noncomputable def c_laws_sameInts (O : Oracle E1) (a0 : List Int) (a1 : List Int) : Option ((Bool × Unit) × (Unit)) := O.C 44 (a0, a1, ())
theorem k0_laws_sameInts (a0 : List Int) (a1 : List Int) : Ct E1 (fun O => c_laws_sameInts O a0 a1) := by unfold c_laws_sameInts; exact Ct.C (E := E1) 44 (a0, a1, ())
noncomputable def c_spec_l1Cur_bytes (O : Oracle E1) (a0 : (List Int) × Int × Int × Unit) : Option (((List UInt8) × Unit) × (((List Int) × Int × Int × Unit) × Unit)) := O.C 88 (a0, ())
theorem k0_spec_l1Cur_bytes (a0 : (List Int) × Int × Int × Unit) : Ct E1 (fun O => c_spec_l1Cur_bytes O a0) := by unfold c_spec_l1Cur_bytes; exact Ct.C (E := E1) 88 (a0, ())
noncomputable def c_spec_DrawReadVarint (O : Oracle E1) (a0 : List Int) : Option (((List UInt8) × Int × Unit) × (Unit)) := O.C 45 (a0, ())
theorem k0_spec_DrawReadVarint (a0 : List Int) : Ct E1 (fun O => c_spec_DrawReadVarint O a0) := by unfold c_spec_DrawReadVarint; exact Ct.C (E := E1) 45 (a0, ())
noncomputable def c_spec_l10Text (O : Oracle E1) (a0 : List UInt8) : Option ((Bool × Unit) × (Unit)) := O.C 91 (a0, ())
theorem k0_spec_l10Text (a0 : List UInt8) : Ct E1 (fun O => c_spec_l10Text O a0) := by unfold c_spec_l10Text; exact Ct.C (E := E1) 91 (a0, ())
noncomputable def c_spec_l10Read (O : Oracle E1) (a0 : List UInt8) (a1 : Int) : Option ((Int × Int × Bool × Unit) × (Unit)) := O.C 92 (a0, a1, ())
theorem k0_spec_l10Read (a0 : List UInt8) (a1 : Int) : Ct E1 (fun O => c_spec_l10Read O a0 a1) := by unfold c_spec_l10Read; exact Ct.C (E := E1) 92 (a0, a1, ())
noncomputable def c_spec_ReadVarint (O : Oracle E1) (a0 : List UInt8) (a1 : Int) : Option ((Int × Int × Bool × Unit) × (Unit)) := O.C 46 (a0, a1, ())
theorem k0_spec_ReadVarint (a0 : List UInt8) (a1 : Int) : Ct E1 (fun O => c_spec_ReadVarint O a0 a1) := by unfold c_spec_ReadVarint; exact Ct.C (E := E1) 46 (a0, a1, ())
noncomputable def c_spec_l1Cur_spoilt (O : Oracle E1) (a0 : (List Int) × Int × Int × Unit) (a1 : List UInt8) (a2 : List UInt8) : Option (((List UInt8) × Unit) × (((List Int) × Int × Int × Unit) × Unit)) := O.C 93 (a0, a1, a2, ())
theorem k0_spec_l1Cur_spoilt (a0 : (List Int) × Int × Int × Unit) (a1 : List UInt8) (a2 : List UInt8) : Ct E1 (fun O => c_spec_l1Cur_spoilt O a0 a1 a2) := by unfold c_spec_l1Cur_spoilt; exact Ct.C (E := E1) 93 (a0, a1, a2, ())
noncomputable def c_spec_DrawReadList (O : Oracle E1) (a0 : List Int) : Option (((List UInt8) × Int × Unit) × (Unit)) := O.C 47 (a0, ())
theorem k0_spec_DrawReadList (a0 : List Int) : Ct E1 (fun O => c_spec_DrawReadList O a0) := by unfold c_spec_DrawReadList; exact Ct.C (E := E1) 47 (a0, ())
noncomputable def c_spec_l10UnZig (O : Oracle E1) (a0 : Int) : Option ((Int × Unit) × (Unit)) := O.C 95 (a0, ())
theorem k0_spec_l10UnZig (a0 : Int) : Ct E1 (fun O => c_spec_l10UnZig O a0) := by unfold c_spec_l10UnZig; exact Ct.C (E := E1) 95 (a0, ())
noncomputable def c_spec_l10ReadList (O : Oracle E1) (a0 : List UInt8) (a1 : Int) : Option (((List Int) × Int × Bool × Unit) × (Unit)) := O.C 94 (a0, a1, ())
theorem k0_spec_l10ReadList (a0 : List UInt8) (a1 : Int) : Ct E1 (fun O => c_spec_l10ReadList O a0 a1) := by unfold c_spec_l10ReadList; exact Ct.C (E := E1) 94 (a0, a1, ())
noncomputable def c_spec_ReadList (O : Oracle E1) (a0 : List UInt8) (a1 : Int) : Option (((List Int) × Int × Bool × Unit) × (Unit)) := O.C 48 (a0, a1, ())
theorem k0_spec_ReadList (a0 : List UInt8) (a1 : Int) : Ct E1 (fun O => c_spec_ReadList O a0 a1) := by unfold c_spec_ReadList; exact Ct.C (E := E1) 48 (a0, a1, ())
noncomputable def c_spec_DrawUnZig (O : Oracle E1) (a0 : List Int) : Option ((Int × Unit) × (Unit)) := O.C 49 (a0, ())
theorem k0_spec_DrawUnZig (a0 : List Int) : Ct E1 (fun O => c_spec_DrawUnZig O a0) := by unfold c_spec_DrawUnZig; exact Ct.C (E := E1) 49 (a0, ())
noncomputable def c_spec_UnZig (O : Oracle E1) (a0 : Int) : Option ((Int × Bool × Unit) × (Unit)) := O.C 50 (a0, ())
theorem k0_spec_UnZig (a0 : Int) : Ct E1 (fun O => c_spec_UnZig O a0) := by unfold c_spec_UnZig; exact Ct.C (E := E1) 50 (a0, ())
noncomputable def c_laws_FnVarints (O : Oracle E1) (a0 : List Int) (a1 : List Int) : Option ((Bool × Unit) × (Unit)) := O.C 7 (a0, a1, ())
theorem k0_laws_FnVarints (a0 : List Int) (a1 : List Int) : Ct E1 (fun O => c_laws_FnVarints O a0 a1) := by unfold c_laws_FnVarints; exact Ct.C (E := E1) 7 (a0, a1, ())
noncomputable abbrev lh_impl_putVarint_12 : LoopH := { key := 24, ht := [0, 1], hτ := (fs [(.own (.int .u8)), (.int .i64)]), ex := 0, ot := [0, 1], oτ := (fs [(.own (.int .u8)), (.int .i64)]) }
noncomputable def cd_impl_putVarint_12 : Code := Code.part (bodyOf 83) [1, 0, 0, 0]
noncomputable def l_impl_putVarint_12 (O : Oracle E1) (a0 : List Int) (a1 : Int) : Option (((List Int) × Int × Unit) ⊕ (((List Int) × Unit) × (Unit))) := O.L 83 lh_impl_putVarint_12 cd_impl_putVarint_12 (a0, a1, ())
theorem k0l_impl_putVarint_12 (a0 : List Int) (a1 : Int) : Ct E1 (fun O => l_impl_putVarint_12 O a0 a1) := by unfold l_impl_putVarint_12; exact Ct.L (E := E1) 83 lh_impl_putVarint_12 cd_impl_putVarint_12 (a0, a1, ())
noncomputable abbrev lh_spec_l10Varint_28 : LoopH := { key := 56, ht := [0, 3], hτ := (fs [(.int .i64), .str]), ex := 0, ot := [0, 3], oτ := (fs [(.int .i64), .str]) }
noncomputable def cd_spec_l10Varint_28 : Code := Code.part (bodyOf 84) [1, 1, 0, 0, 0]
noncomputable def l_spec_l10Varint_28 (O : Oracle E1) (a0 : Int) (a1 : List UInt8) : Option ((Int × (List UInt8) × Unit) ⊕ (((List UInt8) × Unit) × (Unit))) := O.L 84 lh_spec_l10Varint_28 cd_spec_l10Varint_28 (a0, a1, ())
theorem k0l_spec_l10Varint_28 (a0 : Int) (a1 : List UInt8) : Ct E1 (fun O => l_spec_l10Varint_28 O a0 a1) := by unfold l_spec_l10Varint_28; exact Ct.L (E := E1) 84 lh_spec_l10Varint_28 cd_spec_l10Varint_28 (a0, a1, ())
noncomputable abbrev lh_impl_ReadVarint_122 : LoopH := { key := 244, ht := [0, 1, 7, 8], hτ := (fs [.str, (.int .i64), (.int .i64), (.int .i64)]), ex := 0, ot := [], oτ := (fs []) }
noncomputable def cd_impl_ReadVarint_122 : Code := Code.part (bodyOf 38) [1, 1, 1, 0, 1, 0, 0]
noncomputable def l_impl_ReadVarint_122 (O : Oracle E1) (a0 : List UInt8) (a1 : Int) (a2 : Int) (a3 : Int) : Option ((Unit) ⊕ ((Int × Int × Bool × Unit) × (Unit))) := O.L 38 lh_impl_ReadVarint_122 cd_impl_ReadVarint_122 (a0, a1, a2, a3, ())
theorem k0l_impl_ReadVarint_122 (a0 : List UInt8) (a1 : Int) (a2 : Int) (a3 : Int) : Ct E1 (fun O => l_impl_ReadVarint_122 O a0 a1 a2 a3) := by unfold l_impl_ReadVarint_122; exact Ct.L (E := E1) 38 lh_impl_ReadVarint_122 cd_impl_ReadVarint_122 (a0, a1, a2, a3, ())
noncomputable abbrev lh_spec_l1Cur_list_58 : LoopH := { key := 116, ht := [0, 3, 4], hτ := (fs [(.box (.agg (fs [(.sl (.int .u8)), (.int .i64), (.int .u64)]))), (.own (.int .i64)), (.int .i64)]), ex := 0, ot := [0, 3], oτ := (fs [(.box (.agg (fs [(.sl (.int .u8)), (.int .i64), (.int .u64)]))), (.own (.int .i64))]) }
noncomputable def cd_spec_l1Cur_list_58 : Code := Code.part (bodyOf 86) [1, 1, 0, 1, 0, 0]
noncomputable def l_spec_l1Cur_list_58 (O : Oracle E1) (a0 : (List Int) × Int × Int × Unit) (a1 : List Int) (a2 : Int) : Option ((((List Int) × Int × Int × Unit) × (List Int) × Unit) ⊕ (((List Int) × Unit) × (((List Int) × Int × Int × Unit) × Unit))) := O.L 86 lh_spec_l1Cur_list_58 cd_spec_l1Cur_list_58 (a0, a1, a2, ())
theorem k0l_spec_l1Cur_list_58 (a0 : (List Int) × Int × Int × Unit) (a1 : List Int) (a2 : Int) : Ct E1 (fun O => l_spec_l1Cur_list_58 O a0 a1 a2) := by unfold l_spec_l1Cur_list_58; exact Ct.L (E := E1) 86 lh_spec_l1Cur_list_58 cd_spec_l1Cur_list_58 (a0, a1, a2, ())
noncomputable abbrev lh_impl_ListBytes_250 : LoopH := { key := 500, ht := [4, 5, 16, 17, 18], hτ := (fs [(.own (.int .u8)), (.int .i64), (.sl (.int .i64)), (.int .i64), (.int .i64)]), ex := 0, ot := [4], oτ := (fs [(.own (.int .u8))]) }
noncomputable def cd_impl_ListBytes_250 : Code := Code.part (bodyOf 41) [1, 1, 1, 1, 0, 1, 0, 0]
noncomputable def l_impl_ListBytes_250 (O : Oracle E1) (a0 : List Int) (a1 : Int) (a2 : List Int) (a3 : Int) (a4 : Int) : Option (((List Int) × Unit) ⊕ (((List UInt8) × Bool × Unit) × (Unit))) := O.L 41 lh_impl_ListBytes_250 cd_impl_ListBytes_250 (a0, a1, a2, a3, a4, ())
theorem k0l_impl_ListBytes_250 (a0 : List Int) (a1 : Int) (a2 : List Int) (a3 : Int) (a4 : Int) : Ct E1 (fun O => l_impl_ListBytes_250 O a0 a1 a2 a3 a4) := by unfold l_impl_ListBytes_250; exact Ct.L (E := E1) 41 lh_impl_ListBytes_250 cd_impl_ListBytes_250 (a0, a1, a2, a3, a4, ())
noncomputable abbrev lh_spec_l10List_122 : LoopH := { key := 244, ht := [3, 4, 10, 11, 12], hτ := (fs [.str, (.int .i64), (.sl (.int .i64)), (.int .i64), (.int .i64)]), ex := 0, ot := [3], oτ := (fs [.str]) }
noncomputable def cd_spec_l10List_122 : Code := Code.part (bodyOf 87) [1, 1, 1, 0, 1, 0, 0]
noncomputable def l_spec_l10List_122 (O : Oracle E1) (a0 : List UInt8) (a1 : Int) (a2 : List Int) (a3 : Int) (a4 : Int) : Option (((List UInt8) × Unit) ⊕ (((List UInt8) × Unit) × (Unit))) := O.L 87 lh_spec_l10List_122 cd_spec_l10List_122 (a0, a1, a2, a3, a4, ())
theorem k0l_spec_l10List_122 (a0 : List UInt8) (a1 : Int) (a2 : List Int) (a3 : Int) (a4 : Int) : Ct E1 (fun O => l_spec_l10List_122 O a0 a1 a2 a3 a4) := by unfold l_spec_l10List_122; exact Ct.L (E := E1) 87 lh_spec_l10List_122 cd_spec_l10List_122 (a0, a1, a2, a3, a4, ())
noncomputable abbrev lh_spec_ListBytes_122 : LoopH := { key := 244, ht := [0, 4, 10, 11, 12], hτ := (fs [(.sl (.int .i64)), (.int .i64), (.sl (.int .i64)), (.int .i64), (.int .i64)]), ex := 0, ot := [0], oτ := (fs [(.sl (.int .i64))]) }
noncomputable def cd_spec_ListBytes_122 : Code := Code.part (bodyOf 42) [1, 1, 1, 0, 1, 0, 0]
noncomputable def l_spec_ListBytes_122 (O : Oracle E1) (a0 : List Int) (a1 : Int) (a2 : List Int) (a3 : Int) (a4 : Int) : Option (((List Int) × Unit) ⊕ (((List UInt8) × Bool × Unit) × (Unit))) := O.L 42 lh_spec_ListBytes_122 cd_spec_ListBytes_122 (a0, a1, a2, a3, a4, ())
theorem k0l_spec_ListBytes_122 (a0 : List Int) (a1 : Int) (a2 : List Int) (a3 : Int) (a4 : Int) : Ct E1 (fun O => l_spec_ListBytes_122 O a0 a1 a2 a3 a4) := by unfold l_spec_ListBytes_122; exact Ct.L (E := E1) 42 lh_spec_ListBytes_122 cd_spec_ListBytes_122 (a0, a1, a2, a3, a4, ())
noncomputable abbrev lh_impl_ReadList_506 : LoopH := { key := 1012, ht := [0, 1, 9, 10, 27, 28], hτ := (fs [.str, (.int .i64), (.own (.int .i64)), (.int .i64), (.int .i64), (.int .i64)]), ex := 0, ot := [1, 9], oτ := (fs [(.int .i64), (.own (.int .i64))]) }
noncomputable def cd_impl_ReadList_506 : Code := Code.part (bodyOf 43) [1, 1, 1, 1, 1, 0, 1, 0, 0]
noncomputable def l_impl_ReadList_506 (O : Oracle E1) (a0 : List UInt8) (a1 : Int) (a2 : List Int) (a3 : Int) (a4 : Int) (a5 : Int) : Option ((Int × (List Int) × Unit) ⊕ (((List Int) × Int × Bool × Unit) × (Unit))) := O.L 43 lh_impl_ReadList_506 cd_impl_ReadList_506 (a0, a1, a2, a3, a4, a5, ())
theorem k0l_impl_ReadList_506 (a0 : List UInt8) (a1 : Int) (a2 : List Int) (a3 : Int) (a4 : Int) (a5 : Int) : Ct E1 (fun O => l_impl_ReadList_506 O a0 a1 a2 a3 a4 a5) := by unfold l_impl_ReadList_506; exact Ct.L (E := E1) 43 lh_impl_ReadList_506 cd_impl_ReadList_506 (a0, a1, a2, a3, a4, a5, ())
noncomputable abbrev lh_laws_sameInts_58 : LoopH := { key := 116, ht := [0, 1, 12, 13], hτ := (fs [(.sl (.int .i64)), (.sl (.int .i64)), (.int .i64), (.int .i64)]), ex := 0, ot := [], oτ := (fs []) }
noncomputable def cd_laws_sameInts_58 : Code := Code.part (bodyOf 44) [1, 1, 0, 1, 0, 0]
noncomputable def l_laws_sameInts_58 (O : Oracle E1) (a0 : List Int) (a1 : List Int) (a2 : Int) (a3 : Int) : Option ((Unit) ⊕ ((Bool × Unit) × (Unit))) := O.L 44 lh_laws_sameInts_58 cd_laws_sameInts_58 (a0, a1, a2, a3, ())
theorem k0l_laws_sameInts_58 (a0 : List Int) (a1 : List Int) (a2 : Int) (a3 : Int) : Ct E1 (fun O => l_laws_sameInts_58 O a0 a1 a2 a3) := by unfold l_laws_sameInts_58; exact Ct.L (E := E1) 44 lh_laws_sameInts_58 cd_laws_sameInts_58 (a0, a1, a2, a3, ())
noncomputable abbrev lh_spec_l1Cur_bytes_58 : LoopH := { key := 116, ht := [0, 3, 4], hτ := (fs [(.box (.agg (fs [(.sl (.int .u8)), (.int .i64), (.int .u64)]))), (.own (.int .u8)), (.int .i64)]), ex := 0, ot := [0, 3], oτ := (fs [(.box (.agg (fs [(.sl (.int .u8)), (.int .i64), (.int .u64)]))), (.own (.int .u8))]) }
noncomputable def cd_spec_l1Cur_bytes_58 : Code := Code.part (bodyOf 88) [1, 1, 0, 1, 0, 0]
noncomputable def l_spec_l1Cur_bytes_58 (O : Oracle E1) (a0 : (List Int) × Int × Int × Unit) (a1 : List Int) (a2 : Int) : Option ((((List Int) × Int × Int × Unit) × (List Int) × Unit) ⊕ (((List UInt8) × Unit) × (((List Int) × Int × Int × Unit) × Unit))) := O.L 88 lh_spec_l1Cur_bytes_58 cd_spec_l1Cur_bytes_58 (a0, a1, a2, ())
theorem k0l_spec_l1Cur_bytes_58 (a0 : (List Int) × Int × Int × Unit) (a1 : List Int) (a2 : Int) : Ct E1 (fun O => l_spec_l1Cur_bytes_58 O a0 a1 a2) := by unfold l_spec_l1Cur_bytes_58; exact Ct.L (E := E1) 88 lh_spec_l1Cur_bytes_58 cd_spec_l1Cur_bytes_58 (a0, a1, a2, ())
noncomputable abbrev lh_spec_l10Read_58 : LoopH := { key := 116, ht := [0, 1, 7, 8], hτ := (fs [.str, (.int .i64), (.int .i64), (.int .i64)]), ex := 0, ot := [], oτ := (fs []) }
noncomputable def cd_spec_l10Read_58 : Code := Code.part (bodyOf 92) [1, 1, 0, 1, 0, 0]
noncomputable def l_spec_l10Read_58 (O : Oracle E1) (a0 : List UInt8) (a1 : Int) (a2 : Int) (a3 : Int) : Option ((Unit) ⊕ ((Int × Int × Bool × Unit) × (Unit))) := O.L 92 lh_spec_l10Read_58 cd_spec_l10Read_58 (a0, a1, a2, a3, ())
theorem k0l_spec_l10Read_58 (a0 : List UInt8) (a1 : Int) (a2 : Int) (a3 : Int) : Ct E1 (fun O => l_spec_l10Read_58 O a0 a1 a2 a3) := by unfold l_spec_l10Read_58; exact Ct.L (E := E1) 92 lh_spec_l10Read_58 cd_spec_l10Read_58 (a0, a1, a2, a3, ())
noncomputable abbrev lh_spec_l1Cur_spoilt_26 : LoopH := { key := 52, ht := [0, 1, 2, 7], hτ := (fs [(.box (.agg (fs [(.sl (.int .u8)), (.int .i64), (.int .u64)]))), .str, .str, (.int .i64)]), ex := 0, ot := [0, 1], oτ := (fs [(.box (.agg (fs [(.sl (.int .u8)), (.int .i64), (.int .u64)]))), .str]) }
noncomputable def cd_spec_l1Cur_spoilt_26 : Code := Code.part (bodyOf 93) [1, 0, 1, 0, 0]
noncomputable def l_spec_l1Cur_spoilt_26 (O : Oracle E1) (a0 : (List Int) × Int × Int × Unit) (a1 : List UInt8) (a2 : List UInt8) (a3 : Int) : Option ((((List Int) × Int × Int × Unit) × (List UInt8) × Unit) ⊕ (((List UInt8) × Unit) × (((List Int) × Int × Int × Unit) × Unit))) := O.L 93 lh_spec_l1Cur_spoilt_26 cd_spec_l1Cur_spoilt_26 (a0, a1, a2, a3, ())
theorem k0l_spec_l1Cur_spoilt_26 (a0 : (List Int) × Int × Int × Unit) (a1 : List UInt8) (a2 : List UInt8) (a3 : Int) : Ct E1 (fun O => l_spec_l1Cur_spoilt_26 O a0 a1 a2 a3) := by unfold l_spec_l1Cur_spoilt_26; exact Ct.L (E := E1) 93 lh_spec_l1Cur_spoilt_26 cd_spec_l1Cur_spoilt_26 (a0, a1, a2, a3, ())
noncomputable abbrev lh_spec_l10ReadList_252 : LoopH := { key := 504, ht := [0, 1, 7, 9, 10], hτ := (fs [.str, (.int .i64), (.int .i64), (.own (.int .i64)), (.int .i64)]), ex := 0, ot := [1, 9], oτ := (fs [(.int .i64), (.own (.int .i64))]) }
noncomputable def cd_spec_l10ReadList_252 : Code := Code.part (bodyOf 94) [1, 1, 1, 1, 1, 0, 0, 0]
noncomputable def l_spec_l10ReadList_252 (O : Oracle E1) (a0 : List UInt8) (a1 : Int) (a2 : Int) (a3 : List Int) (a4 : Int) : Option ((Int × (List Int) × Unit) ⊕ (((List Int) × Int × Bool × Unit) × (Unit))) := O.L 94 lh_spec_l10ReadList_252 cd_spec_l10ReadList_252 (a0, a1, a2, a3, a4, ())
theorem k0l_spec_l10ReadList_252 (a0 : List UInt8) (a1 : Int) (a2 : Int) (a3 : List Int) (a4 : Int) : Ct E1 (fun O => l_spec_l10ReadList_252 O a0 a1 a2 a3 a4) := by unfold l_spec_l10ReadList_252; exact Ct.L (E := E1) 94 lh_spec_l10ReadList_252 cd_spec_l10ReadList_252 (a0, a1, a2, a3, a4, ())
end Go.Proofs.YtejklhcalinhpaaVi.Ev
