/- The evaluator's tables for the functions of this seat. Printed by gen.py. -/
import Derived.Test.YtejklhcalinhpaaViEvY
import Derived.Test.YtejklhcalinhpaaProg
import Derived.KernelRfl
namespace Go.Proofs.YtejklhcalinhpaaVi.Ev
open Go
noncomputable section
def fs : List Ty → Ty
  | [] => .nil
  | a :: r => .cons a (fs r)
noncomputable def psT : List (Nat × Ty) := [
  (7, (fs [(.sl (.int .u8)), (.sl (.int .u8))])),
  (32, (fs [(.sl (.int .u8)), (.sl (.int .u8))])),
  (33, (fs [(.sl (.int .u8))])),
  (34, (fs [(.int .i64)])),
  (35, (fs [(.int .i64)])),
  (36, (fs [(.int .i64)])),
  (37, (fs [(.int .i64)])),
  (38, (fs [.str, (.int .i64)])),
  (39, (fs [(.int .i64)])),
  (40, (fs [(.sl (.int .u8))])),
  (41, (fs [(.sl (.int .i64))])),
  (42, (fs [(.sl (.int .i64))])),
  (43, (fs [.str, (.int .i64)])),
  (44, (fs [(.sl (.int .i64)), (.sl (.int .i64))])),
  (45, (fs [(.sl (.int .u8))])),
  (46, (fs [.str, (.int .i64)])),
  (47, (fs [(.sl (.int .u8))])),
  (48, (fs [.str, (.int .i64)])),
  (49, (fs [(.sl (.int .u8))])),
  (50, (fs [(.int .i64)])),
  (57, (fs [(.int .i64), (.int .i64), (.int .i64)])),
  (81, (fs [(.box (.agg (fs [(.sl (.int .u8)), (.int .i64), (.int .u64)])))])),
  (82, (fs [(.int .i64)])),
  (83, (fs [(.own (.int .u8)), (.int .i64)])),
  (84, (fs [(.int .i64)])),
  (85, (fs [(.int .i64)])),
  (86, (fs [(.box (.agg (fs [(.sl (.int .u8)), (.int .i64), (.int .u64)])))])),
  (87, (fs [(.sl (.int .i64))])),
  (88, (fs [(.box (.agg (fs [(.sl (.int .u8)), (.int .i64), (.int .u64)])))])),
  (89, (fs [(.box (.agg (fs [(.sl (.int .u8)), (.int .i64), (.int .u64)]))), (.int .i64)])),
  (90, (fs [(.box (.agg (fs [(.sl (.int .u8)), (.int .i64), (.int .u64)]))), (.int .i64)])),
  (91, (fs [.str])),
  (92, (fs [.str, (.int .i64)])),
  (93, (fs [(.box (.agg (fs [(.sl (.int .u8)), (.int .i64), (.int .u64)]))), .str, .str])),
  (94, (fs [.str, (.int .i64)])),
  (95, (fs [(.int .i64)])),
  (110, (fs [(.box (.agg (fs [(.sl (.int .u8)), (.int .i64), (.int .u64)]))), (.sl (.int .i64))])),
  (111, (fs [(.box (.agg (fs [(.sl (.int .u8)), (.int .i64), (.int .u64)])))]))]
noncomputable def ioT : List (Nat × List Bool) := [
  (7, [false, false]),
  (32, [false, false]),
  (33, [false]),
  (34, [false]),
  (35, [false]),
  (36, [false]),
  (37, [false]),
  (38, [false, false]),
  (39, [false]),
  (40, [false]),
  (41, [false]),
  (42, [false]),
  (43, [false, false]),
  (44, [false, false]),
  (45, [false]),
  (46, [false, false]),
  (47, [false]),
  (48, [false, false]),
  (49, [false]),
  (50, [false]),
  (57, [false, false, false]),
  (81, [true]),
  (82, [false]),
  (83, [false, false]),
  (84, [false]),
  (85, [false]),
  (86, [true]),
  (87, [false]),
  (88, [true]),
  (89, [true, false]),
  (90, [true, false]),
  (91, [false]),
  (92, [false, false]),
  (93, [true, false, false]),
  (94, [false, false]),
  (95, [false]),
  (110, [true, false]),
  (111, [true])]
noncomputable def rsT : List (Nat × Ty) := [
  (7, (fs [.bool])),
  (32, (fs [.bool])),
  (33, (fs [(.int .i64)])),
  (34, (fs [.str, .bool])),
  (35, (fs [.str, .bool])),
  (36, (fs [(.int .i64), .bool])),
  (37, (fs [(.int .i64), .bool])),
  (38, (fs [(.int .i64), (.int .i64), .bool])),
  (39, (fs [(.int .i64), .bool])),
  (40, (fs [(.own (.int .i64))])),
  (41, (fs [.str, .bool])),
  (42, (fs [.str, .bool])),
  (43, (fs [(.own (.int .i64)), (.int .i64), .bool])),
  (44, (fs [.bool])),
  (45, (fs [.str, (.int .i64)])),
  (46, (fs [(.int .i64), (.int .i64), .bool])),
  (47, (fs [.str, (.int .i64)])),
  (48, (fs [(.own (.int .i64)), (.int .i64), .bool])),
  (49, (fs [(.int .i64)])),
  (50, (fs [(.int .i64), .bool])),
  (57, (fs [.bool])),
  (81, (fs [(.int .i64)])),
  (82, (fs [.bool])),
  (83, (fs [(.own (.int .u8))])),
  (84, (fs [.str])),
  (85, (fs [(.int .i64)])),
  (86, (fs [(.own (.int .i64))])),
  (87, (fs [.str])),
  (88, (fs [.str])),
  (89, (fs [(.int .i64)])),
  (90, (fs [.bool])),
  (91, (fs [.bool])),
  (92, (fs [(.int .i64), (.int .i64), .bool])),
  (93, (fs [.str])),
  (94, (fs [(.own (.int .i64)), (.int .i64), .bool])),
  (95, (fs [(.int .i64)])),
  (110, (fs [(.int .i64)])),
  (111, (fs [(.int .i64)]))]
noncomputable def capsT : List (Nat × Ty) := [
  (121, (fs [(.ptr (.agg (fs [(.sl (.int .i64))])))])),
  (130, (fs [(.ptr (.int .i64))]))]
noncomputable def hintT : List (Nat × List (Nat × Hint)) := [
  (7, [(511, (.cut [1, 5, 10, 11] (fs [(.sl (.int .u8)), (.int .i64), (.int .i64), .bool]) true)), (1023, (.cut [1] (fs [(.sl (.int .u8))]) true)), (32767, (.cut [1] (fs [(.sl (.int .u8))]) true))]),
  (38, [(122, (.loop { key := 244, ht := [0, 1, 7, 8], hτ := (fs [.str, (.int .i64), (.int .i64), (.int .i64)]), ex := 0, ot := [], oτ := (fs []) }))]),
  (41, [(250, (.loop { key := 500, ht := [4, 5, 16, 17, 18], hτ := (fs [(.own (.int .u8)), (.int .i64), (.sl (.int .i64)), (.int .i64), (.int .i64)]), ex := 0, ot := [4], oτ := (fs [(.own (.int .u8))]) }))]),
  (42, [(122, (.loop { key := 244, ht := [0, 4, 10, 11, 12], hτ := (fs [(.sl (.int .i64)), (.int .i64), (.sl (.int .i64)), (.int .i64), (.int .i64)]), ex := 0, ot := [0], oτ := (fs [(.sl (.int .i64))]) }))]),
  (43, [(3, (.cut [0, 1, 7, 8] (fs [.str, (.int .i64), (.int .i64), .bool]) true)), (14, (.cut [0, 1, 7, 26] (fs [.str, (.int .i64), (.int .i64), .bool]) true)), (127, (.cut [4, 5, 6] (fs [(.own (.int .i64)), (.int .i64), .bool]) true)), (506, (.loop { key := 1012, ht := [0, 1, 9, 10, 27, 28], hτ := (fs [.str, (.int .i64), (.own (.int .i64)), (.int .i64), (.int .i64), (.int .i64)]), ex := 0, ot := [1, 9], oτ := (fs [(.int .i64), (.own (.int .i64))]) })), (32409, (.cut [0, 1, 8, 9, 10, 11, 27, 28] (fs [.str, (.int .i64), .bool, (.own (.int .i64)), (.int .i64), (.int .i64), (.int .i64), (.int .i64)]) true)), (129639, (.cut [0, 1, 9, 10, 12, 13, 27, 28] (fs [.str, (.int .i64), (.own (.int .i64)), (.int .i64), (.int .i64), .bool, (.int .i64), (.int .i64)]) true)), (259279, (.cut [0, 1, 9, 10, 13, 27, 28] (fs [.str, (.int .i64), (.own (.int .i64)), (.int .i64), .bool, (.int .i64), (.int .i64)]) true)), (1037118, (.cut [0, 1, 9, 10, 27, 28, 56] (fs [.str, (.int .i64), (.own (.int .i64)), (.int .i64), (.int .i64), (.int .i64), .bool]) true))]),
  (44, [(58, (.loop { key := 116, ht := [0, 1, 12, 13], hτ := (fs [(.sl (.int .i64)), (.sl (.int .i64)), (.int .i64), (.int .i64)]), ex := 0, ot := [], oτ := (fs []) }))]),
  (47, [(15, (.cut [4, 5] (fs [(.box (.agg (fs [(.sl (.int .u8)), (.int .i64), (.int .u64)]))), .str]) true))]),
  (83, [(12, (.loop { key := 24, ht := [0, 1], hτ := (fs [(.own (.int .u8)), (.int .i64)]), ex := 0, ot := [0, 1], oτ := (fs [(.own (.int .u8)), (.int .i64)]) }))]),
  (84, [(28, (.loop { key := 56, ht := [0, 3], hτ := (fs [(.int .i64), .str]), ex := 0, ot := [0, 3], oτ := (fs [(.int .i64), .str]) }))]),
  (86, [(15, (.cut [0, 3] (fs [(.box (.agg (fs [(.sl (.int .u8)), (.int .i64), (.int .u64)]))), (.own (.int .i64))]) true)), (58, (.loop { key := 116, ht := [0, 3, 4], hτ := (fs [(.box (.agg (fs [(.sl (.int .u8)), (.int .i64), (.int .u64)]))), (.own (.int .i64)), (.int .i64)]), ex := 0, ot := [0, 3], oτ := (fs [(.box (.agg (fs [(.sl (.int .u8)), (.int .i64), (.int .u64)]))), (.own (.int .i64))]) })), (1865, (.cut [0, 3, 4, 5] (fs [(.box (.agg (fs [(.sl (.int .u8)), (.int .i64), (.int .u64)]))), (.own (.int .i64)), (.int .i64), (.int .i64)]) true))]),
  (87, [(122, (.loop { key := 244, ht := [3, 4, 10, 11, 12], hτ := (fs [.str, (.int .i64), (.sl (.int .i64)), (.int .i64), (.int .i64)]), ex := 0, ot := [3], oτ := (fs [.str]) }))]),
  (88, [(58, (.loop { key := 116, ht := [0, 3, 4], hτ := (fs [(.box (.agg (fs [(.sl (.int .u8)), (.int .i64), (.int .u64)]))), (.own (.int .u8)), (.int .i64)]), ex := 0, ot := [0, 3], oτ := (fs [(.box (.agg (fs [(.sl (.int .u8)), (.int .i64), (.int .u64)]))), (.own (.int .u8))]) }))]),
  (89, [(15, (.cut [0, 1, 5] (fs [(.box (.agg (fs [(.sl (.int .u8)), (.int .i64), (.int .u64)]))), (.int .i64), (.int .i64)]) true))]),
  (92, [(58, (.loop { key := 116, ht := [0, 1, 7, 8], hτ := (fs [.str, (.int .i64), (.int .i64), (.int .i64)]), ex := 0, ot := [], oτ := (fs []) }))]),
  (93, [(26, (.loop { key := 52, ht := [0, 1, 2, 7], hτ := (fs [(.box (.agg (fs [(.sl (.int .u8)), (.int .i64), (.int .u64)]))), .str, .str, (.int .i64)]), ex := 0, ot := [0, 1], oτ := (fs [(.box (.agg (fs [(.sl (.int .u8)), (.int .i64), (.int .u64)]))), .str]) })), (105, (.cut [0, 1, 2, 7] (fs [(.box (.agg (fs [(.sl (.int .u8)), (.int .i64), (.int .u64)]))), .str, .str, (.int .i64)]) true))]),
  (94, [(252, (.loop { key := 504, ht := [0, 1, 7, 9, 10], hτ := (fs [.str, (.int .i64), (.int .i64), (.own (.int .i64)), (.int .i64)]), ex := 0, ot := [1, 9], oτ := (fs [(.int .i64), (.own (.int .i64))]) }))]),
  (111, [(7, (.cut [0, 3] (fs [(.box (.agg (fs [(.sl (.int .u8)), (.int .i64), (.int .u64)]))), (.int .i64)]) true))])]
noncomputable def E1 : Env := {
  P := Go.Proofs.Try.prog
  ps := fun f => (psT.lookup f).getD .nil
  io := fun f => (ioT.lookup f).getD []
  rs := fun f => (rsT.lookup f).getD .nil
  caps := fun f => (capsT.lookup f).getD .nil
  hint := fun f p => (((hintT.lookup f).getD []).lookup p).getD .none
  ext := fun _ => none
  clone := fun f => List.lookup f [] }
/-- A part of a code, by its way from the root. -/
def _root_.Go.Code.part : Code → List Nat → Code
  | .seq a b, d :: r => if d = 0 then a.part r else b.part r
  | .cond _ a b, d :: r => if d = 0 then a.part r else b.part r
  | .block _ a, _ :: r => a.part r
  | .loop a, _ :: r => a.part r
  | c, _ => c
noncomputable def bodyOf (f : Nat) : Code := match (E1.P.funcs[f]?).bind (·.body) with
  | some c => c
  | none => .skip
end
end Go.Proofs.YtejklhcalinhpaaVi.Ev
