/- The evaluator's tables for the functions of this seat. Printed by gen.py. -/
import Derived.Test.YtofkhmedmeihiaaRbEvY
import Derived.Test.YtofkhmedmeihiaaProg
import Derived.KernelRfl
namespace Go.Proofs.YtofkhmedmeihiaaRb.Ev
open Go
noncomputable section
def fs : List Ty → Ty
  | [] => .nil
  | a :: r => .cons a (fs r)
noncomputable def psT : List (Nat × Ty) := [
  (3, (fs [(.agg (fs [(.sl (.int .i64))])), .str, (.int .i64)])),
  (9, (fs [(.agg (fs [(.sl (.int .i64))])), (.int .i64)])),
  (10, (fs [(.agg (fs [(.sl (.int .i64))])), .str, (.int .i64)])),
  (11, (fs [(.agg (fs [(.sl (.int .i64))]))])),
  (12, (fs [(.agg (fs [(.sl (.int .i64))])), .str, (.int .i64)])),
  (13, (fs [(.sl (.agg (fs [.bool, (.sl (.int .i64)), (.sl (.int .i64))]))), (.sl (.agg (fs [.bool, (.sl (.int .i64)), (.sl (.int .i64))])))])),
  (14, (fs [(.agg (fs [(.sl (.int .i64))])), (.agg (fs [(.sl (.int .i64))]))])),
  (15, (fs [(.agg (fs [(.own (.int .i64))])), (.int .i64)])),
  (16, (fs [(.own (.agg (fs [.bool, (.own (.int .i64)), (.own (.int .i64))]))), (.int .i64)])),
  (17, (fs [(.sl (.agg (fs [.bool, (.sl (.int .i64)), (.sl (.int .i64))]))), (.int .i64)])),
  (26, (fs [(.sl (.int .i64)), (.sl (.int .i64))])),
  (29, (fs [(.own (.int .i64)), (.int .i64)])),
  (30, (fs [(.sl (.int .i64)), (.int .i64)])),
  (38, (fs [(.sl (.int .i64)), (.int .i64)])),
  (39, (fs [(.agg (fs [(.sl (.int .i64))]))])),
  (40, (fs [(.int .i64), (.int .i64), (.int .i64)])),
  (41, (fs [(.agg (fs [(.sl (.int .i64))])), .str, (.int .i64)])),
  (42, (fs [(.sl (.int .i64))])),
  (43, (fs [(.agg (fs [(.sl (.int .i64))]))])),
  (44, (fs [(.box (.agg (fs [.str, (.int .i64), .bool])))])),
  (45, (fs [(.agg (fs [(.sl (.int .i64))])), (.sl (.agg (fs [.bool, (.sl (.int .i64)), (.sl (.int .i64))])))])),
  (46, (fs [(.agg (fs [.bool, (.sl (.int .i64)), (.sl (.int .i64))])), (.agg (fs [.bool, (.sl (.int .i64)), (.sl (.int .i64))]))])),
  (49, (fs [(.agg (fs [(.sl (.int .i64))])), (.sl (.agg (fs [.bool, (.sl (.int .i64)), (.sl (.int .i64))])))])),
  (71, (fs [(.sl (.int .i64)), (.int .i64), (.int .i64)])),
  (72, (fs [.str, (.int .i64)])),
  (73, (fs [.str, (.int .i64)])),
  (75, (fs [(.int .i64)])),
  (76, (fs [(.box (.agg (fs [.str, (.int .i64), .bool]))), (.int .i64)])),
  (77, (fs [(.box (.agg (fs [.str, (.int .i64), .bool])))])),
  (79, (fs [(.agg (fs [.bool, (.sl (.int .i64)), (.sl (.int .i64))])), (.ptr (.agg (fs [(.sl (.int .i64))])))])),
  (80, (fs [(.agg (fs [(.sl (.int .i64))])), (.agg (fs [.bool, (.sl (.int .i64)), (.sl (.int .i64))]))])),
  (81, (fs [(.agg (fs [(.sl (.int .i64))])), (.agg (fs [.bool, (.sl (.int .i64)), (.sl (.int .i64))]))])),
  (107, (fs [(.int .i64)])),
  (108, (fs [(.int .i64)])),
  (110, (fs [.str, (.int .i64)])),
  (111, (fs [.str, (.int .i64)])),
  (113, (fs [(.agg (fs [(.sl (.int .i64))])), (.sl (.int .i64))])),
  (114, (fs [(.agg (fs [(.sl (.int .i64))])), (.sl (.int .i64))])),
  (125, (fs [(.int .i64)])),
  (126, (fs [(.agg (fs [(.sl (.int .i64))])), (.int .i64)])),
  (127, (fs [(.agg (fs [(.sl (.int .i64))])), (.sl (.int .i64)), (.int .i64)])),
  (4980810, (fs [(.sl (.int .i64)), (.fn 75 (fs []))])),
  (4980845, (fs [(.sl (.int .i64)), (.fn 75 (fs []))])),
  (5242958, (fs [(.sl (.agg (fs [.bool, (.sl (.int .i64)), (.sl (.int .i64))]))), (.fn 79 (fs [(.ptr (.agg (fs [(.sl (.int .i64))])))]))])),
  (5242992, (fs [(.sl (.agg (fs [.bool, (.sl (.int .i64)), (.sl (.int .i64))]))), (.fn 79 (fs [(.ptr (.agg (fs [(.sl (.int .i64))])))]))]))]
noncomputable def ioT : List (Nat × List Bool) := [
  (3, [false, false, false]),
  (9, [false, false]),
  (10, [false, false, false]),
  (11, [false]),
  (12, [false, false, false]),
  (13, [false, false]),
  (14, [false, false]),
  (15, [true, false]),
  (16, [true, false]),
  (17, [false, false]),
  (26, [false, false]),
  (29, [true, false]),
  (30, [false, false]),
  (38, [false, false]),
  (39, [false]),
  (40, [false, false, false]),
  (41, [false, false, false]),
  (42, [false]),
  (43, [false]),
  (44, [true]),
  (45, [false, false]),
  (46, [false, false]),
  (49, [false, false]),
  (71, [false, false, false]),
  (72, [false, false]),
  (73, [false, false]),
  (75, [false]),
  (76, [true, false]),
  (77, [true]),
  (79, [false, false]),
  (80, [false, false]),
  (81, [false, false]),
  (107, [false]),
  (108, [false]),
  (110, [false, false]),
  (111, [false, false]),
  (113, [false, false]),
  (114, [false, false]),
  (125, [false]),
  (126, [false, false]),
  (127, [false, false, false]),
  (4980810, [false, false]),
  (4980845, [false, false]),
  (5242958, [false, false]),
  (5242992, [false, false])]
noncomputable def rsT : List (Nat × Ty) := [
  (3, (fs [.bool])),
  (9, (fs [(.int .i64)])),
  (10, (fs [(.own (.agg (fs [.bool, (.sl (.int .i64)), (.sl (.int .i64))]))), (.int .i64), .bool])),
  (11, (fs [(.agg (fs [(.own (.int .i64))]))])),
  (12, (fs [(.own (.agg (fs [.bool, (.own (.int .i64)), (.own (.int .i64))]))), (.int .i64), .bool])),
  (13, (fs [.bool])),
  (14, (fs [.bool])),
  (15, (fs [(.int .i64)])),
  (16, (fs [(.int .i64)])),
  (17, (fs [(.int .i64)])),
  (26, (fs [.bool])),
  (29, (fs [(.int .i64)])),
  (30, (fs [(.int .i64)])),
  (38, (fs [(.int .i64)])),
  (39, (fs [.bool])),
  (40, (fs [.bool])),
  (41, (fs [(.own (.agg (fs [.bool, (.sl (.int .i64)), (.sl (.int .i64))]))), (.int .i64), .bool])),
  (42, (fs [(.own (.int .i64))])),
  (43, (fs [.bool])),
  (44, (fs [(.own (.agg (fs [.bool, (.own (.int .i64)), (.own (.int .i64))])))])),
  (45, (fs [.bool])),
  (46, (fs [.bool])),
  (49, (fs [.bool])),
  (71, (fs [.bool])),
  (72, (fs [(.int .i64), (.int .i64), .bool])),
  (73, (fs [(.own (.int .i64)), (.int .i64), .bool])),
  (75, (fs [.bool])),
  (76, (fs [(.int .i64)])),
  (77, (fs [(.own (.int .i64))])),
  (79, (fs [.bool])),
  (80, (fs [.bool])),
  (81, (fs [.bool])),
  (107, (fs [.str])),
  (108, (fs [(.int .i64)])),
  (110, (fs [(.int .i64), (.int .i64), .bool])),
  (111, (fs [(.own (.int .i64)), (.int .i64), .bool])),
  (113, (fs [.bool])),
  (114, (fs [.bool])),
  (125, (fs [(.int .i64), .bool])),
  (126, (fs [(.int .i64)])),
  (127, (fs [(.int .i64)])),
  (4980810, (fs [.bool])),
  (4980845, (fs [(.int .i64)])),
  (5242958, (fs [.bool])),
  (5242992, (fs [(.int .i64)]))]
noncomputable def capsT : List (Nat × Ty) := [
  (79, (fs [(.ptr (.agg (fs [(.sl (.int .i64))])))])),
  (117, (fs [(.ptr (.int .i64))])),
  (120, (fs [(.ptr (.agg (fs [(.sl (.int .i64))])))]))]
noncomputable def hintT : List (Nat × List (Nat × Hint)) := [
  (13, [(58, (.loop { key := 116, ht := [0, 1, 5], hτ := (fs [(.sl (.agg (fs [.bool, (.sl (.int .i64)), (.sl (.int .i64))]))), (.sl (.agg (fs [.bool, (.sl (.int .i64)), (.sl (.int .i64))]))), (.int .i64)]), ex := 0, ot := [], oτ := (fs []) }))]),
  (16, [(26, (.loop { key := 52, ht := [0, 1, 5], hτ := (fs [(.own (.agg (fs [.bool, (.own (.int .i64)), (.own (.int .i64))]))), (.int .i64), (.int .i64)]), ex := 0, ot := [0, 1], oτ := (fs [(.own (.agg (fs [.bool, (.own (.int .i64)), (.own (.int .i64))]))), (.int .i64)]) }))]),
  (17, [(26, (.loop { key := 52, ht := [0, 1, 5], hτ := (fs [(.sl (.agg (fs [.bool, (.sl (.int .i64)), (.sl (.int .i64))]))), (.int .i64), (.int .i64)]), ex := 0, ot := [1], oτ := (fs [(.int .i64)]) }))]),
  (26, [(58, (.loop { key := 116, ht := [0, 1, 5], hτ := (fs [(.sl (.int .i64)), (.sl (.int .i64)), (.int .i64)]), ex := 0, ot := [], oτ := (fs []) }))]),
  (29, [(26, (.loop { key := 52, ht := [0, 1, 5], hτ := (fs [(.own (.int .i64)), (.int .i64), (.int .i64)]), ex := 0, ot := [0, 1], oτ := (fs [(.own (.int .i64)), (.int .i64)]) }))]),
  (30, [(26, (.loop { key := 52, ht := [0, 1, 5], hτ := (fs [(.sl (.int .i64)), (.int .i64), (.int .i64)]), ex := 0, ot := [1], oτ := (fs [(.int .i64)]) }))]),
  (41, [(124, (.loop { key := 248, ht := [1, 2, 3, 9, 11], hτ := (fs [.str, (.int .i64), (.box (.agg (fs [(.sl (.int .i64))]))), (.int .i64), (.own (.agg (fs [.bool, (.sl (.int .i64)), (.sl (.int .i64))])))]), ex := 0, ot := [2, 3, 11], oτ := (fs [(.int .i64), (.box (.agg (fs [(.sl (.int .i64))]))), (.own (.agg (fs [.bool, (.sl (.int .i64)), (.sl (.int .i64))])))]) }))]),
  (42, [(58, (.loop { key := 116, ht := [0, 3, 4], hτ := (fs [(.sl (.int .i64)), (.own (.int .i64)), (.int .i64)]), ex := 0, ot := [3], oτ := (fs [(.own (.int .i64))]) }))]),
  (44, [(58, (.loop { key := 116, ht := [0, 3, 7, 8], hτ := (fs [(.box (.agg (fs [.str, (.int .i64), .bool]))), (.own (.agg (fs [.bool, (.own (.int .i64)), (.own (.int .i64))]))), (.int .i64), (.int .i64)]), ex := 0, ot := [0, 3], oτ := (fs [(.box (.agg (fs [.str, (.int .i64), .bool]))), (.own (.agg (fs [.bool, (.own (.int .i64)), (.own (.int .i64))])))]) }))]),
  (49, [(26, (.loop { key := 52, ht := [1, 2, 7, 8, 9], hτ := (fs [(.sl (.agg (fs [.bool, (.sl (.int .i64)), (.sl (.int .i64))]))), (.box (.agg (fs [(.sl (.int .i64))]))), (.sl (.agg (fs [.bool, (.sl (.int .i64)), (.sl (.int .i64))]))), (.int .i64), (.int .i64)]), ex := 0, ot := [1], oτ := (fs [(.sl (.agg (fs [.bool, (.sl (.int .i64)), (.sl (.int .i64))])))]) }))]),
  (71, [(26, (.loop { key := 52, ht := [1, 2, 9, 10, 11], hτ := (fs [(.int .i64), (.int .i64), (.sl (.int .i64)), (.int .i64), (.int .i64)]), ex := 0, ot := [], oτ := (fs []) }))]),
  (72, [(58, (.loop { key := 116, ht := [0, 1, 7, 8], hτ := (fs [.str, (.int .i64), (.int .i64), (.int .i64)]), ex := 0, ot := [], oτ := (fs []) }))]),
  (73, [(252, (.loop { key := 504, ht := [0, 1, 7, 9, 10], hτ := (fs [.str, (.int .i64), (.int .i64), (.own (.int .i64)), (.int .i64)]), ex := 0, ot := [1, 9], oτ := (fs [(.int .i64), (.own (.int .i64))]) }))]),
  (107, [(28, (.loop { key := 56, ht := [0, 3], hτ := (fs [(.int .i64), .str]), ex := 0, ot := [0, 3], oτ := (fs [(.int .i64), .str]) }))]),
  (110, [(122, (.loop { key := 244, ht := [0, 1, 7, 8], hτ := (fs [.str, (.int .i64), (.int .i64), (.int .i64)]), ex := 0, ot := [], oτ := (fs []) }))]),
  (111, [(3, (.cut [0, 1, 7, 8] (fs [.str, (.int .i64), (.int .i64), .bool]) true)), (14, (.cut [0, 1, 7, 26] (fs [.str, (.int .i64), (.int .i64), .bool]) true)), (127, (.cut [4, 5, 6] (fs [(.own (.int .i64)), (.int .i64), .bool]) true)), (506, (.loop { key := 1012, ht := [0, 1, 9, 10, 27, 28], hτ := (fs [.str, (.int .i64), (.own (.int .i64)), (.int .i64), (.int .i64), (.int .i64)]), ex := 0, ot := [1, 9], oτ := (fs [(.int .i64), (.own (.int .i64))]) })), (32409, (.cut [0, 1, 8, 9, 10, 11, 27, 28] (fs [.str, (.int .i64), .bool, (.own (.int .i64)), (.int .i64), (.int .i64), (.int .i64), (.int .i64)]) true)), (129639, (.cut [0, 1, 9, 10, 12, 13, 27, 28] (fs [.str, (.int .i64), (.own (.int .i64)), (.int .i64), (.int .i64), .bool, (.int .i64), (.int .i64)]) true)), (259279, (.cut [0, 1, 9, 10, 13, 27, 28] (fs [.str, (.int .i64), (.own (.int .i64)), (.int .i64), .bool, (.int .i64), (.int .i64)]) true)), (1037118, (.cut [0, 1, 9, 10, 27, 28, 56] (fs [.str, (.int .i64), (.own (.int .i64)), (.int .i64), (.int .i64), (.int .i64), .bool]) true))]),
  (113, [(122, (.loop { key := 244, ht := [2, 5, 11, 12, 13], hτ := (fs [(.box (.agg (fs [(.sl (.int .i64))]))), (.int .i64), (.sl (.int .i64)), (.int .i64), (.int .i64)]), ex := 0, ot := [5], oτ := (fs [(.int .i64)]) }))]),
  (127, [(28, (.loop { key := 56, ht := [1, 2, 3, 7], hτ := (fs [(.sl (.int .i64)), (.int .i64), (.box (.agg (fs [(.sl (.int .i64))]))), (.int .i64)]), ex := 0, ot := [2], oτ := (fs [(.int .i64)]) })), (907, (.cut [1, 2, 3, 7] (fs [(.sl (.int .i64)), (.int .i64), (.box (.agg (fs [(.sl (.int .i64))]))), (.int .i64)]) true))]),
  (4980845, [(26, (.loop { key := 52, ht := [0, 1, 7, 8], hτ := (fs [(.sl (.int .i64)), (.fn 75 (fs [])), (.int .i64), (.int .i64)]), ex := 0, ot := [], oτ := (fs []) }))]),
  (5242992, [(26, (.loop { key := 52, ht := [0, 1, 7, 8], hτ := (fs [(.sl (.agg (fs [.bool, (.sl (.int .i64)), (.sl (.int .i64))]))), (.fn 79 (fs [(.ptr (.agg (fs [(.sl (.int .i64))])))])), (.int .i64), (.int .i64)]), ex := 0, ot := [], oτ := (fs []) }))])]
noncomputable def deepT : List ((Nat × TypeId) × Ty) := [((7, 70), (.agg (fs [.bool, (.own (.int .i64)), (.own (.int .i64))]))), ((7, 81), (.agg (fs [(.int .i64), (.int .i64), (.own (.int .i64)), (.own (.int .i64))]))), ((21, 70), (.agg (fs [.bool, (.own (.int .i64)), (.own (.int .i64))]))), ((24, 81), (.agg (fs [(.int .i64), (.int .i64), (.own (.int .i64)), (.own (.int .i64))]))), ((51, 81), (.agg (fs [(.int .i64), (.int .i64), (.own (.int .i64)), (.own (.int .i64))]))), ((88, 81), (.agg (fs [(.int .i64), (.int .i64), (.own (.int .i64)), (.own (.int .i64))]))), ((106, 81), (.agg (fs [(.int .i64), (.int .i64), (.own (.int .i64)), (.own (.int .i64))])))]
noncomputable def borrowT : List (Nat × TypeId) := [(25, 22), (30, 22), (32, 22), (37, 22)]
noncomputable def E1 : Env := {
  P := Go.Proofs.Try.prog
  ps := fun f => (psT.lookup f).getD .nil
  io := fun f => (ioT.lookup f).getD []
  rs := fun f => (rsT.lookup f).getD .nil
  caps := fun f => (capsT.lookup f).getD .nil
  hint := fun f p => (((hintT.lookup f).getD []).lookup p).getD .none
  ext := fun _ => none
  clone := fun f => List.lookup f []
  deep := fun d t => List.lookup (d, t) deepT
  borrow := fun d t => List.contains borrowT (d, t) }
/-- A part of a code, by its way from the root. -/
def _root_.Go.Code.part : Code → List Nat → Code
  | .seq a b, d :: r => if d = 0 then a.part r else b.part r
  | .cond _ a b, d :: r => if d = 0 then a.part r else b.part r
  | .block _ a, _ :: r => a.part r
  | .loop a, _ :: r => a.part r
  | c, _ => c
noncomputable def bodyOf (f : Nat) : Code := match (E1.P.funcs[f]?).bind (·.body) with
  | some c => c
  | none => .skip
end
end Go.Proofs.YtofkhmedmeihiaaRb.Ev
