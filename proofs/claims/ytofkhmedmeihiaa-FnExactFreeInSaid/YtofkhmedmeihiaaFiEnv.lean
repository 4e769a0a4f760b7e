/- A text of its own: Env; no condition but those that each theorem names. -/
import Derived.Test.YtofkhmedmeihiaaFiEvCl
import Derived.Test.YtofkhmedmeihiaaProg
import Derived.KernelRfl
/- The evaluator's tables for the functions of this seat. Printed by gen.py. -/
namespace Go.Proofs.YtofkhmedmeihiaaFi.Ev
open Go
noncomputable section
def fs : List Ty → Ty
  | [] => .nil
  | a :: r => .cons a (fs r)
noncomputable def psT : List (Nat × Ty) := [
  (5, (fs [(.agg (fs [(.sl (.int .i64))])), (.sl (.agg (fs [(.int .i64), (.int .i64), (.sl (.int .i64)), (.sl (.int .i64))])))])),
  (9, (fs [(.agg (fs [(.sl (.int .i64))])), (.int .i64)])),
  (11, (fs [(.agg (fs [(.sl (.int .i64))]))])),
  (14, (fs [(.agg (fs [(.sl (.int .i64))])), (.agg (fs [(.sl (.int .i64))]))])),
  (15, (fs [(.agg (fs [(.own (.int .i64))])), (.int .i64)])),
  (22, (fs [(.sl (.agg (fs [(.int .i64), (.int .i64), (.sl (.int .i64)), (.sl (.int .i64))]))), (.int .i64)])),
  (23, (fs [(.agg (fs [(.sl (.int .i64))])), (.sl (.agg (fs [(.int .i64), (.int .i64), (.sl (.int .i64)), (.sl (.int .i64))])))])),
  (24, (fs [(.sl (.agg (fs [(.int .i64), (.int .i64), (.sl (.int .i64)), (.sl (.int .i64))])))])),
  (25, (fs [(.agg (fs [(.sl (.int .i64))])), (.sl (.agg (fs [(.int .i64), (.int .i64), (.sl (.int .i64)), (.sl (.int .i64))])))])),
  (26, (fs [(.sl (.int .i64)), (.sl (.int .i64))])),
  (27, (fs [(.sl (.agg (fs [(.int .i64), (.int .i64), (.sl (.int .i64)), (.sl (.int .i64))]))), (.sl (.agg (fs [(.int .i64), (.int .i64), (.sl (.int .i64)), (.sl (.int .i64))])))])),
  (28, (fs [(.own (.agg (fs [(.int .i64), (.int .i64), (.own (.int .i64)), (.own (.int .i64))]))), (.int .i64)])),
  (29, (fs [(.own (.int .i64)), (.int .i64)])),
  (30, (fs [(.sl (.int .i64)), (.int .i64)])),
  (38, (fs [(.sl (.int .i64)), (.int .i64)])),
  (39, (fs [(.agg (fs [(.sl (.int .i64))]))])),
  (40, (fs [(.int .i64), (.int .i64), (.int .i64)])),
  (42, (fs [(.sl (.int .i64))])),
  (43, (fs [(.agg (fs [(.sl (.int .i64))]))])),
  (54, (fs [(.agg (fs [(.int .i64), (.int .i64), (.sl (.int .i64)), (.sl (.int .i64))])), (.int .i64)])),
  (55, (fs [(.agg (fs [(.sl (.int .i64))])), (.sl (.agg (fs [(.int .i64), (.int .i64), (.sl (.int .i64)), (.sl (.int .i64))])))])),
  (56, (fs [(.sl (.agg (fs [(.int .i64), (.int .i64), (.sl (.int .i64)), (.sl (.int .i64))]))), (.int .i64)])),
  (57, (fs [(.agg (fs [(.int .i64), (.int .i64), (.sl (.int .i64)), (.sl (.int .i64))]))])),
  (58, (fs [(.agg (fs [(.sl (.int .i64))])), (.sl (.agg (fs [(.int .i64), (.int .i64), (.sl (.int .i64)), (.sl (.int .i64))])))])),
  (59, (fs [.tree])),
  (60, (fs [(.agg (fs [(.int .i64), (.int .i64), (.sl (.int .i64)), (.sl (.int .i64))])), (.agg (fs [(.int .i64), (.int .i64), (.sl (.int .i64)), (.sl (.int .i64))]))])),
  (62, (fs [(.agg (fs [(.sl (.int .i64))])), (.sl (.agg (fs [(.int .i64), (.int .i64), (.sl (.int .i64)), (.sl (.int .i64))])))])),
  (71, (fs [(.sl (.int .i64)), (.int .i64), (.int .i64)])),
  (75, (fs [(.int .i64)])),
  (85, (fs [(.sl (.sl (.int .i64)))])),
  (90, (fs [(.sl (.int .i64))])),
  (91, (fs [(.own (.int .i64)), (.int .i64)])),
  (92, (fs [(.sl (.int .i64)), (.int .i64)])),
  (93, (fs [(.sl (.agg (fs [(.int .i64), (.int .i64), (.sl (.int .i64)), (.sl (.int .i64))]))), (.int .i64)])),
  (94, (fs [(.agg (fs [(.sl (.int .i64))])), (.sl (.agg (fs [(.int .i64), (.int .i64), (.sl (.int .i64)), (.sl (.int .i64))])))])),
  (95, (fs [.tree, (.map .bool), (.sl (.int .i64))])),
  (97, (fs [(.int .i64)])),
  (98, (fs [(.agg (fs [(.sl (.int .i64))])), (.agg (fs [(.int .i64), (.int .i64), (.sl (.int .i64)), (.sl (.int .i64))]))])),
  (113, (fs [(.agg (fs [(.sl (.int .i64))])), (.sl (.int .i64))])),
  (114, (fs [(.agg (fs [(.sl (.int .i64))])), (.sl (.int .i64))])),
  (117, (fs [(.sl (.int .i64)), (.ptr (.int .i64))])),
  (118, (fs [(.sl (.int .i64)), (.int .i64)])),
  (121, (fs [(.agg (fs [(.sl (.int .i64))])), (.agg (fs [(.int .i64), (.int .i64), (.sl (.int .i64)), (.sl (.int .i64))]))])),
  (122, (fs [(.agg (fs [(.int .i64), (.int .i64), (.sl (.int .i64)), (.sl (.int .i64))]))])),
  (126, (fs [(.agg (fs [(.sl (.int .i64))])), (.int .i64)])),
  (127, (fs [(.agg (fs [(.sl (.int .i64))])), (.sl (.int .i64)), (.int .i64)])),
  (129, (fs [(.sl (.int .i64)), (.int .i64)])),
  (130, (fs [(.agg (fs [(.sl (.int .i64))])), (.sl (.int .i64))])),
  (131, (fs [(.int .i64)])),
  (4980810, (fs [(.sl (.int .i64)), (.fn 75 (fs []))])),
  (4980845, (fs [(.sl (.int .i64)), (.fn 75 (fs []))])),
  (7733364, (fs [(.sl (.sl (.int .i64))), (.fn 117 (fs [(.ptr (.int .i64))]))])),
  (7733376, (fs [(.sl (.sl (.int .i64))), (.fn 117 (fs [(.ptr (.int .i64))]))])),
  (8650826, (fs [(.sl (.int .i64)), (.fn 131 (fs []))])),
  (8650861, (fs [(.sl (.int .i64)), (.fn 131 (fs []))]))]
noncomputable def ioT : List (Nat × List Bool) := [
  (5, [false, false]),
  (9, [false, false]),
  (11, [false]),
  (14, [false, false]),
  (15, [true, false]),
  (22, [false, false]),
  (23, [false, false]),
  (24, [false]),
  (25, [false, false]),
  (26, [false, false]),
  (27, [false, false]),
  (28, [true, false]),
  (29, [true, false]),
  (30, [false, false]),
  (38, [false, false]),
  (39, [false]),
  (40, [false, false, false]),
  (42, [false]),
  (43, [false]),
  (54, [false, false]),
  (55, [false, false]),
  (56, [false, false]),
  (57, [false]),
  (58, [false, false]),
  (59, [false]),
  (60, [false, false]),
  (62, [false, false]),
  (71, [false, false, false]),
  (75, [false]),
  (85, [false]),
  (90, [false]),
  (91, [false, false]),
  (92, [false, false]),
  (93, [false, false]),
  (94, [false, false]),
  (95, [false, true, false]),
  (97, [false]),
  (98, [false, false]),
  (113, [false, false]),
  (114, [false, false]),
  (117, [false, false]),
  (118, [false, false]),
  (121, [false, false]),
  (122, [false]),
  (126, [false, false]),
  (127, [false, false, false]),
  (129, [false, false]),
  (130, [false, false]),
  (131, [false]),
  (4980810, [false, false]),
  (4980845, [false, false]),
  (7733364, [false, false]),
  (7733376, [false, false]),
  (8650826, [false, false]),
  (8650861, [false, false])]
noncomputable def rsT : List (Nat × Ty) := [
  (5, (fs [.bool])),
  (9, (fs [(.int .i64)])),
  (11, (fs [(.agg (fs [(.own (.int .i64))]))])),
  (14, (fs [.bool])),
  (15, (fs [(.int .i64)])),
  (22, (fs [(.int .i64)])),
  (23, (fs [(.own (.int .i64)), .bool])),
  (24, (fs [(.own (.agg (fs [(.int .i64), (.int .i64), (.own (.int .i64)), (.own (.int .i64))])))])),
  (25, (fs [(.own (.int .i64)), .bool])),
  (26, (fs [.bool])),
  (27, (fs [.bool])),
  (28, (fs [(.int .i64)])),
  (29, (fs [(.int .i64)])),
  (30, (fs [(.int .i64)])),
  (38, (fs [(.int .i64)])),
  (39, (fs [.bool])),
  (40, (fs [.bool])),
  (42, (fs [(.own (.int .i64))])),
  (43, (fs [.bool])),
  (54, (fs [(.int .i64)])),
  (55, (fs [.bool])),
  (56, (fs [(.own (.int .i64))])),
  (57, (fs [(.agg (fs [(.int .i64), (.int .i64), (.own (.int .i64)), (.own (.int .i64))]))])),
  (58, (fs [.tree, .bool])),
  (59, (fs [(.own (.int .i64))])),
  (60, (fs [.bool])),
  (62, (fs [.bool])),
  (71, (fs [.bool])),
  (75, (fs [.bool])),
  (85, (fs [(.own (.int .i64))])),
  (90, (fs [(.own (.int .i64))])),
  (91, (fs [(.own (.int .i64))])),
  (92, (fs [(.own (.int .i64))])),
  (93, (fs [(.int .i64)])),
  (94, (fs [.tree, .bool])),
  (95, (fs [])),
  (97, (fs [(.int .i64)])),
  (98, (fs [.bool])),
  (113, (fs [.bool])),
  (114, (fs [.bool])),
  (117, (fs [.bool])),
  (118, (fs [.bool])),
  (121, (fs [.bool])),
  (122, (fs [(.int .i64)])),
  (126, (fs [(.int .i64)])),
  (127, (fs [(.int .i64)])),
  (129, (fs [(.int .i64)])),
  (130, (fs [.bool])),
  (131, (fs [.bool])),
  (4980810, (fs [.bool])),
  (4980845, (fs [(.int .i64)])),
  (7733364, (fs [.bool])),
  (7733376, (fs [(.int .i64)])),
  (8650826, (fs [.bool])),
  (8650861, (fs [(.int .i64)]))]
noncomputable def capsT : List (Nat × Ty) := [
  (79, (fs [(.ptr (.agg (fs [(.sl (.int .i64))])))])),
  (117, (fs [(.ptr (.int .i64))])),
  (120, (fs [(.ptr (.agg (fs [(.sl (.int .i64))])))]))]
noncomputable def hintT : List (Nat × List (Nat × Hint)) := [
  (22, [(122, (.loop { key := 244, ht := [0, 1, 5], hτ := (fs [(.sl (.agg (fs [(.int .i64), (.int .i64), (.sl (.int .i64)), (.sl (.int .i64))]))), (.int .i64), (.int .i64)]), ex := 0, ot := [1], oτ := (fs [(.int .i64)]) }))]),
  (24, [(58, (.loop { key := 116, ht := [0, 3, 4], hτ := (fs [(.sl (.agg (fs [(.int .i64), (.int .i64), (.sl (.int .i64)), (.sl (.int .i64))]))), (.own (.agg (fs [(.int .i64), (.int .i64), (.own (.int .i64)), (.own (.int .i64))]))), (.int .i64)]), ex := 0, ot := [3], oτ := (fs [(.own (.agg (fs [(.int .i64), (.int .i64), (.own (.int .i64)), (.own (.int .i64))])))]) }))]),
  (26, [(58, (.loop { key := 116, ht := [0, 1, 5], hτ := (fs [(.sl (.int .i64)), (.sl (.int .i64)), (.int .i64)]), ex := 0, ot := [], oτ := (fs []) }))]),
  (27, [(58, (.loop { key := 116, ht := [0, 1, 5], hτ := (fs [(.sl (.agg (fs [(.int .i64), (.int .i64), (.sl (.int .i64)), (.sl (.int .i64))]))), (.sl (.agg (fs [(.int .i64), (.int .i64), (.sl (.int .i64)), (.sl (.int .i64))]))), (.int .i64)]), ex := 0, ot := [], oτ := (fs []) }))]),
  (28, [(26, (.loop { key := 52, ht := [0, 1, 5], hτ := (fs [(.own (.agg (fs [(.int .i64), (.int .i64), (.own (.int .i64)), (.own (.int .i64))]))), (.int .i64), (.int .i64)]), ex := 0, ot := [0, 1], oτ := (fs [(.own (.agg (fs [(.int .i64), (.int .i64), (.own (.int .i64)), (.own (.int .i64))]))), (.int .i64)]) }))]),
  (29, [(26, (.loop { key := 52, ht := [0, 1, 5], hτ := (fs [(.own (.int .i64)), (.int .i64), (.int .i64)]), ex := 0, ot := [0, 1], oτ := (fs [(.own (.int .i64)), (.int .i64)]) }))]),
  (30, [(26, (.loop { key := 52, ht := [0, 1, 5], hτ := (fs [(.sl (.int .i64)), (.int .i64), (.int .i64)]), ex := 0, ot := [1], oτ := (fs [(.int .i64)]) }))]),
  (42, [(58, (.loop { key := 116, ht := [0, 3, 4], hτ := (fs [(.sl (.int .i64)), (.own (.int .i64)), (.int .i64)]), ex := 0, ot := [3], oτ := (fs [(.own (.int .i64))]) }))]),
  (56, [(235, (.cut [0, 1, 5, 17, 37] (fs [(.sl (.agg (fs [(.int .i64), (.int .i64), (.sl (.int .i64)), (.sl (.int .i64))]))), (.int .i64), (.box (.agg (fs [(.int .i64), (.int .i64), (.sl (.int .i64)), (.sl (.int .i64))]))), (.int .i64), .bool]) true)), (250, (.loop { key := 500, ht := [9, 61, 62, 63], hτ := (fs [(.own (.int .i64)), (.own (.int .i64)), (.int .i64), (.int .i64)]), ex := 3, ot := [9], oτ := (fs [(.own (.int .i64))]) })), (3754, (.loop { key := 7508, ht := [6, 26, 27, 28], hτ := (fs [(.own (.int .i64)), (.own (.int .i64)), (.int .i64), (.int .i64)]), ex := 1, ot := [6], oτ := (fs [(.own (.int .i64))]) }))]),
  (59, [(250, (.loop { key := 500, ht := [3, 4, 10], hτ := (fs [(.map .bool), (.own (.int .i64)), (.int .i64)]), ex := 0, ot := [4], oτ := (fs [(.own (.int .i64))]) })), (2003, (.cut [3, 4, 10] (fs [(.map .bool), (.own (.int .i64)), (.int .i64)]) true))]),
  (62, [(122, (.loop { key := 244, ht := [2, 5, 12, 13, 14], hτ := (fs [(.box (.agg (fs [(.sl (.int .i64))]))), (.int .i64), (.sl (.agg (fs [(.int .i64), (.int .i64), (.sl (.int .i64)), (.sl (.int .i64))]))), (.int .i64), (.int .i64)]), ex := 0, ot := [5], oτ := (fs [(.int .i64)]) }))]),
  (71, [(26, (.loop { key := 52, ht := [1, 2, 9, 10, 11], hτ := (fs [(.int .i64), (.int .i64), (.sl (.int .i64)), (.int .i64), (.int .i64)]), ex := 0, ot := [], oτ := (fs []) }))]),
  (85, [(58, (.loop { key := 116, ht := [0, 3, 5], hτ := (fs [(.sl (.sl (.int .i64))), (.own (.int .i64)), (.int .i64)]), ex := 0, ot := [3], oτ := (fs [(.own (.int .i64))]) })), (467, (.cut [0, 3, 5] (fs [(.sl (.sl (.int .i64))), (.own (.int .i64)), (.int .i64)]) true))]),
  (90, [(58, (.loop { key := 116, ht := [3, 6, 7, 8], hτ := (fs [(.own (.int .i64)), (.sl (.int .i64)), (.int .i64), (.int .i64)]), ex := 0, ot := [3], oτ := (fs [(.own (.int .i64))]) })), (467, (.cut [3, 6, 7, 8] (fs [(.own (.int .i64)), (.sl (.int .i64)), (.int .i64), (.int .i64)]) true))]),
  (91, [(28, (.loop { key := 56, ht := [0, 1, 5], hτ := (fs [(.own (.int .i64)), (.int .i64), (.int .i64)]), ex := 0, ot := [0, 1, 5], oτ := (fs [(.own (.int .i64)), (.int .i64), (.int .i64)]) }))]),
  (92, [(58, (.loop { key := 116, ht := [1, 5, 8, 9, 10], hτ := (fs [(.int .i64), (.own (.int .i64)), (.sl (.int .i64)), (.int .i64), (.int .i64)]), ex := 0, ot := [5], oτ := (fs [(.own (.int .i64))]) })), (467, (.cut [1, 5, 8, 9, 10] (fs [(.int .i64), (.own (.int .i64)), (.sl (.int .i64)), (.int .i64), (.int .i64)]) true))]),
  (93, [(60, (.loop { key := 120, ht := [0, 5, 6], hτ := (fs [(.sl (.agg (fs [(.int .i64), (.int .i64), (.sl (.int .i64)), (.sl (.int .i64))]))), (.int .i64), (.int .i64)]), ex := 0, ot := [6], oτ := (fs [(.int .i64)]) }))]),
  (94, [(122, (.loop { key := 244, ht := [2, 6, 14, 15, 16], hτ := (fs [(.box (.agg (fs [(.sl (.int .i64))]))), (.own .tree), (.sl (.agg (fs [(.int .i64), (.int .i64), (.sl (.int .i64)), (.sl (.int .i64))]))), (.int .i64), (.int .i64)]), ex := 0, ot := [6], oτ := (fs [(.own .tree)]) }))]),
  (95, [(7, (.cut [0, 1, 2] (fs [.tree, (.map .bool), (.sl (.int .i64))]) true)), (26, (.loop { key := 52, ht := [0, 1, 2, 6, 20, 21, 22], hτ := (fs [.tree, (.map .bool), (.sl (.int .i64)), (.box (.agg (fs [(.int .i64), (.int .i64), (.sl (.int .i64)), (.sl (.int .i64))]))), (.own (.int .i64)), (.int .i64), (.int .i64)]), ex := 0, ot := [0, 1, 2, 6], oτ := (fs [.tree, (.map .bool), (.sl (.int .i64)), (.box (.agg (fs [(.int .i64), (.int .i64), (.sl (.int .i64)), (.sl (.int .i64))])))]) })), (62, (.loop { key := 124, ht := [1, 2, 55, 56, 57], hτ := (fs [(.map .bool), (.sl (.int .i64)), (.sl .tree), (.int .i64), (.int .i64)]), ex := 2, ot := [1], oτ := (fs [(.map .bool)]) }))]),
  (97, [(107, (.cut [3, 6] (fs [(.int .i64), .bool]) true)), (431, (.cut [10] (fs [.bool]) true))]),
  (113, [(122, (.loop { key := 244, ht := [2, 5, 11, 12, 13], hτ := (fs [(.box (.agg (fs [(.sl (.int .i64))]))), (.int .i64), (.sl (.int .i64)), (.int .i64), (.int .i64)]), ex := 0, ot := [5], oτ := (fs [(.int .i64)]) }))]),
  (121, [(107, (.cut [3, 6, 24] (fs [(.box (.agg (fs [(.int .i64), (.int .i64), (.sl (.int .i64)), (.sl (.int .i64))]))), (.int .i64), .bool]) true)), (431, (.cut [3, 47] (fs [(.box (.agg (fs [(.int .i64), (.int .i64), (.sl (.int .i64)), (.sl (.int .i64))]))), .bool]) true))]),
  (122, [(107, (.cut [7] (fs [.bool]) true))]),
  (127, [(28, (.loop { key := 56, ht := [1, 2, 3, 7], hτ := (fs [(.sl (.int .i64)), (.int .i64), (.box (.agg (fs [(.sl (.int .i64))]))), (.int .i64)]), ex := 0, ot := [2], oτ := (fs [(.int .i64)]) })), (907, (.cut [1, 2, 3, 7] (fs [(.sl (.int .i64)), (.int .i64), (.box (.agg (fs [(.sl (.int .i64))]))), (.int .i64)]) true))]),
  (129, [(26, (.loop { key := 52, ht := [0, 1, 7, 8], hτ := (fs [(.sl (.int .i64)), (.int .i64), (.int .i64), (.int .i64)]), ex := 0, ot := [], oτ := (fs []) }))]),
  (4980845, [(26, (.loop { key := 52, ht := [0, 1, 7, 8], hτ := (fs [(.sl (.int .i64)), (.fn 75 (fs [])), (.int .i64), (.int .i64)]), ex := 0, ot := [], oτ := (fs []) }))]),
  (7733376, [(26, (.loop { key := 52, ht := [0, 1, 7, 8], hτ := (fs [(.sl (.sl (.int .i64))), (.fn 117 (fs [(.ptr (.int .i64))])), (.int .i64), (.int .i64)]), ex := 0, ot := [], oτ := (fs []) }))]),
  (8650861, [(26, (.loop { key := 52, ht := [0, 1, 7, 8], hτ := (fs [(.sl (.int .i64)), (.fn 131 (fs [])), (.int .i64), (.int .i64)]), ex := 0, ot := [], oτ := (fs []) }))])]
noncomputable def deepT : List ((Nat × TypeId) × Ty) := [((7, 70), (.agg (fs [.bool, (.own (.int .i64)), (.own (.int .i64))]))), ((7, 81), (.agg (fs [(.int .i64), (.int .i64), (.own (.int .i64)), (.own (.int .i64))]))), ((21, 70), (.agg (fs [.bool, (.own (.int .i64)), (.own (.int .i64))]))), ((24, 81), (.agg (fs [(.int .i64), (.int .i64), (.own (.int .i64)), (.own (.int .i64))]))), ((44, 81), (.agg (fs [(.int .i64), (.int .i64), (.own (.int .i64)), (.own (.int .i64))]))), ((51, 81), (.agg (fs [(.int .i64), (.int .i64), (.own (.int .i64)), (.own (.int .i64))]))), ((88, 81), (.agg (fs [(.int .i64), (.int .i64), (.own (.int .i64)), (.own (.int .i64))]))), ((106, 81), (.agg (fs [(.int .i64), (.int .i64), (.own (.int .i64)), (.own (.int .i64))])))]
noncomputable def borrowT : List (Nat × TypeId) := [(25, 22), (30, 22), (32, 22), (37, 22)]
noncomputable def E1 : Env := {
  P := Go.Proofs.Try.prog
  ps := fun f => (psT.lookup f).getD .nil
  io := fun f => (ioT.lookup f).getD []
  rs := fun f => (rsT.lookup f).getD .nil
  caps := fun f => (capsT.lookup f).getD .nil
  hint := fun f p => (((hintT.lookup f).getD []).lookup p).getD .none
  ext := fun _ => none
  clone := fun f => List.lookup f [(119, 22), (123, 125)]
  deep := fun d t => List.lookup (d, t) deepT
  borrow := fun d t => List.contains borrowT (d, t)
  twin := fun d f => (List.lookup (d, f) []).getD 0 }
/-- A part of a code, by its way from the root. -/
def _root_.Go.Code.part : Code → List Nat → Code
  | .seq a b, d :: r => if d = 0 then a.part r else b.part r
  | .cond _ a b, d :: r => if d = 0 then a.part r else b.part r
  | .block _ a, _ :: r => a.part r
  | .loop a, _ :: r => a.part r
  | c, _ => c
noncomputable def bodyOf (f : Nat) : Code := match (E1.P.funcs[f]?).bind (·.body) with
  | some c => c
  | none => .skip
end
end Go.Proofs.YtofkhmedmeihiaaFi.Ev
