/- The evaluator's tables for the functions of this seat. Printed by gen.py. -/
import Derived.Test.YtffdfjilpleljaaFtEvY
import Derived.Test.YtffdfjilpleljaaProg
import Derived.KernelRfl
namespace Go.Proofs.YtffdfjilpleljaaFt.Ev
open Go
noncomputable section
def fs : List Ty → Ty
  | [] => .nil
  | a :: r => .cons a (fs r)
noncomputable def psT : List (Nat × Ty) := [
  (3, (fs [(.agg (fs [(.sl (.int .i64))])), (.sl (.agg (fs [(.int .i64), (.int .i64), (.sl (.int .i64)), (.sl (.int .i64))])))])),
  (7, (fs [(.agg (fs [(.sl (.int .i64))])), (.int .i64)])),
  (8, (fs [(.sl (.agg (fs [(.int .i64), (.int .i64), (.sl (.int .i64)), (.sl (.int .i64))]))), (.int .i64)])),
  (9, (fs [(.agg (fs [(.sl (.int .i64))])), (.sl (.agg (fs [(.int .i64), (.int .i64), (.sl (.int .i64)), (.sl (.int .i64))])))])),
  (10, (fs [(.agg (fs [(.sl (.int .i64))]))])),
  (11, (fs [(.sl (.agg (fs [(.int .i64), (.int .i64), (.sl (.int .i64)), (.sl (.int .i64))])))])),
  (12, (fs [(.agg (fs [(.sl (.int .i64))])), (.sl (.agg (fs [(.int .i64), (.int .i64), (.sl (.int .i64)), (.sl (.int .i64))])))])),
  (13, (fs [(.agg (fs [(.sl (.int .i64))])), (.agg (fs [(.sl (.int .i64))]))])),
  (14, (fs [(.sl (.agg (fs [(.int .i64), (.int .i64), (.sl (.int .i64)), (.sl (.int .i64))]))), (.sl (.agg (fs [(.int .i64), (.int .i64), (.sl (.int .i64)), (.sl (.int .i64))])))])),
  (37, (fs [(.sl (.int .i64))])),
  (40, (fs [(.sl (.int .i64)), (.sl (.int .i64))])),
  (41, (fs [(.sl (.int .i64)), (.int .i64)])),
  (42, (fs [(.agg (fs [(.int .i64), (.int .i64), (.sl (.int .i64)), (.sl (.int .i64))])), (.int .i64)])),
  (43, (fs [(.agg (fs [(.sl (.int .i64))])), (.sl (.agg (fs [(.int .i64), (.int .i64), (.sl (.int .i64)), (.sl (.int .i64))])))])),
  (44, (fs [(.agg (fs [(.sl (.int .i64))])), (.sl (.agg (fs [(.int .i64), (.int .i64), (.sl (.int .i64)), (.sl (.int .i64))]))), (.int .i64)])),
  (45, (fs [(.agg (fs [(.int .i64), (.int .i64), (.sl (.int .i64)), (.sl (.int .i64))]))])),
  (46, (fs [(.agg (fs [(.sl (.int .i64))])), (.sl (.agg (fs [(.int .i64), (.int .i64), (.sl (.int .i64)), (.sl (.int .i64))])))])),
  (47, (fs [.tree, (.agg (fs [(.sl (.int .i64))]))])),
  (48, (fs [(.agg (fs [(.int .i64), (.int .i64), (.sl (.int .i64)), (.sl (.int .i64))])), (.agg (fs [(.int .i64), (.int .i64), (.sl (.int .i64)), (.sl (.int .i64))]))])),
  (51, (fs [(.agg (fs [(.sl (.int .i64))])), (.sl (.int .i64))])),
  (53, (fs [(.agg (fs [(.sl (.int .i64))])), (.sl (.int .i64)), (.int .i64)])),
  (54, (fs [(.agg (fs [(.sl (.int .i64))]))])),
  (62, (fs [(.agg (fs [(.sl (.int .i64))]))])),
  (64, (fs [(.agg (fs [(.sl (.int .i64))])), (.sl (.int .i64))])),
  (67, (fs [(.agg (fs [(.sl (.int .i64))])), (.sl (.int .i64))])),
  (68, (fs [(.int .i64), (.int .i64), (.int .i64)])),
  (84, (fs [(.agg (fs [(.sl (.int .i64))])), (.sl (.agg (fs [(.int .i64), (.int .i64), (.sl (.int .i64)), (.sl (.int .i64))])))])),
  (92, (fs [(.int .i64)])),
  (93, (fs [(.sl (.agg (fs [(.int .i64), (.int .i64), (.sl (.int .i64)), (.sl (.int .i64))]))), (.int .i64)])),
  (94, (fs [(.agg (fs [(.sl (.int .i64))])), (.sl (.agg (fs [(.int .i64), (.int .i64), (.sl (.int .i64)), (.sl (.int .i64))])))])),
  (95, (fs [(.agg (fs [(.sl (.int .i64))])), (.own (.int .u8)), (.sl (.int .i64)), (.int .i64)])),
  (96, (fs [(.agg (fs [(.sl (.int .i64))])), (.sl (.int .i64)), (.int .i64)])),
  (98, (fs [(.int .i64)])),
  (103, (fs [(.sl (.int .i64)), (.int .i64), (.int .i64)])),
  (104, (fs [(.agg (fs [(.sl (.int .i64))])), (.sl (.int .i64)), (.int .i64)])),
  (106, (fs [(.agg (fs [(.sl (.int .i64))])), (.int .i64)])),
  (114, (fs [(.agg (fs [(.sl (.int .i64))])), (.agg (fs [(.int .i64), (.int .i64), (.sl (.int .i64)), (.sl (.int .i64))]))])),
  (115, (fs [(.int .i64)])),
  (121, (fs [(.agg (fs [(.sl (.int .i64))])), (.agg (fs [(.int .i64), (.int .i64), (.sl (.int .i64)), (.sl (.int .i64))]))])),
  (122, (fs [(.agg (fs [(.int .i64), (.int .i64), (.sl (.int .i64)), (.sl (.int .i64))]))])),
  (128, (fs [(.sl (.int .i64))])),
  (131, (fs [(.agg (fs [(.sl (.int .i64))])), (.sl (.int .i64))])),
  (132, (fs [(.own (.int .i64)), (.int .i64)])),
  (133, (fs [(.int .i64)])),
  (6488161, (fs [(.sl (.int .i64)), (.fn 98 (fs []))])),
  (6488188, (fs [(.sl (.int .i64)), (.fn 98 (fs []))])),
  (8781921, (fs [(.sl (.int .i64)), (.fn 133 (fs []))])),
  (8781948, (fs [(.sl (.int .i64)), (.fn 133 (fs []))]))]
noncomputable def ioT : List (Nat × List Bool) := [
  (3, [false, false]),
  (7, [false, false]),
  (8, [false, false]),
  (9, [false, false]),
  (10, [false]),
  (11, [false]),
  (12, [false, false]),
  (13, [false, false]),
  (14, [false, false]),
  (37, [false]),
  (40, [false, false]),
  (41, [false, false]),
  (42, [false, false]),
  (43, [false, false]),
  (44, [false, false, false]),
  (45, [false]),
  (46, [false, false]),
  (47, [false, false]),
  (48, [false, false]),
  (51, [false, false]),
  (53, [false, false, false]),
  (54, [false]),
  (62, [false]),
  (64, [false, false]),
  (67, [false, false]),
  (68, [false, false, false]),
  (84, [false, false]),
  (92, [false]),
  (93, [false, false]),
  (94, [false, false]),
  (95, [false, false, false, false]),
  (96, [false, false, false]),
  (98, [false]),
  (103, [false, false, false]),
  (104, [false, false, false]),
  (106, [false, false]),
  (114, [false, false]),
  (115, [false]),
  (121, [false, false]),
  (122, [false]),
  (128, [false]),
  (131, [false, false]),
  (132, [false, false]),
  (133, [false]),
  (6488161, [false, false]),
  (6488188, [false, false]),
  (8781921, [false, false]),
  (8781948, [false, false])]
noncomputable def rsT : List (Nat × Ty) := [
  (3, (fs [.bool])),
  (7, (fs [(.int .i64)])),
  (8, (fs [(.int .i64)])),
  (9, (fs [.str, .bool])),
  (10, (fs [(.agg (fs [(.own (.int .i64))]))])),
  (11, (fs [(.own (.agg (fs [(.int .i64), (.int .i64), (.sl (.int .i64)), (.sl (.int .i64))])))])),
  (12, (fs [.str, .bool])),
  (13, (fs [.bool])),
  (14, (fs [.bool])),
  (37, (fs [(.own (.int .i64))])),
  (40, (fs [.bool])),
  (41, (fs [(.int .i64)])),
  (42, (fs [(.int .i64)])),
  (43, (fs [.bool])),
  (44, (fs [.str])),
  (45, (fs [(.agg (fs [(.int .i64), (.int .i64), (.own (.int .i64)), (.own (.int .i64))]))])),
  (46, (fs [.tree, .bool])),
  (47, (fs [.str])),
  (48, (fs [.bool])),
  (51, (fs [.str])),
  (53, (fs [.str])),
  (54, (fs [.bool])),
  (62, (fs [.bool])),
  (64, (fs [.bool])),
  (67, (fs [.bool])),
  (68, (fs [.bool])),
  (84, (fs [.bool])),
  (92, (fs [.str])),
  (93, (fs [(.int .i64)])),
  (94, (fs [.tree, .bool])),
  (95, (fs [(.own (.int .u8)), (.int .i64)])),
  (96, (fs [(.own (.int .i64))])),
  (98, (fs [.bool])),
  (103, (fs [.bool])),
  (104, (fs [(.int .i64)])),
  (106, (fs [(.int .i64)])),
  (114, (fs [.bool])),
  (115, (fs [(.int .i64)])),
  (121, (fs [.bool])),
  (122, (fs [(.int .i64)])),
  (128, (fs [(.own (.int .i64))])),
  (131, (fs [.bool])),
  (132, (fs [(.own (.int .i64))])),
  (133, (fs [.bool])),
  (6488161, (fs [.bool])),
  (6488188, (fs [(.int .i64)])),
  (8781921, (fs [.bool])),
  (8781948, (fs [(.int .i64)]))]
noncomputable def capsT : List (Nat × Ty) := [
  (109, (fs [(.ptr (.agg (fs [(.sl (.int .i64))])))])),
  (129, (fs [(.ptr (.int .i64))]))]
noncomputable def hintT : List (Nat × List (Nat × Hint)) := [
  (8, [(122, (.loop { key := 244, ht := [0, 1, 5], hτ := (fs [(.sl (.agg (fs [(.int .i64), (.int .i64), (.sl (.int .i64)), (.sl (.int .i64))]))), (.int .i64), (.int .i64)]), ex := 0, ot := [1], oτ := (fs [(.int .i64)]) }))]),
  (11, [(58, (.loop { key := 116, ht := [0, 3, 4], hτ := (fs [(.sl (.agg (fs [(.int .i64), (.int .i64), (.sl (.int .i64)), (.sl (.int .i64))]))), (.own (.agg (fs [(.int .i64), (.int .i64), (.sl (.int .i64)), (.sl (.int .i64))]))), (.int .i64)]), ex := 0, ot := [3], oτ := (fs [(.own (.agg (fs [(.int .i64), (.int .i64), (.sl (.int .i64)), (.sl (.int .i64))])))]) }))]),
  (14, [(58, (.loop { key := 116, ht := [0, 1, 5], hτ := (fs [(.sl (.agg (fs [(.int .i64), (.int .i64), (.sl (.int .i64)), (.sl (.int .i64))]))), (.sl (.agg (fs [(.int .i64), (.int .i64), (.sl (.int .i64)), (.sl (.int .i64))]))), (.int .i64)]), ex := 0, ot := [], oτ := (fs []) }))]),
  (37, [(58, (.loop { key := 116, ht := [0, 3, 4], hτ := (fs [(.sl (.int .i64)), (.own (.int .i64)), (.int .i64)]), ex := 0, ot := [3], oτ := (fs [(.own (.int .i64))]) }))]),
  (40, [(58, (.loop { key := 116, ht := [0, 1, 5], hτ := (fs [(.sl (.int .i64)), (.sl (.int .i64)), (.int .i64)]), ex := 0, ot := [], oτ := (fs []) }))]),
  (44, [(31, (.cut [1, 2, 3, 8] (fs [(.sl (.agg (fs [(.int .i64), (.int .i64), (.sl (.int .i64)), (.sl (.int .i64))]))), (.int .i64), (.box (.agg (fs [(.sl (.int .i64))]))), .str]) true))]),
  (53, [(31, (.cut [7] (fs [.str]) true)), (122, (.loop { key := 244, ht := [1, 2, 3, 7, 35, 36, 37], hτ := (fs [(.sl (.int .i64)), (.int .i64), (.box (.agg (fs [(.sl (.int .i64))]))), .str, (.own (.int .i64)), (.int .i64), (.int .i64)]), ex := 0, ot := [1, 2, 3, 7], oτ := (fs [(.sl (.int .i64)), (.int .i64), (.box (.agg (fs [(.sl (.int .i64))]))), .str]) })), (7833, (.cut [1, 2, 3, 7, 9, 35, 36, 37] (fs [(.sl (.int .i64)), (.int .i64), (.box (.agg (fs [(.sl (.int .i64))]))), .str, (.int .i64), (.own (.int .i64)), (.int .i64), (.int .i64)]) true))]),
  (67, [(122, (.loop { key := 244, ht := [2, 5, 11, 12, 13], hτ := (fs [(.box (.agg (fs [(.sl (.int .i64))]))), (.int .i64), (.sl (.int .i64)), (.int .i64), (.int .i64)]), ex := 0, ot := [5], oτ := (fs [(.int .i64)]) }))]),
  (84, [(122, (.loop { key := 244, ht := [2, 5, 12, 13, 14], hτ := (fs [(.box (.agg (fs [(.sl (.int .i64))]))), (.int .i64), (.sl (.agg (fs [(.int .i64), (.int .i64), (.sl (.int .i64)), (.sl (.int .i64))]))), (.int .i64), (.int .i64)]), ex := 0, ot := [5], oτ := (fs [(.int .i64)]) }))]),
  (93, [(60, (.loop { key := 120, ht := [0, 5, 6], hτ := (fs [(.sl (.agg (fs [(.int .i64), (.int .i64), (.sl (.int .i64)), (.sl (.int .i64))]))), (.int .i64), (.int .i64)]), ex := 0, ot := [6], oτ := (fs [(.int .i64)]) }))]),
  (94, [(122, (.loop { key := 244, ht := [2, 6, 14, 15, 16], hτ := (fs [(.box (.agg (fs [(.sl (.int .i64))]))), (.own .tree), (.sl (.agg (fs [(.int .i64), (.int .i64), (.sl (.int .i64)), (.sl (.int .i64))]))), (.int .i64), (.int .i64)]), ex := 0, ot := [6], oτ := (fs [(.own .tree)]) }))]),
  (95, [(127, (.cut [1, 11] (fs [(.own (.int .u8)), (.int .i64)]) true)), (506, (.loop { key := 1012, ht := [1, 2, 4, 10, 11, 39, 40], hτ := (fs [(.own (.int .u8)), (.sl (.int .i64)), (.box (.agg (fs [(.sl (.int .i64))]))), (.int .i64), (.int .i64), (.int .i64), (.int .i64)]), ex := 0, ot := [1, 4, 10, 11], oτ := (fs [(.own (.int .u8)), (.box (.agg (fs [(.sl (.int .i64))]))), (.int .i64), (.int .i64)]) })), (64819, (.cut [1, 2, 4, 10, 11, 13, 39, 40] (fs [(.own (.int .u8)), (.sl (.int .i64)), (.box (.agg (fs [(.sl (.int .i64))]))), (.int .i64), (.int .i64), (.int .u8), (.int .i64), (.int .i64)]) true))]),
  (96, [(250, (.loop { key := 500, ht := [1, 3, 7, 8, 9], hτ := (fs [(.sl (.int .i64)), (.box (.agg (fs [(.sl (.int .i64))]))), (.own (.int .i64)), (.int .i64), (.int .i64)]), ex := 0, ot := [7], oτ := (fs [(.own (.int .i64))]) }))]),
  (103, [(26, (.loop { key := 52, ht := [1, 2, 9, 10, 11], hτ := (fs [(.int .i64), (.int .i64), (.sl (.int .i64)), (.int .i64), (.int .i64)]), ex := 0, ot := [], oτ := (fs []) }))]),
  (104, [(28, (.loop { key := 56, ht := [1, 2, 3, 7], hτ := (fs [(.sl (.int .i64)), (.int .i64), (.box (.agg (fs [(.sl (.int .i64))]))), (.int .i64)]), ex := 0, ot := [2], oτ := (fs [(.int .i64)]) })), (907, (.cut [1, 2, 3, 7] (fs [(.sl (.int .i64)), (.int .i64), (.box (.agg (fs [(.sl (.int .i64))]))), (.int .i64)]) true))]),
  (115, [(107, (.cut [3, 6] (fs [(.int .i64), .bool]) true)), (431, (.cut [10] (fs [.bool]) true))]),
  (121, [(107, (.cut [3, 6, 24] (fs [(.box (.agg (fs [(.int .i64), (.int .i64), (.sl (.int .i64)), (.sl (.int .i64))]))), (.int .i64), .bool]) true)), (431, (.cut [3, 47] (fs [(.box (.agg (fs [(.int .i64), (.int .i64), (.sl (.int .i64)), (.sl (.int .i64))]))), .bool]) true))]),
  (122, [(107, (.cut [7] (fs [.bool]) true))]),
  (128, [(58, (.loop { key := 116, ht := [3, 6, 7, 8], hτ := (fs [(.own (.int .i64)), (.sl (.int .i64)), (.int .i64), (.int .i64)]), ex := 0, ot := [3], oτ := (fs [(.own (.int .i64))]) })), (467, (.cut [3, 6, 7, 8] (fs [(.own (.int .i64)), (.sl (.int .i64)), (.int .i64), (.int .i64)]) true))]),
  (132, [(28, (.loop { key := 56, ht := [0, 1, 5], hτ := (fs [(.own (.int .i64)), (.int .i64), (.int .i64)]), ex := 0, ot := [0, 1, 5], oτ := (fs [(.own (.int .i64)), (.int .i64), (.int .i64)]) }))]),
  (6488188, [(26, (.loop { key := 52, ht := [0, 1, 7, 8], hτ := (fs [(.sl (.int .i64)), (.fn 98 (fs [])), (.int .i64), (.int .i64)]), ex := 0, ot := [], oτ := (fs []) }))]),
  (8781948, [(26, (.loop { key := 52, ht := [0, 1, 7, 8], hτ := (fs [(.sl (.int .i64)), (.fn 133 (fs [])), (.int .i64), (.int .i64)]), ex := 0, ot := [], oτ := (fs []) }))])]
noncomputable def E1 : Env := {
  P := Go.Proofs.Try.prog
  ps := fun f => (psT.lookup f).getD .nil
  io := fun f => (ioT.lookup f).getD []
  rs := fun f => (rsT.lookup f).getD .nil
  caps := fun f => (capsT.lookup f).getD .nil
  hint := fun f p => (((hintT.lookup f).getD []).lookup p).getD .none
  ext := fun _ => none
  clone := fun f => List.lookup f [(123, 125)] }
/-- A part of a code, by its way from the root. -/
def _root_.Go.Code.part : Code → List Nat → Code
  | .seq a b, d :: r => if d = 0 then a.part r else b.part r
  | .cond _ a b, d :: r => if d = 0 then a.part r else b.part r
  | .block _ a, _ :: r => a.part r
  | .loop a, _ :: r => a.part r
  | c, _ => c
noncomputable def bodyOf (f : Nat) : Code := match (E1.P.funcs[f]?).bind (·.body) with
  | some c => c
  | none => .skip
end
end Go.Proofs.YtffdfjilpleljaaFt.Ev
