/- The evaluator's tables for the functions of this seat. Printed by gen.py. -/
import Derived.Test.YtejklhcalinhpaaIpEvY
import Derived.Test.YtejklhcalinhpaaProg
import Derived.KernelRfl
namespace Go.Proofs.YtejklhcalinhpaaIp.Ev
open Go
noncomputable section
def fs : List Ty → Ty
  | [] => .nil
  | a :: r => .cons a (fs r)
noncomputable def psT : List (Nat × Ty) := [
  (8, (fs [(.agg (fs [(.sl (.int .i64))])), (.sl (.agg (fs [(.int .i64), (.int .i64), (.sl (.int .i64)), (.sl (.int .i64))])))])),
  (11, (fs [(.agg (fs [(.sl (.int .i64))])), (.int .i64)])),
  (14, (fs [(.agg (fs [(.sl (.int .i64))]))])),
  (18, (fs [(.agg (fs [(.sl (.int .i64))])), (.agg (fs [(.sl (.int .i64))]))])),
  (27, (fs [(.sl (.agg (fs [(.int .i64), (.int .i64), (.sl (.int .i64)), (.sl (.int .i64))]))), (.int .i64)])),
  (28, (fs [(.agg (fs [(.sl (.int .i64))])), (.sl (.agg (fs [(.int .i64), (.int .i64), (.sl (.int .i64)), (.sl (.int .i64))])))])),
  (29, (fs [(.sl (.agg (fs [(.int .i64), (.int .i64), (.sl (.int .i64)), (.sl (.int .i64))])))])),
  (30, (fs [(.agg (fs [(.sl (.int .i64))])), (.sl (.agg (fs [(.int .i64), (.int .i64), (.sl (.int .i64)), (.sl (.int .i64))])))])),
  (31, (fs [(.sl (.agg (fs [(.int .i64), (.int .i64), (.sl (.int .i64)), (.sl (.int .i64))]))), (.sl (.agg (fs [(.int .i64), (.int .i64), (.sl (.int .i64)), (.sl (.int .i64))])))])),
  (51, (fs [(.agg (fs [(.sl (.int .i64))])), (.sl (.agg (fs [(.int .i64), (.int .i64), (.sl (.int .i64)), (.sl (.int .i64))])))])),
  (52, (fs [(.agg (fs [(.sl (.int .i64))])), (.sl (.agg (fs [(.int .i64), (.int .i64), (.sl (.int .i64)), (.sl (.int .i64))])))])),
  (54, (fs [(.sl (.int .i64)), (.int .i64)])),
  (57, (fs [(.int .i64), (.int .i64), (.int .i64)])),
  (59, (fs [(.sl (.int .i64))])),
  (64, (fs [(.sl (.int .i64)), (.sl (.int .i64))])),
  (75, (fs [(.agg (fs [(.int .i64), (.int .i64), (.sl (.int .i64)), (.sl (.int .i64))])), (.int .i64)])),
  (76, (fs [(.agg (fs [(.sl (.int .i64))]))])),
  (77, (fs [(.agg (fs [(.sl (.int .i64))])), (.sl (.agg (fs [(.int .i64), (.int .i64), (.sl (.int .i64)), (.sl (.int .i64))])))])),
  (78, (fs [(.agg (fs [(.int .i64), (.int .i64), (.sl (.int .i64)), (.sl (.int .i64))]))])),
  (79, (fs [(.agg (fs [(.sl (.int .i64))])), (.sl (.agg (fs [(.int .i64), (.int .i64), (.sl (.int .i64)), (.sl (.int .i64))])))])),
  (80, (fs [(.agg (fs [(.int .i64), (.int .i64), (.sl (.int .i64)), (.sl (.int .i64))])), (.agg (fs [(.int .i64), (.int .i64), (.sl (.int .i64)), (.sl (.int .i64))]))])),
  (96, (fs [(.sl (.agg (fs [(.int .i64), (.int .i64), (.sl (.int .i64)), (.sl (.int .i64))])))])),
  (97, (fs [(.sl (.agg (fs [(.int .i64), (.int .i64), (.sl (.int .i64)), (.sl (.int .i64))])))])),
  (99, (fs [(.agg (fs [(.sl (.int .i64))]))])),
  (106, (fs [(.sl (.int .i64)), (.int .i64), (.int .i64)])),
  (107, (fs [(.agg (fs [(.sl (.int .i64))])), (.agg (fs [(.int .i64), (.int .i64), (.sl (.int .i64)), (.sl (.int .i64))]))])),
  (108, (fs [(.int .i64)])),
  (109, (fs [(.agg (fs [(.sl (.int .i64))])), (.sl (.agg (fs [(.int .i64), (.int .i64), (.sl (.int .i64)), (.sl (.int .i64))])))])),
  (114, (fs [(.int .i64)])),
  (124, (fs [(.agg (fs [(.sl (.int .i64))])), (.sl (.int .i64))])),
  (125, (fs [(.sl (.int .i64))])),
  (126, (fs [(.agg (fs [(.sl (.int .i64))])), (.agg (fs [(.int .i64), (.int .i64), (.sl (.int .i64)), (.sl (.int .i64))]))])),
  (127, (fs [(.agg (fs [(.int .i64), (.int .i64), (.sl (.int .i64)), (.sl (.int .i64))]))])),
  (131, (fs [(.agg (fs [(.sl (.int .i64))])), (.sl (.int .i64)), (.int .i64)])),
  (133, (fs [(.agg (fs [(.sl (.int .i64))])), (.sl (.int .i64))])),
  (134, (fs [(.agg (fs [(.sl (.int .i64))])), (.int .i64)])),
  (135, (fs [(.own (.int .i64)), (.int .i64)])),
  (136, (fs [(.agg (fs [(.sl (.int .i64))])), (.sl (.int .i64))])),
  (137, (fs [(.int .i64)])),
  (7536753, (fs [(.sl (.int .i64)), (.fn 114 (fs []))])),
  (7536769, (fs [(.sl (.int .i64)), (.fn 114 (fs []))])),
  (9044081, (fs [(.sl (.int .i64)), (.fn 137 (fs []))])),
  (9044097, (fs [(.sl (.int .i64)), (.fn 137 (fs []))]))]
noncomputable def ioT : List (Nat × List Bool) := [
  (8, [false, false]),
  (11, [false, false]),
  (14, [false]),
  (18, [false, false]),
  (27, [false, false]),
  (28, [false, false]),
  (29, [false]),
  (30, [false, false]),
  (31, [false, false]),
  (51, [false, false]),
  (52, [false, false]),
  (54, [false, false]),
  (57, [false, false, false]),
  (59, [false]),
  (64, [false, false]),
  (75, [false, false]),
  (76, [false]),
  (77, [false, false]),
  (78, [false]),
  (79, [false, false]),
  (80, [false, false]),
  (96, [false]),
  (97, [false]),
  (99, [false]),
  (106, [false, false, false]),
  (107, [false, false]),
  (108, [false]),
  (109, [false, false]),
  (114, [false]),
  (124, [false, false]),
  (125, [false]),
  (126, [false, false]),
  (127, [false]),
  (131, [false, false, false]),
  (133, [false, false]),
  (134, [false, false]),
  (135, [false, false]),
  (136, [false, false]),
  (137, [false]),
  (7536753, [false, false]),
  (7536769, [false, false]),
  (9044081, [false, false]),
  (9044097, [false, false])]
noncomputable def rsT : List (Nat × Ty) := [
  (8, (fs [.bool])),
  (11, (fs [(.int .i64)])),
  (14, (fs [(.agg (fs [(.own (.int .i64))]))])),
  (18, (fs [.bool])),
  (27, (fs [(.int .i64)])),
  (28, (fs [.bool])),
  (29, (fs [(.own (.agg (fs [(.int .i64), (.int .i64), (.sl (.int .i64)), (.sl (.int .i64))])))])),
  (30, (fs [.bool])),
  (31, (fs [.bool])),
  (51, (fs [.bool, .bool])),
  (52, (fs [.bool, .bool])),
  (54, (fs [(.int .i64)])),
  (57, (fs [.bool])),
  (59, (fs [(.own (.int .i64))])),
  (64, (fs [.bool])),
  (75, (fs [(.int .i64)])),
  (76, (fs [.bool])),
  (77, (fs [.bool])),
  (78, (fs [(.agg (fs [(.int .i64), (.int .i64), (.own (.int .i64)), (.own (.int .i64))]))])),
  (79, (fs [.tree, .bool])),
  (80, (fs [.bool])),
  (96, (fs [.bool])),
  (97, (fs [.bool])),
  (99, (fs [.bool])),
  (106, (fs [.bool])),
  (107, (fs [.bool])),
  (108, (fs [(.int .i64)])),
  (109, (fs [.tree, .bool])),
  (114, (fs [.bool])),
  (124, (fs [.bool])),
  (125, (fs [(.own (.int .i64))])),
  (126, (fs [.bool])),
  (127, (fs [(.int .i64)])),
  (131, (fs [(.int .i64)])),
  (133, (fs [.bool])),
  (134, (fs [(.int .i64)])),
  (135, (fs [(.own (.int .i64))])),
  (136, (fs [.bool])),
  (137, (fs [.bool])),
  (7536753, (fs [.bool])),
  (7536769, (fs [(.int .i64)])),
  (9044081, (fs [.bool])),
  (9044097, (fs [(.int .i64)]))]
noncomputable def capsT : List (Nat × Ty) := [
  (121, (fs [(.ptr (.agg (fs [(.sl (.int .i64))])))])),
  (130, (fs [(.ptr (.int .i64))]))]
noncomputable def hintT : List (Nat × List (Nat × Hint)) := [
  (27, [(122, (.loop { key := 244, ht := [0, 1, 5], hτ := (fs [(.sl (.agg (fs [(.int .i64), (.int .i64), (.sl (.int .i64)), (.sl (.int .i64))]))), (.int .i64), (.int .i64)]), ex := 0, ot := [1], oτ := (fs [(.int .i64)]) }))]),
  (29, [(58, (.loop { key := 116, ht := [0, 3, 4], hτ := (fs [(.sl (.agg (fs [(.int .i64), (.int .i64), (.sl (.int .i64)), (.sl (.int .i64))]))), (.own (.agg (fs [(.int .i64), (.int .i64), (.sl (.int .i64)), (.sl (.int .i64))]))), (.int .i64)]), ex := 0, ot := [3], oτ := (fs [(.own (.agg (fs [(.int .i64), (.int .i64), (.sl (.int .i64)), (.sl (.int .i64))])))]) }))]),
  (31, [(58, (.loop { key := 116, ht := [0, 1, 5], hτ := (fs [(.sl (.agg (fs [(.int .i64), (.int .i64), (.sl (.int .i64)), (.sl (.int .i64))]))), (.sl (.agg (fs [(.int .i64), (.int .i64), (.sl (.int .i64)), (.sl (.int .i64))]))), (.int .i64)]), ex := 0, ot := [], oτ := (fs []) }))]),
  (59, [(58, (.loop { key := 116, ht := [0, 3, 4], hτ := (fs [(.sl (.int .i64)), (.own (.int .i64)), (.int .i64)]), ex := 0, ot := [3], oτ := (fs [(.own (.int .i64))]) }))]),
  (64, [(58, (.loop { key := 116, ht := [0, 1, 5], hτ := (fs [(.sl (.int .i64)), (.sl (.int .i64)), (.int .i64)]), ex := 0, ot := [], oτ := (fs []) }))]),
  (77, [(122, (.loop { key := 244, ht := [2, 5, 12, 13, 14], hτ := (fs [(.box (.agg (fs [(.sl (.int .i64))]))), (.int .i64), (.sl (.agg (fs [(.int .i64), (.int .i64), (.sl (.int .i64)), (.sl (.int .i64))]))), (.int .i64), (.int .i64)]), ex := 0, ot := [5], oτ := (fs [(.int .i64)]) }))]),
  (96, [(26, (.loop { key := 52, ht := [0, 5, 6, 7], hτ := (fs [(.sl (.agg (fs [(.int .i64), (.int .i64), (.sl (.int .i64)), (.sl (.int .i64))]))), (.sl (.agg (fs [(.int .i64), (.int .i64), (.sl (.int .i64)), (.sl (.int .i64))]))), (.int .i64), (.int .i64)]), ex := 0, ot := [], oτ := (fs []) }))]),
  (97, [(26, (.loop { key := 52, ht := [0, 5, 6, 7], hτ := (fs [(.sl (.agg (fs [(.int .i64), (.int .i64), (.sl (.int .i64)), (.sl (.int .i64))]))), (.sl (.agg (fs [(.int .i64), (.int .i64), (.sl (.int .i64)), (.sl (.int .i64))]))), (.int .i64), (.int .i64)]), ex := 0, ot := [], oτ := (fs []) }))]),
  (106, [(26, (.loop { key := 52, ht := [1, 2, 9, 10, 11], hτ := (fs [(.int .i64), (.int .i64), (.sl (.int .i64)), (.int .i64), (.int .i64)]), ex := 0, ot := [], oτ := (fs []) }))]),
  (108, [(107, (.cut [3, 6] (fs [(.int .i64), .bool]) true)), (431, (.cut [10] (fs [.bool]) true))]),
  (109, [(122, (.loop { key := 244, ht := [2, 6, 14, 15, 16], hτ := (fs [(.box (.agg (fs [(.sl (.int .i64))]))), (.own .tree), (.sl (.agg (fs [(.int .i64), (.int .i64), (.sl (.int .i64)), (.sl (.int .i64))]))), (.int .i64), (.int .i64)]), ex := 0, ot := [6], oτ := (fs [(.own .tree)]) }))]),
  (125, [(58, (.loop { key := 116, ht := [3, 6, 7, 8], hτ := (fs [(.own (.int .i64)), (.sl (.int .i64)), (.int .i64), (.int .i64)]), ex := 0, ot := [3], oτ := (fs [(.own (.int .i64))]) })), (467, (.cut [3, 6, 7, 8] (fs [(.own (.int .i64)), (.sl (.int .i64)), (.int .i64), (.int .i64)]) true))]),
  (126, [(107, (.cut [3, 6, 24] (fs [(.box (.agg (fs [(.int .i64), (.int .i64), (.sl (.int .i64)), (.sl (.int .i64))]))), (.int .i64), .bool]) true)), (431, (.cut [3, 47] (fs [(.box (.agg (fs [(.int .i64), (.int .i64), (.sl (.int .i64)), (.sl (.int .i64))]))), .bool]) true))]),
  (127, [(107, (.cut [7] (fs [.bool]) true))]),
  (131, [(28, (.loop { key := 56, ht := [1, 2, 3, 7], hτ := (fs [(.sl (.int .i64)), (.int .i64), (.box (.agg (fs [(.sl (.int .i64))]))), (.int .i64)]), ex := 0, ot := [2], oτ := (fs [(.int .i64)]) })), (907, (.cut [1, 2, 3, 7] (fs [(.sl (.int .i64)), (.int .i64), (.box (.agg (fs [(.sl (.int .i64))]))), (.int .i64)]) true))]),
  (133, [(122, (.loop { key := 244, ht := [2, 5, 11, 12, 13], hτ := (fs [(.box (.agg (fs [(.sl (.int .i64))]))), (.int .i64), (.sl (.int .i64)), (.int .i64), (.int .i64)]), ex := 0, ot := [5], oτ := (fs [(.int .i64)]) }))]),
  (135, [(28, (.loop { key := 56, ht := [0, 1, 5], hτ := (fs [(.own (.int .i64)), (.int .i64), (.int .i64)]), ex := 0, ot := [0, 1, 5], oτ := (fs [(.own (.int .i64)), (.int .i64), (.int .i64)]) }))]),
  (7536769, [(26, (.loop { key := 52, ht := [0, 1, 7, 8], hτ := (fs [(.sl (.int .i64)), (.fn 114 (fs [])), (.int .i64), (.int .i64)]), ex := 0, ot := [], oτ := (fs []) }))]),
  (9044097, [(26, (.loop { key := 52, ht := [0, 1, 7, 8], hτ := (fs [(.sl (.int .i64)), (.fn 137 (fs [])), (.int .i64), (.int .i64)]), ex := 0, ot := [], oτ := (fs []) }))])]
noncomputable def E1 : Env := {
  P := Go.Proofs.Try.prog
  ps := fun f => (psT.lookup f).getD .nil
  io := fun f => (ioT.lookup f).getD []
  rs := fun f => (rsT.lookup f).getD .nil
  caps := fun f => (capsT.lookup f).getD .nil
  hint := fun f p => (((hintT.lookup f).getD []).lookup p).getD .none
  ext := fun _ => none
  clone := fun f => List.lookup f [(128, 133)] }
/-- A part of a code, by its way from the root. -/
def _root_.Go.Code.part : Code → List Nat → Code
  | .seq a b, d :: r => if d = 0 then a.part r else b.part r
  | .cond _ a b, d :: r => if d = 0 then a.part r else b.part r
  | .block _ a, _ :: r => a.part r
  | .loop a, _ :: r => a.part r
  | c, _ => c
noncomputable def bodyOf (f : Nat) : Code := match (E1.P.funcs[f]?).bind (·.body) with
  | some c => c
  | none => .skip
end
end Go.Proofs.YtejklhcalinhpaaIp.Ev
