/- The evaluator's tables for the functions of this seat. Printed by gen.py. -/
import Derived.Test.YtejklhcalinhpaaOwEvY
import Derived.Test.YtejklhcalinhpaaProg
import Derived.KernelRfl
namespace Go.Proofs.YtejklhcalinhpaaOw.Ev
open Go
noncomputable section
def fs : List Ty → Ty
  | [] => .nil
  | a :: r => .cons a (fs r)
noncomputable def psT : List (Nat × Ty) := [
  (4, (fs [(.agg (fs [(.sl (.int .i64))])), (.agg (fs [(.int .i64), (.sl (.sl (.int .i64)))])), (.int .i64)])),
  (11, (fs [(.agg (fs [(.sl (.int .i64))])), (.int .i64)])),
  (12, (fs [(.agg (fs [(.int .i64), (.sl (.sl (.int .i64)))])), (.int .i64)])),
  (13, (fs [(.agg (fs [(.sl (.int .i64))])), (.agg (fs [(.int .i64), (.sl (.sl (.int .i64)))])), (.int .i64)])),
  (14, (fs [(.agg (fs [(.sl (.int .i64))]))])),
  (15, (fs [(.agg (fs [(.int .i64), (.sl (.sl (.int .i64)))]))])),
  (16, (fs [(.agg (fs [(.sl (.int .i64))])), (.agg (fs [(.int .i64), (.sl (.sl (.int .i64)))])), (.int .i64)])),
  (17, (fs [(.agg (fs [(.int .i64), (.sl (.sl (.int .i64)))])), (.agg (fs [(.int .i64), (.sl (.sl (.int .i64)))]))])),
  (18, (fs [(.agg (fs [(.sl (.int .i64))])), (.agg (fs [(.sl (.int .i64))]))])),
  (19, (fs [(.agg (fs [(.own (.int .i64))])), (.int .i64)])),
  (20, (fs [(.agg (fs [(.int .i64), (.own (.own (.int .i64)))])), (.int .i64)])),
  (21, (fs [(.agg (fs [(.int .i64), (.sl (.sl (.int .i64)))])), (.int .i64)])),
  (54, (fs [(.sl (.int .i64)), (.int .i64)])),
  (55, (fs [(.sl (.sl (.int .i64))), (.int .i64)])),
  (56, (fs [(.agg (fs [(.sl (.int .i64))])), (.agg (fs [(.int .i64), (.sl (.sl (.int .i64)))]))])),
  (57, (fs [(.int .i64), (.int .i64), (.int .i64)])),
  (58, (fs [(.sl (.int .i64))])),
  (59, (fs [(.sl (.int .i64))])),
  (60, (fs [(.sl (.sl (.int .i64)))])),
  (61, (fs [(.agg (fs [(.sl (.int .i64))])), (.agg (fs [(.int .i64), (.sl (.sl (.int .i64)))]))])),
  (63, (fs [(.sl (.sl (.int .i64))), (.sl (.sl (.int .i64)))])),
  (64, (fs [(.sl (.int .i64)), (.sl (.int .i64))])),
  (65, (fs [(.own (.int .i64)), (.int .i64)])),
  (66, (fs [(.own (.own (.int .i64))), (.int .i64)])),
  (67, (fs [(.sl (.sl (.int .i64))), (.int .i64)])),
  (76, (fs [(.agg (fs [(.sl (.int .i64))]))])),
  (98, (fs [(.agg (fs [(.sl (.int .i64))])), (.agg (fs [(.int .i64), (.sl (.sl (.int .i64)))]))])),
  (99, (fs [(.agg (fs [(.sl (.int .i64))]))])),
  (100, (fs [(.agg (fs [(.sl (.int .i64))])), (.agg (fs [(.int .i64), (.sl (.sl (.int .i64)))]))])),
  (101, (fs [(.sl (.int .i64)), (.int .i64)])),
  (106, (fs [(.sl (.int .i64)), (.int .i64), (.int .i64)])),
  (112, (fs [(.int .i64), (.int .i64)])),
  (114, (fs [(.int .i64)])),
  (115, (fs [(.int .i64)])),
  (116, (fs [(.int .i64), (.int .i64)])),
  (117, (fs [(.int .i64), (.sl (.int .i64))])),
  (130, (fs [(.int .i64), (.ptr (.int .i64))])),
  (7536753, (fs [(.sl (.int .i64)), (.fn 114 (fs []))])),
  (7536769, (fs [(.sl (.int .i64)), (.fn 114 (fs []))])),
  (8585329, (fs [(.sl (.int .i64)), (.fn 130 (fs [(.ptr (.int .i64))]))])),
  (8585345, (fs [(.sl (.int .i64)), (.fn 130 (fs [(.ptr (.int .i64))]))]))]
noncomputable def ioT : List (Nat × List Bool) := [
  (4, [false, false, false]),
  (11, [false, false]),
  (12, [false, false]),
  (13, [false, false, false]),
  (14, [false]),
  (15, [false]),
  (16, [false, false, false]),
  (17, [false, false]),
  (18, [false, false]),
  (19, [true, false]),
  (20, [true, false]),
  (21, [false, false]),
  (54, [false, false]),
  (55, [false, false]),
  (56, [false, false]),
  (57, [false, false, false]),
  (58, [false]),
  (59, [false]),
  (60, [false]),
  (61, [false, false]),
  (63, [false, false]),
  (64, [false, false]),
  (65, [true, false]),
  (66, [true, false]),
  (67, [false, false]),
  (76, [false]),
  (98, [false, false]),
  (99, [false]),
  (100, [false, false]),
  (101, [false, false]),
  (106, [false, false, false]),
  (112, [false, false]),
  (114, [false]),
  (115, [false]),
  (116, [false, false]),
  (117, [false, false]),
  (130, [false, false]),
  (7536753, [false, false]),
  (7536769, [false, false]),
  (8585329, [false, false]),
  (8585345, [false, false])]
noncomputable def rsT : List (Nat × Ty) := [
  (4, (fs [.bool])),
  (11, (fs [(.int .i64)])),
  (12, (fs [(.int .i64)])),
  (13, (fs [(.agg (fs [(.int .i64), (.own (.sl (.int .i64)))])), .bool])),
  (14, (fs [(.agg (fs [(.own (.int .i64))]))])),
  (15, (fs [(.agg (fs [(.int .i64), (.own (.own (.int .i64)))]))])),
  (16, (fs [(.agg (fs [(.int .i64), (.own (.own (.int .i64)))])), .bool])),
  (17, (fs [.bool])),
  (18, (fs [.bool])),
  (19, (fs [(.int .i64)])),
  (20, (fs [(.int .i64)])),
  (21, (fs [(.int .i64)])),
  (54, (fs [(.int .i64)])),
  (55, (fs [(.int .i64)])),
  (56, (fs [.bool])),
  (57, (fs [.bool])),
  (58, (fs [(.own (.int .i64))])),
  (59, (fs [(.own (.int .i64))])),
  (60, (fs [(.own (.own (.int .i64)))])),
  (61, (fs [.bool])),
  (63, (fs [.bool])),
  (64, (fs [.bool])),
  (65, (fs [(.int .i64)])),
  (66, (fs [(.int .i64)])),
  (67, (fs [(.int .i64)])),
  (76, (fs [.bool])),
  (98, (fs [.bool])),
  (99, (fs [.bool])),
  (100, (fs [.bool])),
  (101, (fs [(.int .i64)])),
  (106, (fs [.bool])),
  (112, (fs [(.int .i64)])),
  (114, (fs [.bool])),
  (115, (fs [.bool])),
  (116, (fs [(.int .i64)])),
  (117, (fs [.bool])),
  (130, (fs [.bool])),
  (7536753, (fs [.bool])),
  (7536769, (fs [(.int .i64)])),
  (8585329, (fs [.bool])),
  (8585345, (fs [(.int .i64)]))]
noncomputable def capsT : List (Nat × Ty) := [
  (121, (fs [(.ptr (.agg (fs [(.sl (.int .i64))])))])),
  (130, (fs [(.ptr (.int .i64))]))]
noncomputable def hintT : List (Nat × List (Nat × Hint)) := [
  (13, [(122, (.loop { key := 244, ht := [6, 8, 30, 31, 32], hτ := (fs [(.box (.agg (fs [(.int .i64), (.own (.sl (.int .i64)))]))), (.box (.agg (fs [(.int .i64), (.own (.sl (.int .i64)))]))), (.sl (.sl (.int .i64))), (.int .i64), (.int .i64)]), ex := 0, ot := [6, 8], oτ := (fs [(.box (.agg (fs [(.int .i64), (.own (.sl (.int .i64)))]))), (.box (.agg (fs [(.int .i64), (.own (.sl (.int .i64)))])))]) }))]),
  (16, [(122, (.loop { key := 244, ht := [6, 8, 33, 34, 35], hτ := (fs [(.box (.agg (fs [(.int .i64), (.own (.own (.int .i64)))]))), (.box (.agg (fs [(.int .i64), (.own (.own (.int .i64)))]))), (.sl (.sl (.int .i64))), (.int .i64), (.int .i64)]), ex := 0, ot := [6, 8], oτ := (fs [(.box (.agg (fs [(.int .i64), (.own (.own (.int .i64)))]))), (.box (.agg (fs [(.int .i64), (.own (.own (.int .i64)))])))]) }))]),
  (55, [(122, (.loop { key := 244, ht := [0, 1, 5], hτ := (fs [(.sl (.sl (.int .i64))), (.int .i64), (.int .i64)]), ex := 0, ot := [1], oτ := (fs [(.int .i64)]) }))]),
  (59, [(58, (.loop { key := 116, ht := [0, 3, 4], hτ := (fs [(.sl (.int .i64)), (.own (.int .i64)), (.int .i64)]), ex := 0, ot := [3], oτ := (fs [(.own (.int .i64))]) }))]),
  (60, [(58, (.loop { key := 116, ht := [0, 3, 4], hτ := (fs [(.sl (.sl (.int .i64))), (.own (.own (.int .i64))), (.int .i64)]), ex := 0, ot := [3], oτ := (fs [(.own (.own (.int .i64)))]) }))]),
  (63, [(58, (.loop { key := 116, ht := [0, 1, 5], hτ := (fs [(.sl (.sl (.int .i64))), (.sl (.sl (.int .i64))), (.int .i64)]), ex := 0, ot := [], oτ := (fs []) }))]),
  (64, [(58, (.loop { key := 116, ht := [0, 1, 5], hτ := (fs [(.sl (.int .i64)), (.sl (.int .i64)), (.int .i64)]), ex := 0, ot := [], oτ := (fs []) }))]),
  (65, [(26, (.loop { key := 52, ht := [0, 1, 5], hτ := (fs [(.own (.int .i64)), (.int .i64), (.int .i64)]), ex := 0, ot := [0, 1], oτ := (fs [(.own (.int .i64)), (.int .i64)]) }))]),
  (66, [(26, (.loop { key := 52, ht := [0, 1, 5], hτ := (fs [(.own (.own (.int .i64))), (.int .i64), (.int .i64)]), ex := 0, ot := [0, 1], oτ := (fs [(.own (.own (.int .i64))), (.int .i64)]) }))]),
  (67, [(26, (.loop { key := 52, ht := [0, 1, 5], hτ := (fs [(.sl (.sl (.int .i64))), (.int .i64), (.int .i64)]), ex := 0, ot := [1], oτ := (fs [(.int .i64)]) }))]),
  (98, [(58, (.loop { key := 116, ht := [2, 3, 21, 22, 23], hτ := (fs [(.box (.agg (fs [(.sl (.int .i64))]))), (.box (.agg (fs [(.int .i64), (.sl (.sl (.int .i64)))]))), (.sl (.sl (.int .i64))), (.int .i64), (.int .i64)]), ex := 0, ot := [], oτ := (fs []) }))]),
  (100, [(58, (.loop { key := 116, ht := [2, 3, 21, 22, 23], hτ := (fs [(.box (.agg (fs [(.sl (.int .i64))]))), (.box (.agg (fs [(.int .i64), (.sl (.sl (.int .i64)))]))), (.sl (.sl (.int .i64))), (.int .i64), (.int .i64)]), ex := 0, ot := [], oτ := (fs []) }))]),
  (101, [(26, (.loop { key := 52, ht := [0, 1, 5], hτ := (fs [(.sl (.int .i64)), (.int .i64), (.int .i64)]), ex := 0, ot := [1], oτ := (fs [(.int .i64)]) }))]),
  (106, [(26, (.loop { key := 52, ht := [1, 2, 9, 10, 11], hτ := (fs [(.int .i64), (.int .i64), (.sl (.int .i64)), (.int .i64), (.int .i64)]), ex := 0, ot := [], oτ := (fs []) }))]),
  (112, [(28, (.loop { key := 56, ht := [0, 1, 5], hτ := (fs [(.int .i64), (.int .i64), (.int .i64)]), ex := 0, ot := [5], oτ := (fs [(.int .i64)]) }))]),
  (116, [(58, (.loop { key := 116, ht := [0, 5, 6, 7], hτ := (fs [(.int .i64), (.int .i64), (.int .i64), (.int .i64)]), ex := 0, ot := [5], oτ := (fs [(.int .i64)]) }))]),
  (7536769, [(26, (.loop { key := 52, ht := [0, 1, 7, 8], hτ := (fs [(.sl (.int .i64)), (.fn 114 (fs [])), (.int .i64), (.int .i64)]), ex := 0, ot := [], oτ := (fs []) }))]),
  (8585345, [(26, (.loop { key := 52, ht := [0, 1, 7, 8], hτ := (fs [(.sl (.int .i64)), (.fn 130 (fs [(.ptr (.int .i64))])), (.int .i64), (.int .i64)]), ex := 0, ot := [], oτ := (fs []) }))])]
noncomputable def deepT : List ((Nat × TypeId) × Ty) := [((7, 24), (.own (.int .i64))), ((7, 87), (.agg (fs [.bool, (.own (.int .i64)), (.own (.int .i64))]))), ((7, 95), (.agg (fs [(.int .i64), (.int .i64), (.own (.int .i64)), (.own (.int .i64))]))), ((43, 24), (.own (.int .i64)))]
noncomputable def borrowT : List (Nat × TypeId) := [(15, 24)]
noncomputable def E1 : Env := {
  P := Go.Proofs.Try.prog
  ps := fun f => (psT.lookup f).getD .nil
  io := fun f => (ioT.lookup f).getD []
  rs := fun f => (rsT.lookup f).getD .nil
  caps := fun f => (capsT.lookup f).getD .nil
  hint := fun f p => (((hintT.lookup f).getD []).lookup p).getD .none
  ext := fun _ => none
  clone := fun f => List.lookup f [(62, 24)]
  deep := fun d t => List.lookup (d, t) deepT
  borrow := fun d t => List.contains borrowT (d, t) }
/-- A part of a code, by its way from the root. -/
def _root_.Go.Code.part : Code → List Nat → Code
  | .seq a b, d :: r => if d = 0 then a.part r else b.part r
  | .cond _ a b, d :: r => if d = 0 then a.part r else b.part r
  | .block _ a, _ :: r => a.part r
  | .loop a, _ :: r => a.part r
  | c, _ => c
noncomputable def bodyOf (f : Nat) : Code := match (E1.P.funcs[f]?).bind (·.body) with
  | some c => c
  | none => .skip
end
end Go.Proofs.YtejklhcalinhpaaOw.Ev
