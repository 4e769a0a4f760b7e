/- The evaluator's tables for the functions of this seat. Printed by gen.py. -/
import Derived.Test.YtejklhcalinhpaaCtEvY
import Derived.Test.YtejklhcalinhpaaProg
import Derived.KernelRfl
namespace Go.Proofs.YtejklhcalinhpaaCt.Ev
open Go
noncomputable section
def fs : List Ty → Ty
  | [] => .nil
  | a :: r => .cons a (fs r)
noncomputable def psT : List (Nat × Ty) := [
  (5, (fs [(.agg (fs [(.sl (.int .i64))])), (.sl (.agg (fs [.bool, (.sl (.int .i64)), (.sl (.int .i64))])))])),
  (11, (fs [(.agg (fs [(.sl (.int .i64))])), (.int .i64)])),
  (14, (fs [(.agg (fs [(.sl (.int .i64))]))])),
  (18, (fs [(.agg (fs [(.sl (.int .i64))])), (.agg (fs [(.sl (.int .i64))]))])),
  (22, (fs [(.sl (.agg (fs [.bool, (.sl (.int .i64)), (.sl (.int .i64))]))), (.int .i64)])),
  (23, (fs [(.agg (fs [(.sl (.int .i64))])), (.sl (.agg (fs [.bool, (.sl (.int .i64)), (.sl (.int .i64))])))])),
  (24, (fs [(.sl (.agg (fs [.bool, (.sl (.int .i64)), (.sl (.int .i64))])))])),
  (25, (fs [(.agg (fs [(.sl (.int .i64))])), (.sl (.agg (fs [.bool, (.sl (.int .i64)), (.sl (.int .i64))])))])),
  (26, (fs [(.sl (.agg (fs [.bool, (.sl (.int .i64)), (.sl (.int .i64))]))), (.sl (.agg (fs [.bool, (.sl (.int .i64)), (.sl (.int .i64))])))])),
  (54, (fs [(.sl (.int .i64)), (.int .i64)])),
  (57, (fs [(.int .i64), (.int .i64), (.int .i64)])),
  (59, (fs [(.sl (.int .i64))])),
  (64, (fs [(.sl (.int .i64)), (.sl (.int .i64))])),
  (68, (fs [(.agg (fs [.bool, (.sl (.int .i64)), (.sl (.int .i64))])), (.int .i64)])),
  (69, (fs [(.agg (fs [(.sl (.int .i64))])), (.sl (.agg (fs [.bool, (.sl (.int .i64)), (.sl (.int .i64))])))])),
  (70, (fs [(.agg (fs [(.sl (.int .i64))])), (.sl (.agg (fs [.bool, (.sl (.int .i64)), (.sl (.int .i64))])))])),
  (71, (fs [(.agg (fs [.bool, (.sl (.int .i64)), (.sl (.int .i64))]))])),
  (72, (fs [(.agg (fs [(.sl (.int .i64))])), (.sl (.agg (fs [.bool, (.sl (.int .i64)), (.sl (.int .i64))])))])),
  (73, (fs [(.agg (fs [(.sl (.int .i64))])), (.sl (.agg (fs [.bool, (.sl (.int .i64)), (.sl (.int .i64))])))])),
  (74, (fs [(.agg (fs [.bool, (.sl (.int .i64)), (.sl (.int .i64))])), (.agg (fs [.bool, (.sl (.int .i64)), (.sl (.int .i64))]))])),
  (76, (fs [(.agg (fs [(.sl (.int .i64))]))])),
  (99, (fs [(.agg (fs [(.sl (.int .i64))]))])),
  (102, (fs [(.agg (fs [(.sl (.int .i64))])), (.sl (.agg (fs [.bool, (.sl (.int .i64)), (.sl (.int .i64))])))])),
  (103, (fs [(.agg (fs [(.sl (.int .i64))])), (.sl (.int .i64)), (.int .i64)])),
  (104, (fs [(.agg (fs [(.sl (.int .i64))])), (.sl (.agg (fs [.bool, (.sl (.int .i64)), (.sl (.int .i64))])))])),
  (105, (fs [(.agg (fs [(.sl (.int .i64))])), (.sl (.int .i64))])),
  (106, (fs [(.sl (.int .i64)), (.int .i64), (.int .i64)])),
  (114, (fs [(.int .i64)])),
  (118, (fs [(.agg (fs [(.sl (.int .i64))])), (.agg (fs [.bool, (.sl (.int .i64)), (.sl (.int .i64))]))])),
  (119, (fs [(.agg (fs [(.sl (.int .i64))])), (.sl (.int .i64)), (.int .i64)])),
  (121, (fs [(.agg (fs [.bool, (.sl (.int .i64)), (.sl (.int .i64))])), (.ptr (.agg (fs [(.sl (.int .i64))])))])),
  (122, (fs [(.agg (fs [(.sl (.int .i64))])), (.agg (fs [.bool, (.sl (.int .i64)), (.sl (.int .i64))]))])),
  (123, (fs [(.agg (fs [(.sl (.int .i64))])), (.own (.int .u8)), (.sl (.int .i64)), (.int .i64)])),
  (124, (fs [(.agg (fs [(.sl (.int .i64))])), (.sl (.int .i64))])),
  (131, (fs [(.agg (fs [(.sl (.int .i64))])), (.sl (.int .i64)), (.int .i64)])),
  (133, (fs [(.agg (fs [(.sl (.int .i64))])), (.sl (.int .i64))])),
  (134, (fs [(.agg (fs [(.sl (.int .i64))])), (.int .i64)])),
  (7536753, (fs [(.sl (.int .i64)), (.fn 114 (fs []))])),
  (7536769, (fs [(.sl (.int .i64)), (.fn 114 (fs []))])),
  (7995512, (fs [(.sl (.agg (fs [.bool, (.sl (.int .i64)), (.sl (.int .i64))]))), (.fn 121 (fs [(.ptr (.agg (fs [(.sl (.int .i64))])))]))])),
  (7995524, (fs [(.sl (.agg (fs [.bool, (.sl (.int .i64)), (.sl (.int .i64))]))), (.fn 121 (fs [(.ptr (.agg (fs [(.sl (.int .i64))])))]))]))]
noncomputable def ioT : List (Nat × List Bool) := [
  (5, [false, false]),
  (11, [false, false]),
  (14, [false]),
  (18, [false, false]),
  (22, [false, false]),
  (23, [false, false]),
  (24, [false]),
  (25, [false, false]),
  (26, [false, false]),
  (54, [false, false]),
  (57, [false, false, false]),
  (59, [false]),
  (64, [false, false]),
  (68, [false, false]),
  (69, [false, false]),
  (70, [false, false]),
  (71, [false]),
  (72, [false, false]),
  (73, [false, false]),
  (74, [false, false]),
  (76, [false]),
  (99, [false]),
  (102, [false, false]),
  (103, [false, false, false]),
  (104, [false, false]),
  (105, [false, false]),
  (106, [false, false, false]),
  (114, [false]),
  (118, [false, false]),
  (119, [false, false, false]),
  (121, [false, false]),
  (122, [false, false]),
  (123, [false, false, false, false]),
  (124, [false, false]),
  (131, [false, false, false]),
  (133, [false, false]),
  (134, [false, false]),
  (7536753, [false, false]),
  (7536769, [false, false]),
  (7995512, [false, false]),
  (7995524, [false, false])]
noncomputable def rsT : List (Nat × Ty) := [
  (5, (fs [.bool])),
  (11, (fs [(.int .i64)])),
  (14, (fs [(.agg (fs [(.own (.int .i64))]))])),
  (18, (fs [.bool])),
  (22, (fs [(.int .i64)])),
  (23, (fs [.str, .bool])),
  (24, (fs [(.own (.agg (fs [.bool, (.sl (.int .i64)), (.sl (.int .i64))])))])),
  (25, (fs [.str, .bool])),
  (26, (fs [.bool])),
  (54, (fs [(.int .i64)])),
  (57, (fs [.bool])),
  (59, (fs [(.own (.int .i64))])),
  (64, (fs [.bool])),
  (68, (fs [(.int .i64)])),
  (69, (fs [.bool])),
  (70, (fs [.str])),
  (71, (fs [(.agg (fs [.bool, (.own (.int .i64)), (.own (.int .i64))]))])),
  (72, (fs [.bool])),
  (73, (fs [.str])),
  (74, (fs [.bool])),
  (76, (fs [.bool])),
  (99, (fs [.bool])),
  (102, (fs [.bool])),
  (103, (fs [.str])),
  (104, (fs [.bool])),
  (105, (fs [.str])),
  (106, (fs [.bool])),
  (114, (fs [.bool])),
  (118, (fs [.bool])),
  (119, (fs [(.own (.int .i64))])),
  (121, (fs [.bool])),
  (122, (fs [.bool])),
  (123, (fs [(.own (.int .u8)), (.int .i64)])),
  (124, (fs [.bool])),
  (131, (fs [(.int .i64)])),
  (133, (fs [.bool])),
  (134, (fs [(.int .i64)])),
  (7536753, (fs [.bool])),
  (7536769, (fs [(.int .i64)])),
  (7995512, (fs [.bool])),
  (7995524, (fs [(.int .i64)]))]
noncomputable def capsT : List (Nat × Ty) := [
  (121, (fs [(.ptr (.agg (fs [(.sl (.int .i64))])))])),
  (130, (fs [(.ptr (.int .i64))]))]
noncomputable def hintT : List (Nat × List (Nat × Hint)) := [
  (22, [(122, (.loop { key := 244, ht := [0, 1, 5], hτ := (fs [(.sl (.agg (fs [.bool, (.sl (.int .i64)), (.sl (.int .i64))]))), (.int .i64), (.int .i64)]), ex := 0, ot := [1], oτ := (fs [(.int .i64)]) }))]),
  (24, [(58, (.loop { key := 116, ht := [0, 3, 4], hτ := (fs [(.sl (.agg (fs [.bool, (.sl (.int .i64)), (.sl (.int .i64))]))), (.own (.agg (fs [.bool, (.sl (.int .i64)), (.sl (.int .i64))]))), (.int .i64)]), ex := 0, ot := [3], oτ := (fs [(.own (.agg (fs [.bool, (.sl (.int .i64)), (.sl (.int .i64))])))]) }))]),
  (26, [(58, (.loop { key := 116, ht := [0, 1, 5], hτ := (fs [(.sl (.agg (fs [.bool, (.sl (.int .i64)), (.sl (.int .i64))]))), (.sl (.agg (fs [.bool, (.sl (.int .i64)), (.sl (.int .i64))]))), (.int .i64)]), ex := 0, ot := [], oτ := (fs []) }))]),
  (59, [(58, (.loop { key := 116, ht := [0, 3, 4], hτ := (fs [(.sl (.int .i64)), (.own (.int .i64)), (.int .i64)]), ex := 0, ot := [3], oτ := (fs [(.own (.int .i64))]) }))]),
  (64, [(58, (.loop { key := 116, ht := [0, 1, 5], hτ := (fs [(.sl (.int .i64)), (.sl (.int .i64)), (.int .i64)]), ex := 0, ot := [], oτ := (fs []) }))]),
  (70, [(122, (.loop { key := 244, ht := [2, 5, 11, 12, 13], hτ := (fs [(.box (.agg (fs [(.sl (.int .i64))]))), .str, (.sl (.agg (fs [.bool, (.sl (.int .i64)), (.sl (.int .i64))]))), (.int .i64), (.int .i64)]), ex := 0, ot := [5], oτ := (fs [.str]) })), (7833, (.cut [2, 5, 7, 11, 12, 13] (fs [(.box (.agg (fs [(.sl (.int .i64))]))), .str, (.box (.agg (fs [.bool, (.sl (.int .i64)), (.sl (.int .i64))]))), (.sl (.agg (fs [.bool, (.sl (.int .i64)), (.sl (.int .i64))]))), (.int .i64), (.int .i64)]) true)), (31335, (.cut [2, 5, 7, 11, 12, 13] (fs [(.box (.agg (fs [(.sl (.int .i64))]))), .str, (.box (.agg (fs [.bool, (.sl (.int .i64)), (.sl (.int .i64))]))), (.sl (.agg (fs [.bool, (.sl (.int .i64)), (.sl (.int .i64))]))), (.int .i64), (.int .i64)]) true))]),
  (73, [(122, (.loop { key := 244, ht := [2, 5, 12, 13, 14], hτ := (fs [(.box (.agg (fs [(.sl (.int .i64))]))), .str, (.sl (.agg (fs [.bool, (.sl (.int .i64)), (.sl (.int .i64))]))), (.int .i64), (.int .i64)]), ex := 0, ot := [5], oτ := (fs [.str]) })), (7833, (.cut [2, 5, 7, 12, 13, 14] (fs [(.box (.agg (fs [(.sl (.int .i64))]))), .str, (.box (.agg (fs [.bool, (.sl (.int .i64)), (.sl (.int .i64))]))), (.sl (.agg (fs [.bool, (.sl (.int .i64)), (.sl (.int .i64))]))), (.int .i64), (.int .i64)]) true)), (31335, (.cut [2, 5, 7, 8, 12, 13, 14] (fs [(.box (.agg (fs [(.sl (.int .i64))]))), .str, (.box (.agg (fs [.bool, (.sl (.int .i64)), (.sl (.int .i64))]))), .str, (.sl (.agg (fs [.bool, (.sl (.int .i64)), (.sl (.int .i64))]))), (.int .i64), (.int .i64)]) true))]),
  (102, [(26, (.loop { key := 52, ht := [1, 2, 7, 8, 9], hτ := (fs [(.sl (.agg (fs [.bool, (.sl (.int .i64)), (.sl (.int .i64))]))), (.box (.agg (fs [(.sl (.int .i64))]))), (.sl (.agg (fs [.bool, (.sl (.int .i64)), (.sl (.int .i64))]))), (.int .i64), (.int .i64)]), ex := 0, ot := [1], oτ := (fs [(.sl (.agg (fs [.bool, (.sl (.int .i64)), (.sl (.int .i64))])))]) }))]),
  (103, [(31, (.cut [7] (fs [.str]) true)), (122, (.loop { key := 244, ht := [1, 2, 3, 7, 35, 36, 37], hτ := (fs [(.sl (.int .i64)), (.int .i64), (.box (.agg (fs [(.sl (.int .i64))]))), .str, (.own (.int .i64)), (.int .i64), (.int .i64)]), ex := 0, ot := [1, 2, 3, 7], oτ := (fs [(.sl (.int .i64)), (.int .i64), (.box (.agg (fs [(.sl (.int .i64))]))), .str]) })), (7833, (.cut [1, 2, 3, 7, 9, 35, 36, 37] (fs [(.sl (.int .i64)), (.int .i64), (.box (.agg (fs [(.sl (.int .i64))]))), .str, (.int .i64), (.own (.int .i64)), (.int .i64), (.int .i64)]) true))]),
  (106, [(26, (.loop { key := 52, ht := [1, 2, 9, 10, 11], hτ := (fs [(.int .i64), (.int .i64), (.sl (.int .i64)), (.int .i64), (.int .i64)]), ex := 0, ot := [], oτ := (fs []) }))]),
  (119, [(250, (.loop { key := 500, ht := [1, 3, 7, 8, 9], hτ := (fs [(.sl (.int .i64)), (.box (.agg (fs [(.sl (.int .i64))]))), (.own (.int .i64)), (.int .i64), (.int .i64)]), ex := 0, ot := [7], oτ := (fs [(.own (.int .i64))]) }))]),
  (123, [(127, (.cut [1, 11] (fs [(.own (.int .u8)), (.int .i64)]) true)), (506, (.loop { key := 1012, ht := [1, 2, 4, 10, 11, 39, 40], hτ := (fs [(.own (.int .u8)), (.sl (.int .i64)), (.box (.agg (fs [(.sl (.int .i64))]))), (.int .i64), (.int .i64), (.int .i64), (.int .i64)]), ex := 0, ot := [1, 4, 10, 11], oτ := (fs [(.own (.int .u8)), (.box (.agg (fs [(.sl (.int .i64))]))), (.int .i64), (.int .i64)]) })), (64819, (.cut [1, 2, 4, 10, 11, 13, 39, 40] (fs [(.own (.int .u8)), (.sl (.int .i64)), (.box (.agg (fs [(.sl (.int .i64))]))), (.int .i64), (.int .i64), (.int .u8), (.int .i64), (.int .i64)]) true))]),
  (131, [(28, (.loop { key := 56, ht := [1, 2, 3, 7], hτ := (fs [(.sl (.int .i64)), (.int .i64), (.box (.agg (fs [(.sl (.int .i64))]))), (.int .i64)]), ex := 0, ot := [2], oτ := (fs [(.int .i64)]) })), (907, (.cut [1, 2, 3, 7] (fs [(.sl (.int .i64)), (.int .i64), (.box (.agg (fs [(.sl (.int .i64))]))), (.int .i64)]) true))]),
  (133, [(122, (.loop { key := 244, ht := [2, 5, 11, 12, 13], hτ := (fs [(.box (.agg (fs [(.sl (.int .i64))]))), (.int .i64), (.sl (.int .i64)), (.int .i64), (.int .i64)]), ex := 0, ot := [5], oτ := (fs [(.int .i64)]) }))]),
  (7536769, [(26, (.loop { key := 52, ht := [0, 1, 7, 8], hτ := (fs [(.sl (.int .i64)), (.fn 114 (fs [])), (.int .i64), (.int .i64)]), ex := 0, ot := [], oτ := (fs []) }))]),
  (7995524, [(26, (.loop { key := 52, ht := [0, 1, 7, 8], hτ := (fs [(.sl (.agg (fs [.bool, (.sl (.int .i64)), (.sl (.int .i64))]))), (.fn 121 (fs [(.ptr (.agg (fs [(.sl (.int .i64))])))])), (.int .i64), (.int .i64)]), ex := 0, ot := [], oτ := (fs []) }))])]
noncomputable def E1 : Env := {
  P := Go.Proofs.Try.prog
  ps := fun f => (psT.lookup f).getD .nil
  io := fun f => (ioT.lookup f).getD []
  rs := fun f => (rsT.lookup f).getD .nil
  caps := fun f => (capsT.lookup f).getD .nil
  hint := fun f p => (((hintT.lookup f).getD []).lookup p).getD .none
  ext := fun _ => none }
/-- A part of a code, by its way from the root. -/
def _root_.Go.Code.part : Code → List Nat → Code
  | .seq a b, d :: r => if d = 0 then a.part r else b.part r
  | .cond _ a b, d :: r => if d = 0 then a.part r else b.part r
  | .block _ a, _ :: r => a.part r
  | .loop a, _ :: r => a.part r
  | c, _ => c
noncomputable def bodyOf (f : Nat) : Code := match (E1.P.funcs[f]?).bind (·.body) with
  | some c => c
  | none => .skip
end
end Go.Proofs.YtejklhcalinhpaaCt.Ev
