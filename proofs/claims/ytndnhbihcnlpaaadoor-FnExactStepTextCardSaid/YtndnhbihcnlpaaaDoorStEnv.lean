/- A text of its own: Env; no condition but those that each theorem names. -/
import Derived.Test.YtndnhbihcnlpaaaDoorStEvWt
import Derived.Test.YtndnhbihcnlpaaaDoorProg
import Derived.KernelRfl
/- The evaluator's tables for the functions of this seat. Printed by gen.py. -/
namespace Go.Proofs.YtndnhbihcnlpaaaDoorSt.Ev
open Go
noncomputable section
def fs : List Ty → Ty
  | [] => .nil
  | a :: r => .cons a (fs r)
noncomputable def psT : List (Nat × Ty) := [
  (4, (fs [(.agg (fs [(.sl (.int .i64))])), (.agg (fs [(.int .i64), (.sl (.int .i64)), (.sl (.int .i64)), (.sl (.agg (fs [.bool, (.sl (.int .i64)), (.sl (.int .i64))])))]))])),
  (6, (fs [(.agg (fs [(.sl (.int .i64))])), (.int .i64)])),
  (9, (fs [(.agg (fs [(.sl (.int .i64))]))])),
  (12, (fs [(.agg (fs [(.sl (.int .i64))])), (.agg (fs [(.sl (.int .i64))]))])),
  (14, (fs [(.agg (fs [(.int .i64), (.sl (.int .i64)), (.sl (.int .i64)), (.sl (.agg (fs [.bool, (.sl (.int .i64)), (.sl (.int .i64))])))])), (.int .i64)])),
  (15, (fs [(.agg (fs [(.sl (.int .i64))])), (.agg (fs [(.int .i64), (.sl (.int .i64)), (.sl (.int .i64)), (.sl (.agg (fs [.bool, (.sl (.int .i64)), (.sl (.int .i64))])))]))])),
  (16, (fs [(.agg (fs [(.int .i64), (.sl (.int .i64)), (.sl (.int .i64)), (.sl (.agg (fs [.bool, (.sl (.int .i64)), (.sl (.int .i64))])))]))])),
  (17, (fs [(.agg (fs [(.sl (.int .i64))])), (.agg (fs [(.int .i64), (.sl (.int .i64)), (.sl (.int .i64)), (.sl (.agg (fs [.bool, (.sl (.int .i64)), (.sl (.int .i64))])))]))])),
  (18, (fs [(.agg (fs [(.int .i64), (.sl (.int .i64)), (.sl (.int .i64)), (.sl (.agg (fs [.bool, (.sl (.int .i64)), (.sl (.int .i64))])))])), (.agg (fs [(.int .i64), (.sl (.int .i64)), (.sl (.int .i64)), (.sl (.agg (fs [.bool, (.sl (.int .i64)), (.sl (.int .i64))])))]))])),
  (24, (fs [(.sl (.int .i64)), (.int .i64)])),
  (25, (fs [(.sl (.agg (fs [.bool, (.sl (.int .i64)), (.sl (.int .i64))]))), (.int .i64)])),
  (28, (fs [(.agg (fs [(.sl (.int .i64))])), (.sl (.agg (fs [.bool, (.sl (.int .i64)), (.sl (.int .i64))])))])),
  (29, (fs [(.sl (.int .i64))])),
  (30, (fs [(.sl (.agg (fs [.bool, (.sl (.int .i64)), (.sl (.int .i64))])))])),
  (31, (fs [(.agg (fs [(.sl (.int .i64))]))])),
  (33, (fs [(.int .i64)])),
  (34, (fs [(.agg (fs [(.sl (.int .i64))])), (.sl (.agg (fs [.bool, (.sl (.int .i64)), (.sl (.int .i64))])))])),
  (35, (fs [(.sl (.int .i64)), (.sl (.int .i64))])),
  (36, (fs [(.sl (.agg (fs [.bool, (.sl (.int .i64)), (.sl (.int .i64))]))), (.sl (.agg (fs [.bool, (.sl (.int .i64)), (.sl (.int .i64))])))])),
  (37, (fs [(.agg (fs [(.sl (.int .i64))])), (.agg (fs [(.int .i64), (.sl (.int .i64)), (.sl (.int .i64)), (.sl (.agg (fs [.bool, (.sl (.int .i64)), (.sl (.int .i64))])))]))])),
  (38, (fs [(.agg (fs [(.sl (.int .i64))])), (.agg (fs [(.int .i64), (.sl (.int .i64)), (.sl (.int .i64)), (.sl (.agg (fs [.bool, (.sl (.int .i64)), (.sl (.int .i64))])))]))])),
  (39, (fs [(.agg (fs [(.sl (.int .i64))])), (.agg (fs [(.int .i64), (.sl (.int .i64)), (.sl (.int .i64)), (.sl (.agg (fs [.bool, (.sl (.int .i64)), (.sl (.int .i64))])))]))])),
  (40, (fs [(.agg (fs [(.sl (.int .i64))])), (.agg (fs [(.int .i64), (.sl (.int .i64)), (.sl (.int .i64)), (.sl (.agg (fs [.bool, (.sl (.int .i64)), (.sl (.int .i64))])))]))])),
  (41, (fs [(.agg (fs [(.sl (.int .i64))]))])),
  (47, (fs [(.agg (fs [.bool, (.sl (.int .i64)), (.sl (.int .i64))])), (.int .i64)])),
  (48, (fs [(.agg (fs [(.sl (.int .i64))])), (.sl (.agg (fs [.bool, (.sl (.int .i64)), (.sl (.int .i64))])))])),
  (49, (fs [(.int .i64)])),
  (50, (fs [(.agg (fs [(.sl (.int .i64))])), (.sl (.int .i64)), (.int .i64)])),
  (51, (fs [(.agg (fs [.bool, (.sl (.int .i64)), (.sl (.int .i64))]))])),
  (53, (fs [(.int .i64)])),
  (56, (fs [(.agg (fs [(.sl (.int .i64))])), (.sl (.agg (fs [.bool, (.sl (.int .i64)), (.sl (.int .i64))])))])),
  (58, (fs [(.agg (fs [(.sl (.int .i64))])), (.sl (.int .i64))])),
  (59, (fs [(.agg (fs [.bool, (.sl (.int .i64)), (.sl (.int .i64))])), (.agg (fs [.bool, (.sl (.int .i64)), (.sl (.int .i64))]))])),
  (60, (fs [(.agg (fs [(.sl (.int .i64))])), (.sl (.agg (fs [.bool, (.sl (.int .i64)), (.sl (.int .i64))])))])),
  (61, (fs [(.int .i64), (.int .i64), (.int .i64)])),
  (62, (fs [(.sl (.int .i64)), (.int .i64), (.int .i64)])),
  (63, (fs [(.int .i64)])),
  (64, (fs [(.sl (.sl (.int .i64)))])),
  (65, (fs [(.int .i64)])),
  (66, (fs [(.int .i64)])),
  (67, (fs [(.sl (.int .i64))])),
  (70, (fs [(.agg (fs [(.sl (.int .i64))])), (.agg (fs [.bool, (.sl (.int .i64)), (.sl (.int .i64))]))])),
  (71, (fs [(.agg (fs [(.sl (.int .i64))])), (.sl (.int .i64)), (.int .i64)])),
  (75, (fs [(.agg (fs [.bool, (.sl (.int .i64)), (.sl (.int .i64))])), (.ptr (.agg (fs [(.sl (.int .i64))])))])),
  (76, (fs [(.agg (fs [(.sl (.int .i64))])), (.agg (fs [.bool, (.sl (.int .i64)), (.sl (.int .i64))]))])),
  (78, (fs [(.agg (fs [(.sl (.int .i64))])), (.own (.int .u8)), (.sl (.int .i64)), (.int .i64)])),
  (81, (fs [(.agg (fs [(.sl (.int .i64))])), (.sl (.int .i64))])),
  (82, (fs [(.agg (fs [(.sl (.int .i64))])), (.sl (.int .i64)), (.int .i64)])),
  (84, (fs [(.agg (fs [(.sl (.int .i64))])), (.sl (.int .i64))])),
  (89, (fs [(.agg (fs [(.sl (.int .i64))])), (.int .i64)])),
  (3538996, (fs [(.sl (.int .i64)), (.fn 53 (fs []))])),
  (3539016, (fs [(.sl (.int .i64)), (.fn 53 (fs []))])),
  (4325428, (fs [(.sl (.int .i64)), (.fn 65 (fs []))])),
  (4325448, (fs [(.sl (.int .i64)), (.fn 65 (fs []))])),
  (4980810, (fs [(.sl (.agg (fs [.bool, (.sl (.int .i64)), (.sl (.int .i64))]))), (.fn 75 (fs [(.ptr (.agg (fs [(.sl (.int .i64))])))]))])),
  (4980819, (fs [(.sl (.agg (fs [.bool, (.sl (.int .i64)), (.sl (.int .i64))]))), (.fn 75 (fs [(.ptr (.agg (fs [(.sl (.int .i64))])))]))]))]
noncomputable def ioT : List (Nat × List Bool) := [
  (4, [false, false]),
  (6, [false, false]),
  (9, [false]),
  (12, [false, false]),
  (14, [false, false]),
  (15, [false, false]),
  (16, [false]),
  (17, [false, false]),
  (18, [false, false]),
  (24, [false, false]),
  (25, [false, false]),
  (28, [false, false]),
  (29, [false]),
  (30, [false]),
  (31, [false]),
  (33, [false]),
  (34, [false, false]),
  (35, [false, false]),
  (36, [false, false]),
  (37, [false, false]),
  (38, [false, false]),
  (39, [false, false]),
  (40, [false, false]),
  (41, [false]),
  (47, [false, false]),
  (48, [false, false]),
  (49, [false]),
  (50, [false, false, false]),
  (51, [false]),
  (53, [false]),
  (56, [false, false]),
  (58, [false, false]),
  (59, [false, false]),
  (60, [false, false]),
  (61, [false, false, false]),
  (62, [false, false, false]),
  (63, [false]),
  (64, [false]),
  (65, [false]),
  (66, [false]),
  (67, [false]),
  (70, [false, false]),
  (71, [false, false, false]),
  (75, [false, false]),
  (76, [false, false]),
  (78, [false, false, false, false]),
  (81, [false, false]),
  (82, [false, false, false]),
  (84, [false, false]),
  (89, [false, false]),
  (3538996, [false, false]),
  (3539016, [false, false]),
  (4325428, [false, false]),
  (4325448, [false, false]),
  (4980810, [false, false]),
  (4980819, [false, false])]
noncomputable def rsT : List (Nat × Ty) := [
  (4, (fs [.bool])),
  (6, (fs [(.int .i64)])),
  (9, (fs [(.agg (fs [(.own (.int .i64))]))])),
  (12, (fs [.bool])),
  (14, (fs [(.int .i64)])),
  (15, (fs [.str, .bool])),
  (16, (fs [(.agg (fs [(.int .i64), (.own (.int .i64)), (.own (.int .i64)), (.own (.agg (fs [.bool, (.own (.int .i64)), (.own (.int .i64))])))]))])),
  (17, (fs [.str, .bool])),
  (18, (fs [.bool])),
  (24, (fs [(.int .i64)])),
  (25, (fs [(.int .i64)])),
  (28, (fs [.str])),
  (29, (fs [(.own (.int .i64))])),
  (30, (fs [(.own (.agg (fs [.bool, (.own (.int .i64)), (.own (.int .i64))])))])),
  (31, (fs [.bool])),
  (33, (fs [.str])),
  (34, (fs [.str])),
  (35, (fs [.bool])),
  (36, (fs [.bool])),
  (37, (fs [.bool])),
  (38, (fs [.str])),
  (39, (fs [.bool])),
  (40, (fs [.str])),
  (41, (fs [.bool])),
  (47, (fs [(.int .i64)])),
  (48, (fs [.bool])),
  (49, (fs [.str])),
  (50, (fs [.str])),
  (51, (fs [(.agg (fs [.bool, (.own (.int .i64)), (.own (.int .i64))]))])),
  (53, (fs [.bool])),
  (56, (fs [.bool])),
  (58, (fs [.str])),
  (59, (fs [.bool])),
  (60, (fs [.bool])),
  (61, (fs [.bool])),
  (62, (fs [.bool])),
  (63, (fs [.str])),
  (64, (fs [(.own (.int .i64))])),
  (65, (fs [.bool])),
  (66, (fs [.str])),
  (67, (fs [.str])),
  (70, (fs [.bool])),
  (71, (fs [(.own (.int .i64))])),
  (75, (fs [.bool])),
  (76, (fs [.bool])),
  (78, (fs [(.own (.int .u8)), (.int .i64)])),
  (81, (fs [.bool])),
  (82, (fs [(.int .i64)])),
  (84, (fs [.bool])),
  (89, (fs [(.int .i64)])),
  (3538996, (fs [.bool])),
  (3539016, (fs [(.int .i64)])),
  (4325428, (fs [.bool])),
  (4325448, (fs [(.int .i64)])),
  (4980810, (fs [.bool])),
  (4980819, (fs [(.int .i64)]))]
noncomputable def capsT : List (Nat × Ty) := [
  (44, (fs [(.ptr (.agg (fs [(.sl (.int .i64))])))])),
  (55, (fs [(.ptr (.agg (fs [(.sl (.int .i64))])))])),
  (75, (fs [(.ptr (.agg (fs [(.sl (.int .i64))])))]))]
noncomputable def hintT : List (Nat × List (Nat × Hint)) := [
  (25, [(122, (.loop { key := 244, ht := [0, 1, 5], hτ := (fs [(.sl (.agg (fs [.bool, (.sl (.int .i64)), (.sl (.int .i64))]))), (.int .i64), (.int .i64)]), ex := 0, ot := [1], oτ := (fs [(.int .i64)]) }))]),
  (28, [(122, (.loop { key := 244, ht := [2, 5, 11, 12, 13], hτ := (fs [(.box (.agg (fs [(.sl (.int .i64))]))), .str, (.sl (.agg (fs [.bool, (.sl (.int .i64)), (.sl (.int .i64))]))), (.int .i64), (.int .i64)]), ex := 0, ot := [5], oτ := (fs [.str]) })), (7833, (.cut [2, 5, 7, 11, 12, 13] (fs [(.box (.agg (fs [(.sl (.int .i64))]))), .str, (.box (.agg (fs [.bool, (.sl (.int .i64)), (.sl (.int .i64))]))), (.sl (.agg (fs [.bool, (.sl (.int .i64)), (.sl (.int .i64))]))), (.int .i64), (.int .i64)]) true [])), (31335, (.cut [2, 5, 7, 11, 12, 13] (fs [(.box (.agg (fs [(.sl (.int .i64))]))), .str, (.box (.agg (fs [.bool, (.sl (.int .i64)), (.sl (.int .i64))]))), (.sl (.agg (fs [.bool, (.sl (.int .i64)), (.sl (.int .i64))]))), (.int .i64), (.int .i64)]) true []))]),
  (29, [(58, (.loop { key := 116, ht := [0, 3, 4], hτ := (fs [(.sl (.int .i64)), (.own (.int .i64)), (.int .i64)]), ex := 0, ot := [3], oτ := (fs [(.own (.int .i64))]) }))]),
  (30, [(58, (.loop { key := 116, ht := [0, 3, 4], hτ := (fs [(.sl (.agg (fs [.bool, (.sl (.int .i64)), (.sl (.int .i64))]))), (.own (.agg (fs [.bool, (.own (.int .i64)), (.own (.int .i64))]))), (.int .i64)]), ex := 0, ot := [3], oτ := (fs [(.own (.agg (fs [.bool, (.own (.int .i64)), (.own (.int .i64))])))]) }))]),
  (34, [(122, (.loop { key := 244, ht := [2, 5, 12, 13, 14], hτ := (fs [(.box (.agg (fs [(.sl (.int .i64))]))), .str, (.sl (.agg (fs [.bool, (.sl (.int .i64)), (.sl (.int .i64))]))), (.int .i64), (.int .i64)]), ex := 0, ot := [5], oτ := (fs [.str]) })), (7833, (.cut [2, 5, 7, 12, 13, 14] (fs [(.box (.agg (fs [(.sl (.int .i64))]))), .str, (.box (.agg (fs [.bool, (.sl (.int .i64)), (.sl (.int .i64))]))), (.sl (.agg (fs [.bool, (.sl (.int .i64)), (.sl (.int .i64))]))), (.int .i64), (.int .i64)]) true [])), (31335, (.cut [2, 5, 7, 8, 12, 13, 14] (fs [(.box (.agg (fs [(.sl (.int .i64))]))), .str, (.box (.agg (fs [.bool, (.sl (.int .i64)), (.sl (.int .i64))]))), .str, (.sl (.agg (fs [.bool, (.sl (.int .i64)), (.sl (.int .i64))]))), (.int .i64), (.int .i64)]) true []))]),
  (35, [(58, (.loop { key := 116, ht := [0, 1, 5], hτ := (fs [(.sl (.int .i64)), (.sl (.int .i64)), (.int .i64)]), ex := 0, ot := [], oτ := (fs []) }))]),
  (36, [(58, (.loop { key := 116, ht := [0, 1, 5], hτ := (fs [(.sl (.agg (fs [.bool, (.sl (.int .i64)), (.sl (.int .i64))]))), (.sl (.agg (fs [.bool, (.sl (.int .i64)), (.sl (.int .i64))]))), (.int .i64)]), ex := 0, ot := [], oτ := (fs []) }))]),
  (38, [(58, (.loop { key := 116, ht := [2, 3, 5, 14, 15, 16], hτ := (fs [(.box (.agg (fs [(.sl (.int .i64))]))), (.box (.agg (fs [(.int .i64), (.sl (.int .i64)), (.sl (.int .i64)), (.sl (.agg (fs [.bool, (.sl (.int .i64)), (.sl (.int .i64))])))]))), .str, (.sl (.int .i64)), (.int .i64), (.int .i64)]), ex := 0, ot := [2, 3, 5], oτ := (fs [(.box (.agg (fs [(.sl (.int .i64))]))), (.box (.agg (fs [(.int .i64), (.sl (.int .i64)), (.sl (.int .i64)), (.sl (.agg (fs [.bool, (.sl (.int .i64)), (.sl (.int .i64))])))]))), .str]) })), (250, (.loop { key := 500, ht := [2, 3, 5, 29, 30, 31], hτ := (fs [(.box (.agg (fs [(.sl (.int .i64))]))), (.box (.agg (fs [(.int .i64), (.sl (.int .i64)), (.sl (.int .i64)), (.sl (.agg (fs [.bool, (.sl (.int .i64)), (.sl (.int .i64))])))]))), .str, (.sl (.int .i64)), (.int .i64), (.int .i64)]), ex := 2, ot := [2, 3, 5], oτ := (fs [(.box (.agg (fs [(.sl (.int .i64))]))), (.box (.agg (fs [(.int .i64), (.sl (.int .i64)), (.sl (.int .i64)), (.sl (.agg (fs [.bool, (.sl (.int .i64)), (.sl (.int .i64))])))]))), .str]) }))]),
  (48, [(26, (.loop { key := 52, ht := [1, 2, 7, 8, 9], hτ := (fs [(.sl (.agg (fs [.bool, (.sl (.int .i64)), (.sl (.int .i64))]))), (.box (.agg (fs [(.sl (.int .i64))]))), (.sl (.agg (fs [.bool, (.sl (.int .i64)), (.sl (.int .i64))]))), (.int .i64), (.int .i64)]), ex := 0, ot := [1], oτ := (fs [(.sl (.agg (fs [.bool, (.sl (.int .i64)), (.sl (.int .i64))])))]) }))]),
  (50, [(31, (.cut [7] (fs [.str]) true [])), (122, (.loop { key := 244, ht := [1, 2, 3, 7, 35, 36, 37], hτ := (fs [(.sl (.int .i64)), (.int .i64), (.box (.agg (fs [(.sl (.int .i64))]))), .str, (.own (.int .i64)), (.int .i64), (.int .i64)]), ex := 0, ot := [1, 2, 3, 7], oτ := (fs [(.sl (.int .i64)), (.int .i64), (.box (.agg (fs [(.sl (.int .i64))]))), .str]) })), (7833, (.cut [1, 2, 3, 7, 9, 35, 36, 37] (fs [(.sl (.int .i64)), (.int .i64), (.box (.agg (fs [(.sl (.int .i64))]))), .str, (.int .i64), (.own (.int .i64)), (.int .i64), (.int .i64)]) true []))]),
  (62, [(26, (.loop { key := 52, ht := [1, 2, 9, 10, 11], hτ := (fs [(.int .i64), (.int .i64), (.sl (.int .i64)), (.int .i64), (.int .i64)]), ex := 0, ot := [], oτ := (fs []) }))]),
  (64, [(58, (.loop { key := 116, ht := [0, 3, 9, 10, 11], hτ := (fs [(.sl (.sl (.int .i64))), (.int .i64), (.sl (.sl (.int .i64))), (.int .i64), (.int .i64)]), ex := 0, ot := [0, 3], oτ := (fs [(.sl (.sl (.int .i64))), (.int .i64)]) })), (250, (.loop { key := 500, ht := [6, 25, 26, 27], hτ := (fs [(.own (.int .i64)), (.sl (.sl (.int .i64))), (.int .i64), (.int .i64)]), ex := 2, ot := [6], oτ := (fs [(.own (.int .i64))]) }))]),
  (67, [(58, (.loop { key := 116, ht := [3, 6, 7, 8], hτ := (fs [.str, (.sl (.int .i64)), (.int .i64), (.int .i64)]), ex := 0, ot := [3], oτ := (fs [.str]) }))]),
  (71, [(250, (.loop { key := 500, ht := [1, 3, 7, 8, 9], hτ := (fs [(.sl (.int .i64)), (.box (.agg (fs [(.sl (.int .i64))]))), (.own (.int .i64)), (.int .i64), (.int .i64)]), ex := 0, ot := [7], oτ := (fs [(.own (.int .i64))]) }))]),
  (78, [(127, (.cut [1, 11] (fs [(.own (.int .u8)), (.int .i64)]) true [])), (506, (.loop { key := 1012, ht := [1, 2, 4, 10, 11, 39, 40], hτ := (fs [(.own (.int .u8)), (.sl (.int .i64)), (.box (.agg (fs [(.sl (.int .i64))]))), (.int .i64), (.int .i64), (.int .i64), (.int .i64)]), ex := 0, ot := [1, 4, 10, 11], oτ := (fs [(.own (.int .u8)), (.box (.agg (fs [(.sl (.int .i64))]))), (.int .i64), (.int .i64)]) })), (64819, (.cut [1, 2, 4, 10, 11, 13, 39, 40] (fs [(.own (.int .u8)), (.sl (.int .i64)), (.box (.agg (fs [(.sl (.int .i64))]))), (.int .i64), (.int .i64), (.int .u8), (.int .i64), (.int .i64)]) true []))]),
  (82, [(28, (.loop { key := 56, ht := [1, 2, 3, 7], hτ := (fs [(.sl (.int .i64)), (.int .i64), (.box (.agg (fs [(.sl (.int .i64))]))), (.int .i64)]), ex := 0, ot := [2], oτ := (fs [(.int .i64)]) })), (907, (.cut [1, 2, 3, 7] (fs [(.sl (.int .i64)), (.int .i64), (.box (.agg (fs [(.sl (.int .i64))]))), (.int .i64)]) true []))]),
  (84, [(122, (.loop { key := 244, ht := [2, 5, 11, 12, 13], hτ := (fs [(.box (.agg (fs [(.sl (.int .i64))]))), (.int .i64), (.sl (.int .i64)), (.int .i64), (.int .i64)]), ex := 0, ot := [5], oτ := (fs [(.int .i64)]) }))]),
  (3539016, [(26, (.loop { key := 52, ht := [0, 1, 7, 8], hτ := (fs [(.sl (.int .i64)), (.fn 53 (fs [])), (.int .i64), (.int .i64)]), ex := 0, ot := [], oτ := (fs []) }))]),
  (4325448, [(26, (.loop { key := 52, ht := [0, 1, 7, 8], hτ := (fs [(.sl (.int .i64)), (.fn 65 (fs [])), (.int .i64), (.int .i64)]), ex := 0, ot := [], oτ := (fs []) }))]),
  (4980819, [(26, (.loop { key := 52, ht := [0, 1, 7, 8], hτ := (fs [(.sl (.agg (fs [.bool, (.sl (.int .i64)), (.sl (.int .i64))]))), (.fn 75 (fs [(.ptr (.agg (fs [(.sl (.int .i64))])))])), (.int .i64), (.int .i64)]), ex := 0, ot := [], oτ := (fs []) }))])]
noncomputable def deepT : List ((Nat × TypeId) × Ty) := [((7, 87), (.agg (fs [.bool, (.own (.int .i64)), (.own (.int .i64))])))]
noncomputable def borrowT : List (Nat × TypeId) := []
noncomputable def itFn (x : Int × Unit) : Option ((List UInt8 × Unit) × Unit) := if (-9223372036854775808 : Int) ≤ x.1 ∧ x.1 ≤ 9223372036854775807 then some ((Go.Lib.itoa x.1, ()), ()) else none
noncomputable def itG : ((psT.lookup 33).getD .nil).den → Option (((rsT.lookup 33).getD .nil).den × (ioTy ((ioT.lookup 33).getD []) ((psT.lookup 33).getD .nil)).den) := fun x => itFn x
noncomputable def E1 : Env := {
  P := Go.Proofs.Tryd.prog
  ps := fun f => (psT.lookup f).getD .nil
  io := fun f => (ioT.lookup f).getD []
  rs := fun f => (rsT.lookup f).getD .nil
  caps := fun f => (capsT.lookup f).getD .nil
  hint := fun f p => (((hintT.lookup f).getD []).lookup p).getD .none
  ext := fun f => if h : f = 33 then some (by subst h; exact itG) else none
  tab := [(0, pow10Cells)]
  clone := fun f => List.lookup f []
  grow := fun f => List.lookup f [(79, 22)]
  deep := fun d t => List.lookup (d, t) deepT
  borrow := fun d t => List.contains borrowT (d, t)
  twin := fun d f => (List.lookup (d, f) []).getD 0 }
/-- A part of a code, by its way from the root. -/
def _root_.Go.Code.part : Code → List Nat → Code
  | .seq a b, d :: r => if d = 0 then a.part r else b.part r
  | .cond _ a b, d :: r => if d = 0 then a.part r else b.part r
  | .block _ a, _ :: r => a.part r
  | .loop a, _ :: r => a.part r
  | c, _ => c
noncomputable def bodyOf (f : Nat) : Code := match (E1.P.funcs[f]?).bind (·.body) with
  | some c => c
  | none => .skip
end
end Go.Proofs.YtndnhbihcnlpaaaDoorSt.Ev
