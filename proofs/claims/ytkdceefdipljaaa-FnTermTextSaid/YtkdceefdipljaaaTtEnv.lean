/- A text of its own: Env; no condition but those that each theorem names. -/
import Derived.Test.YtkdceefdipljaaaTtEvWt
import Derived.Test.YtkdceefdipljaaaProg
import Derived.KernelRfl
/- The evaluator's tables for the functions of this seat. Printed by gen.py. -/
namespace Go.Proofs.YtkdceefdipljaaaTt.Ev
open Go
noncomputable section
def fs : List Ty → Ty
  | [] => .nil
  | a :: r => .cons a (fs r)
noncomputable def psT : List (Nat × Ty) := [
  (3, (fs [(.sl (.int .u8)), (.sl (.int .u8))])),
  (7, (fs [(.sl (.int .u8)), (.sl (.int .u8))])),
  (8, (fs [(.sl (.int .u8))])),
  (9, (fs [(.agg (fs [(.sl (.int .i64))])), (.sl (.int .i64))])),
  (10, (fs [(.agg (fs [(.sl (.int .i64))])), (.sl (.int .i64))])),
  (11, (fs [(.agg (fs [(.sl (.int .i64))])), .str])),
  (12, (fs [(.sl (.int .i64)), (.sl (.int .i64))])),
  (13, (fs [(.sl (.int .u8))])),
  (14, (fs [(.agg (fs [(.sl (.int .i64))])), .str])),
  (15, (fs [(.sl (.int .u8))])),
  (16, (fs [(.agg (fs [(.sl (.int .i64))])), (.sl (.int .i64)), (.int .i64)])),
  (17, (fs [(.agg (fs [(.sl (.int .i64))])), (.sl (.int .i64)), (.int .i64)])),
  (18, (fs [(.agg (fs [(.sl (.int .i64))])), (.sl (.int .i64)), (.sl (.int .i64))])),
  (42, (fs [(.sl (.int .i64)), (.sl (.int .i64))])),
  (59, (fs [(.sl (.int .u8))])),
  (60, (fs [(.agg (fs [(.sl (.int .i64))])), (.sl (.int .i64))])),
  (61, (fs [(.agg (fs [(.sl (.int .i64))])), (.sl (.int .i64))])),
  (62, (fs [(.agg (fs [(.sl (.int .i64))])), (.sl (.int .i64))])),
  (63, (fs [(.agg (fs [(.sl (.int .i64))])), (.sl (.int .i64)), (.int .i64)])),
  (64, (fs [(.agg (fs [(.sl (.int .i64))]))])),
  (65, (fs [(.box (.agg (fs [(.agg (fs [(.sl (.int .i64))])), .str, (.int .i64), (.int .i64), .bool])))])),
  (66, (fs [(.box (.agg (fs [(.agg (fs [(.sl (.int .i64))])), .str, (.int .i64), (.int .i64), .bool])))])),
  (67, (fs [(.box (.agg (fs [(.sl (.int .u8)), (.int .i64), (.int .u64)])))])),
  (68, (fs [(.box (.agg (fs [(.sl (.int .u8)), (.int .i64), (.int .u64)]))), (.agg (fs [(.sl (.int .i64))]))])),
  (69, (fs [(.box (.agg (fs [(.sl (.int .u8)), (.int .i64), (.int .u64)]))), (.int .i64)])),
  (70, (fs [(.box (.agg (fs [(.sl (.int .u8)), (.int .i64), (.int .u64)]))), .str, .str])),
  (71, (fs [(.agg (fs [(.sl (.int .i64))]))])),
  (72, (fs [(.agg (fs [(.sl (.int .i64))])), .str, (.int .i64)])),
  (73, (fs [(.agg (fs [(.sl (.int .i64))])), (.sl (.int .i64))])),
  (74, (fs [(.box (.agg (fs [(.sl (.int .u8)), (.int .i64), (.int .u64)]))), (.sl (.int .i64))])),
  (75, (fs [(.sl (.int .i64)), (.int .i64)])),
  (76, (fs [(.agg (fs [(.sl (.int .i64))])), (.sl (.int .i64))])),
  (77, (fs [(.int .i64), (.int .i64), (.int .i64)])),
  (78, (fs [(.sl (.int .i64)), (.int .i64)])),
  (79, (fs [(.sl (.int .i64)), (.sl (.int .i64))])),
  (80, (fs [(.sl (.sl (.int .i64)))])),
  (123, (fs [(.agg (fs [(.sl (.int .i64))])), (.own (.int .u8)), (.sl (.int .i64)), (.int .i64)])),
  (124, (fs [(.agg (fs [(.sl (.int .i64))])), (.sl (.int .i64)), (.int .i64)])),
  (126, (fs [(.int .i64)])),
  (127, (fs [(.box (.agg (fs [(.agg (fs [(.sl (.int .i64))])), .str, (.int .i64), (.int .i64), .bool])))])),
  (128, (fs [(.box (.agg (fs [(.agg (fs [(.sl (.int .i64))])), .str, (.int .i64), (.int .i64), .bool]))), .str])),
  (129, (fs [(.box (.agg (fs [(.sl (.int .u8)), (.int .i64), (.int .u64)]))), (.int .i64)])),
  (130, (fs [(.box (.agg (fs [(.sl (.int .u8)), (.int .i64), (.int .u64)]))), (.agg (fs [(.sl (.int .i64))])), (.int .i64), (.int .i64)])),
  (131, (fs [(.sl (.int .i64)), (.int .i64), (.int .i64)])),
  (132, (fs [(.agg (fs [(.sl (.int .i64))])), (.sl (.int .i64)), (.int .i64)])),
  (134, (fs [(.agg (fs [(.sl (.int .i64))])), (.int .i64)])),
  (135, (fs [(.sl (.int .i64))])),
  (166, (fs [(.box (.agg (fs [(.sl (.int .u8)), (.int .i64), (.int .u64)])))])),
  (8323197, (fs [(.sl (.int .i64)), (.fn 126 (fs []))])),
  (8323237, (fs [(.sl (.int .i64)), (.fn 126 (fs []))]))]
noncomputable def ioT : List (Nat × List Bool) := [
  (3, [false, false]),
  (7, [false, false]),
  (8, [false]),
  (9, [false, false]),
  (10, [false, false]),
  (11, [false, false]),
  (12, [false, false]),
  (13, [false]),
  (14, [false, false]),
  (15, [false]),
  (16, [false, false, false]),
  (17, [false, false, false]),
  (18, [false, false, false]),
  (42, [false, false]),
  (59, [false]),
  (60, [false, false]),
  (61, [false, false]),
  (62, [false, false]),
  (63, [false, false, false]),
  (64, [false]),
  (65, [true]),
  (66, [true]),
  (67, [true]),
  (68, [true, false]),
  (69, [true, false]),
  (70, [true, false, false]),
  (71, [false]),
  (72, [false, false, false]),
  (73, [false, false]),
  (74, [true, false]),
  (75, [false, false]),
  (76, [false, false]),
  (77, [false, false, false]),
  (78, [false, false]),
  (79, [false, false]),
  (80, [false]),
  (123, [false, false, false, false]),
  (124, [false, false, false]),
  (126, [false]),
  (127, [true]),
  (128, [true, false]),
  (129, [true, false]),
  (130, [true, false, false, false]),
  (131, [false, false, false]),
  (132, [false, false, false]),
  (134, [false, false]),
  (135, [false]),
  (166, [true]),
  (8323197, [false, false]),
  (8323237, [false, false])]
noncomputable def rsT : List (Nat × Ty) := [
  (3, (fs [.bool])),
  (7, (fs [.bool])),
  (8, (fs [(.agg (fs [(.sl (.int .i64))])), (.sl (.int .i64))])),
  (9, (fs [.str, .bool])),
  (10, (fs [.str, .bool])),
  (11, (fs [(.own (.int .i64)), (.int .i64), .bool])),
  (12, (fs [.bool])),
  (13, (fs [(.agg (fs [(.sl (.int .i64))])), .str])),
  (14, (fs [(.own (.int .i64)), (.int .i64), .bool])),
  (15, (fs [(.agg (fs [(.sl (.int .i64))])), (.sl (.int .i64)), (.int .i64)])),
  (16, (fs [(.own (.int .i64)), .bool])),
  (17, (fs [(.own (.int .i64)), .bool])),
  (18, (fs [.bool, .bool])),
  (42, (fs [.bool])),
  (59, (fs [(.agg (fs [(.sl (.int .i64))])), (.sl (.int .i64))])),
  (60, (fs [.bool])),
  (61, (fs [.str])),
  (62, (fs [.bool])),
  (63, (fs [.str])),
  (64, (fs [.bool])),
  (65, (fs [(.own (.int .i64))])),
  (66, (fs [.bool])),
  (67, (fs [(.agg (fs [(.own (.int .i64))]))])),
  (68, (fs [(.sl (.int .i64))])),
  (69, (fs [.bool])),
  (70, (fs [.str])),
  (71, (fs [.bool])),
  (72, (fs [(.own (.int .i64)), (.int .i64), .bool])),
  (73, (fs [.bool])),
  (74, (fs [(.int .i64)])),
  (75, (fs [(.own (.int .i64))])),
  (76, (fs [.bool])),
  (77, (fs [.bool])),
  (78, (fs [(.own (.int .i64))])),
  (79, (fs [.bool])),
  (80, (fs [(.own (.own (.int .i64)))])),
  (123, (fs [(.own (.int .u8)), (.int .i64)])),
  (124, (fs [(.own (.int .i64))])),
  (126, (fs [.bool])),
  (127, (fs [(.int .u8)])),
  (128, (fs [(.int .u8)])),
  (129, (fs [(.int .i64)])),
  (130, (fs [(.own (.int .i64))])),
  (131, (fs [.bool])),
  (132, (fs [(.int .i64)])),
  (134, (fs [(.int .i64)])),
  (135, (fs [(.own (.int .i64))])),
  (166, (fs [(.int .i64)])),
  (8323197, (fs [.bool])),
  (8323237, (fs [(.int .i64)]))]
noncomputable def capsT : List (Nat × Ty) := [
  (174, (fs [(.ptr (.agg (fs [(.sl (.int .i64))])))])),
  (179, (fs [(.ptr (.int .i64))])),
  (186, (fs [(.ptr (.agg (fs [(.sl (.int .i64))])))])),
  (189, (fs [(.ptr (.int .i64))]))]
noncomputable def hintT : List (Nat × List (Nat × Hint)) := [
  (3, [(127, (.cut [1] (fs [(.sl (.int .u8))]) true [])), (4095, (.cut [1] (fs [(.sl (.int .u8))]) true []))]),
  (13, [(31, (.cut [2, 5, 6] (fs [(.box (.agg (fs [(.own (.int .i64))]))), (.box (.agg (fs [(.sl (.int .i64))]))), .str]) true []))]),
  (42, [(58, (.loop { key := 116, ht := [0, 1, 12, 13], hτ := (fs [(.sl (.int .i64)), (.sl (.int .i64)), (.int .i64), (.int .i64)]), ex := 0, ot := [], oτ := (fs []) }))]),
  (63, [(31, (.cut [7] (fs [.str]) true [])), (122, (.loop { key := 244, ht := [1, 2, 3, 7, 35, 36, 37], hτ := (fs [(.sl (.int .i64)), (.int .i64), (.box (.agg (fs [(.sl (.int .i64))]))), .str, (.own (.int .i64)), (.int .i64), (.int .i64)]), ex := 0, ot := [1, 2, 3, 7], oτ := (fs [(.sl (.int .i64)), (.int .i64), (.box (.agg (fs [(.sl (.int .i64))]))), .str]) })), (7833, (.cut [1, 2, 3, 7, 9, 35, 36, 37] (fs [(.sl (.int .i64)), (.int .i64), (.box (.agg (fs [(.sl (.int .i64))]))), .str, (.int .i64), (.own (.int .i64)), (.int .i64), (.int .i64)]) true []))]),
  (65, [(255, (.cut [0, 5] (fs [(.box (.agg (fs [(.sl (.int .i64)), .str, (.int .i64), (.int .i64), .bool]))), (.own (.int .i64))]) true [])), (1018, (.loop { key := 2036, ht := [0, 4, 5, 71, 72], hτ := (fs [(.box (.agg (fs [(.sl (.int .i64)), .str, (.int .i64), (.int .i64), .bool]))), (.int .i64), (.own (.int .i64)), (.int .i64), (.int .i64)]), ex := 1, ot := [0, 4, 5], oτ := (fs [(.box (.agg (fs [(.sl (.int .i64)), .str, (.int .i64), (.int .i64), .bool]))), (.int .i64), (.own (.int .i64))]) })), (65177, (.cut [0, 4, 5, 71, 72] (fs [(.box (.agg (fs [(.sl (.int .i64)), .str, (.int .i64), (.int .i64), .bool]))), (.int .i64), (.own (.int .i64)), (.int .i64), (.int .i64)]) true []))]),
  (67, [(7, (.cut [0, 2, 3] (fs [(.box (.agg (fs [(.sl (.int .u8)), (.int .i64), (.int .u64)]))), (.box (.agg (fs [(.own (.int .i64))]))), (.box (.agg (fs [(.own (.int .i64))])))]) true []))]),
  (68, [(7, (.cut [0, 5] (fs [(.box (.agg (fs [(.sl (.int .u8)), (.int .i64), (.int .u64)]))), (.sl (.int .i64))]) true []))]),
  (70, [(26, (.loop { key := 52, ht := [0, 1, 2, 7], hτ := (fs [(.box (.agg (fs [(.sl (.int .u8)), (.int .i64), (.int .u64)]))), .str, .str, (.int .i64)]), ex := 0, ot := [0, 1], oτ := (fs [(.box (.agg (fs [(.sl (.int .u8)), (.int .i64), (.int .u64)]))), .str]) })), (105, (.cut [0, 1, 2, 7] (fs [(.box (.agg (fs [(.sl (.int .u8)), (.int .i64), (.int .u64)]))), .str, .str, (.int .i64)]) true []))]),
  (72, [(511, (.cut [2, 10] (fs [(.int .i64), (.own (.int .i64))]) true [])), (2042, (.loop { key := 4084, ht := [1, 2, 3, 9, 10, 11], hτ := (fs [.str, (.int .i64), (.box (.agg (fs [(.sl (.int .i64))]))), (.int .i64), (.own (.int .i64)), (.int .i64)]), ex := 0, ot := [1, 2, 3, 9, 10], oτ := (fs [.str, (.int .i64), (.box (.agg (fs [(.sl (.int .i64))]))), (.int .i64), (.own (.int .i64))]) })), (65353, (.cut [1, 2, 3, 9, 10, 11, 12] (fs [.str, (.int .i64), (.box (.agg (fs [(.sl (.int .i64))]))), (.int .i64), (.own (.int .i64)), (.int .i64), (.int .u8)]) true []))]),
  (75, [(58, (.loop { key := 116, ht := [1, 5, 11, 12], hτ := (fs [(.int .i64), (.own (.int .i64)), (.int .i64), (.int .i64)]), ex := 0, ot := [5], oτ := (fs [(.own (.int .i64))]), hal := [(10, 5)] })), (467, (.cut [1, 5, 11, 12] (fs [(.int .i64), (.own (.int .i64)), (.int .i64), (.int .i64)]) true [(10, 5)]))]),
  (76, [(122, (.loop { key := 244, ht := [2, 5, 11, 12, 13], hτ := (fs [(.box (.agg (fs [(.sl (.int .i64))]))), (.int .i64), (.sl (.int .i64)), (.int .i64), (.int .i64)]), ex := 0, ot := [5], oτ := (fs [(.int .i64)]) }))]),
  (78, [(58, (.loop { key := 116, ht := [1, 5, 11, 12], hτ := (fs [(.int .i64), (.own (.int .i64)), (.int .i64), (.int .i64)]), ex := 0, ot := [5], oτ := (fs [(.own (.int .i64))]), hal := [(10, 5)] })), (467, (.cut [1, 5, 11, 12] (fs [(.int .i64), (.own (.int .i64)), (.int .i64), (.int .i64)]) true [(10, 5)]))]),
  (79, [(58, (.loop { key := 116, ht := [0, 1, 12, 13], hτ := (fs [(.sl (.int .i64)), (.sl (.int .i64)), (.int .i64), (.int .i64)]), ex := 0, ot := [], oτ := (fs []) }))]),
  (80, [(122, (.loop { key := 244, ht := [3, 4, 15, 16, 17], hτ := (fs [(.map (.int .i64)), (.own (.own (.int .i64))), (.sl (.sl (.int .i64))), (.int .i64), (.int .i64)]), ex := 0, ot := [4], oτ := (fs [(.own (.own (.int .i64)))]) })), (62670, (.loop { key := 125340, ht := [3, 4, 5, 15, 16, 17, 27, 28, 29], hτ := (fs [(.map (.int .i64)), (.own (.own (.int .i64))), (.int .i64), (.sl (.sl (.int .i64))), (.int .i64), (.int .i64), (.sl (.int .i64)), (.int .i64), (.int .i64)]), ex := 2, ot := [3, 4, 15, 16, 17], oτ := (fs [(.map (.int .i64)), (.own (.own (.int .i64))), (.sl (.sl (.int .i64))), (.int .i64), (.int .i64)]) })), (501363, (.cut [3, 4, 5, 15, 16, 17, 27, 28, 29] (fs [(.map (.int .i64)), (.own (.own (.int .i64))), (.int .i64), (.sl (.sl (.int .i64))), (.int .i64), (.int .i64), (.sl (.int .i64)), (.int .i64), (.int .i64)]) true [])), (8021811, (.cut [3, 4, 5, 7, 8, 15, 16, 17, 27, 28, 29] (fs [(.map (.int .i64)), (.own (.own (.int .i64))), (.int .i64), (.int .i64), (.int .i64), (.sl (.sl (.int .i64))), (.int .i64), (.int .i64), (.sl (.int .i64)), (.int .i64), (.int .i64)]) true []))]),
  (123, [(127, (.cut [1, 11] (fs [(.own (.int .u8)), (.int .i64)]) true [])), (506, (.loop { key := 1012, ht := [1, 2, 4, 10, 11, 39, 40], hτ := (fs [(.own (.int .u8)), (.sl (.int .i64)), (.box (.agg (fs [(.sl (.int .i64))]))), (.int .i64), (.int .i64), (.int .i64), (.int .i64)]), ex := 0, ot := [1, 4, 10, 11], oτ := (fs [(.own (.int .u8)), (.box (.agg (fs [(.sl (.int .i64))]))), (.int .i64), (.int .i64)]) })), (64819, (.cut [1, 2, 4, 10, 11, 13, 39, 40] (fs [(.own (.int .u8)), (.sl (.int .i64)), (.box (.agg (fs [(.sl (.int .i64))]))), (.int .i64), (.int .i64), (.int .u8), (.int .i64), (.int .i64)]) true []))]),
  (124, [(250, (.loop { key := 500, ht := [1, 3, 7, 8, 9], hτ := (fs [(.sl (.int .i64)), (.box (.agg (fs [(.sl (.int .i64))]))), (.own (.int .i64)), (.int .i64), (.int .i64)]), ex := 0, ot := [7], oτ := (fs [(.own (.int .i64))]) }))]),
  (128, [(58, (.loop { key := 116, ht := [0, 1, 5, 10, 11], hτ := (fs [(.box (.agg (fs [(.sl (.int .i64)), .str, (.int .i64), (.int .i64), .bool]))), .str, (.int .u8), (.int .i64), (.int .i64)]), ex := 0, ot := [0], oτ := (fs [(.box (.agg (fs [(.sl (.int .i64)), .str, (.int .i64), (.int .i64), .bool])))]) }))]),
  (129, [(15, (.cut [0, 1, 5] (fs [(.box (.agg (fs [(.sl (.int .u8)), (.int .i64), (.int .u64)]))), (.int .i64), (.int .i64)]) true []))]),
  (130, [(31, (.cut [0, 2, 3, 5, 9] (fs [(.box (.agg (fs [(.sl (.int .u8)), (.int .i64), (.int .u64)]))), (.int .i64), (.int .i64), (.box (.agg (fs [(.sl (.int .i64))]))), (.int .i64)]) true [])), (2042, (.loop { key := 4084, ht := [0, 2, 3, 5, 10, 11], hτ := (fs [(.box (.agg (fs [(.sl (.int .u8)), (.int .i64), (.int .u64)]))), (.int .i64), (.int .i64), (.box (.agg (fs [(.sl (.int .i64))]))), (.own (.int .i64)), (.int .i64)]), ex := 0, ot := [0, 10], oτ := (fs [(.box (.agg (fs [(.sl (.int .u8)), (.int .i64), (.int .u64)]))), (.own (.int .i64))]) }))]),
  (131, [(26, (.loop { key := 52, ht := [1, 2, 9, 10, 11], hτ := (fs [(.int .i64), (.int .i64), (.sl (.int .i64)), (.int .i64), (.int .i64)]), ex := 0, ot := [], oτ := (fs []) }))]),
  (132, [(28, (.loop { key := 56, ht := [1, 2, 3, 7], hτ := (fs [(.sl (.int .i64)), (.int .i64), (.box (.agg (fs [(.sl (.int .i64))]))), (.int .i64)]), ex := 0, ot := [2], oτ := (fs [(.int .i64)]) })), (907, (.cut [1, 2, 3, 7] (fs [(.sl (.int .i64)), (.int .i64), (.box (.agg (fs [(.sl (.int .i64))]))), (.int .i64)]) true []))]),
  (166, [(7, (.cut [0, 3] (fs [(.box (.agg (fs [(.sl (.int .u8)), (.int .i64), (.int .u64)]))), (.int .i64)]) true []))]),
  (8323237, [(26, (.loop { key := 52, ht := [0, 1, 7, 8], hτ := (fs [(.sl (.int .i64)), (.fn 126 (fs [])), (.int .i64), (.int .i64)]), ex := 0, ot := [], oτ := (fs []) }))])]
noncomputable def deepT : List ((Nat × TypeId) × Ty) := [((7, 108), (.agg (fs [(.int .i64), (.int .i64), (.own (.int .i64)), (.own (.int .i64))]))), ((14, 24), (.own (.int .i64))), ((24, 108), (.agg (fs [(.int .i64), (.int .i64), (.own (.int .i64)), (.own (.int .i64))]))), ((44, 108), (.agg (fs [(.int .i64), (.int .i64), (.own (.int .i64)), (.own (.int .i64))]))), ((51, 108), (.agg (fs [(.int .i64), (.int .i64), (.own (.int .i64)), (.own (.int .i64))]))), ((88, 108), (.agg (fs [(.int .i64), (.int .i64), (.own (.int .i64)), (.own (.int .i64))]))), ((106, 108), (.agg (fs [(.int .i64), (.int .i64), (.own (.int .i64)), (.own (.int .i64))])))]
noncomputable def borrowT : List (Nat × TypeId) := [(22, 24), (25, 24), (27, 24), (30, 24), (32, 24), (37, 24), (52, 24)]
noncomputable def E1 : Env := {
  P := Go.Proofs.Try.prog
  ps := fun f => (psT.lookup f).getD .nil
  io := fun f => (ioT.lookup f).getD []
  rs := fun f => (rsT.lookup f).getD .nil
  caps := fun f => (capsT.lookup f).getD .nil
  hint := fun f p => (((hintT.lookup f).getD []).lookup p).getD .none
  ext := fun _ => none
  clone := fun f => List.lookup f [(133, 24)]
  deep := fun d t => List.lookup (d, t) deepT
  borrow := fun d t => List.contains borrowT (d, t)
  twin := fun d f => (List.lookup (d, f) []).getD 0 }
/-- A part of a code, by its way from the root. -/
def _root_.Go.Code.part : Code → List Nat → Code
  | .seq a b, d :: r => if d = 0 then a.part r else b.part r
  | .cond _ a b, d :: r => if d = 0 then a.part r else b.part r
  | .block _ a, _ :: r => a.part r
  | .loop a, _ :: r => a.part r
  | c, _ => c
noncomputable def bodyOf (f : Nat) : Code := match (E1.P.funcs[f]?).bind (·.body) with
  | some c => c
  | none => .skip
end
end Go.Proofs.YtkdceefdipljaaaTt.Ev
