/- A text of its own: Env; no condition but those that each theorem names. -/
import Derived.Test.YtpdbffngomlleaaDoorPtEvIt
import Derived.Test.YtpdbffngomlleaaDoorProg
import Derived.KernelRfl
namespace Go.Proofs.YtpdbffngomlleaaDoorPt.Ev
open Go
noncomputable section
def fs : List Ty → Ty
  | [] => .nil
  | a :: r => .cons a (fs r)
abbrev ya : Ty := .sl (.int .i64)
abbrev yb : Ty := .agg (fs [(.int .i64), ya, ya, (.sl (.agg (fs [.bool, ya, ya])))])
abbrev yc : Ty := .int .i64
abbrev yd : Ty := .agg (fs [.bool, ya, ya])
abbrev ye : Ty := .agg (fs [ya])
abbrev yf : Ty := .agg (fs [yc, (.own yc), (.own yc), (.own (.agg (fs [.bool, (.own yc), (.own yc)])))])
abbrev yg : Ty := fs [.bool]
abbrev yh : Ty := .box ye
abbrev yi : Ty := .agg (fs [.bool, (.own yc), (.own yc)])
abbrev yj : Ty := .sl yd
abbrev yk : Ty := fs [.str]
abbrev yl : Ty := .sl yb
abbrev ym : Ty := fs [(.ptr ye)]
abbrev yn : Ty := fs [(.own yc)]
abbrev yo : Ty := fs [yh, (.box yb), .str, ya, yc, yc]
abbrev yp : Ty := .own (.int .u8)
noncomputable def psT : List (Nat × Ty) := [
  (3, (fs [ye, yl])),
  (4, (fs [ye, yc])),
  (5, (fs [yl, yc])),
  (6, (fs [ye, yl])),
  (7, (fs [ye])),
  (8, (fs [yl])),
  (9, (fs [ye, yl])),
  (10, (fs [ye, ye])),
  (11, (fs [yl, yl])),
  (12, (fs [ya, yc])),
  (13, (fs [yb, yc])),
  (14, (fs [ye])),
  (15, (fs [ye, yb])),
  (16, (fs [ye, yl])),
  (17, (fs [ya])),
  (18, (fs [yb])),
  (19, (fs [ye])),
  (21, (fs [yb, (.ptr ye)])),
  (22, (fs [ye, yb])),
  (23, (fs [(.sb 55 5), .str])),
  (24, (fs [yc])),
  (25, (fs [ye, yb])),
  (26, (fs [(.sb 55 5)])),
  (27, (fs [ya, ya])),
  (28, (fs [yb, yb])),
  (29, (fs [yj, yc])),
  (30, (fs [yc, yc, yc])),
  (31, (fs [ya, yc, yc])),
  (32, (fs [ye, yj])),
  (33, (fs [yc])),
  (34, (fs [ye, yb])),
  (35, (fs [yj])),
  (37, (fs [yc])),
  (39, (fs [ye, yj])),
  (40, (fs [(.sl ya)])),
  (41, (fs [yc])),
  (44, (fs [yc])),
  (45, (fs [ya])),
  (46, (fs [ye, yj])),
  (47, (fs [yj, yj])),
  (48, (fs [yd, yc])),
  (49, (fs [ye, yj])),
  (50, (fs [yc])),
  (51, (fs [ye, yj])),
  (52, (fs [yd])),
  (55, (fs [yd, (.ptr ye)])),
  (56, (fs [ye, yd])),
  (60, (fs [ye, ya])),
  (61, (fs [yd, yd])),
  (62, (fs [ye, yd])),
  (63, (fs [ye, ya, yc])),
  (65, (fs [ye, ya])),
  (70, (fs [ye, yp, ya, yc])),
  (71, (fs [ye, ya])),
  (72, (fs [ye, ya, yc])),
  (73, (fs [ye, yc])),
  (79, (fs [ye, ya, yc])),
  (1441812, (fs [yl, (.fn 21 ym)])),
  (1441830, (fs [yl, (.fn 21 ym)])),
  (2490404, (fs [ya, (.fn 37 (fs []))])),
  (2490421, (fs [ya, (.fn 37 (fs []))])),
  (2752548, (fs [ya, (.fn 41 (fs []))])),
  (2752565, (fs [ya, (.fn 41 (fs []))])),
  (3670070, (fs [yj, (.fn 55 ym)])),
  (3670080, (fs [yj, (.fn 55 ym)]))]
noncomputable def ioT : List (Nat × List Bool) := [
  (3, [false, false]),
  (4, [false, false]),
  (5, [false, false]),
  (6, [false, false]),
  (7, [false]),
  (8, [false]),
  (9, [false, false]),
  (10, [false, false]),
  (11, [false, false]),
  (12, [false, false]),
  (13, [false, false]),
  (14, [false]),
  (15, [false, false]),
  (16, [false, false]),
  (17, [false]),
  (18, [false]),
  (19, [false]),
  (21, [false, false]),
  (22, [false, false]),
  (23, [true, false]),
  (24, [false]),
  (25, [false, false]),
  (26, [false]),
  (27, [false, false]),
  (28, [false, false]),
  (29, [false, false]),
  (30, [false, false, false]),
  (31, [false, false, false]),
  (32, [false, false]),
  (33, [false]),
  (34, [false, false]),
  (35, [false]),
  (37, [false]),
  (39, [false, false]),
  (40, [false]),
  (41, [false]),
  (44, [false]),
  (45, [false]),
  (46, [false, false]),
  (47, [false, false]),
  (48, [false, false]),
  (49, [false, false]),
  (50, [false]),
  (51, [false, false]),
  (52, [false]),
  (55, [false, false]),
  (56, [false, false]),
  (60, [false, false]),
  (61, [false, false]),
  (62, [false, false]),
  (63, [false, false, false]),
  (65, [false, false]),
  (70, [false, false, false, false]),
  (71, [false, false]),
  (72, [false, false, false]),
  (73, [false, false]),
  (79, [false, false, false]),
  (1441812, [false, false]),
  (1441830, [false, false]),
  (2490404, [false, false]),
  (2490421, [false, false]),
  (2752548, [false, false]),
  (2752565, [false, false]),
  (3670070, [false, false]),
  (3670080, [false, false])]
noncomputable def rsT : List (Nat × Ty) := [
  (3, yg),
  (4, (fs [yc])),
  (5, (fs [yc])),
  (6, (fs [.str, .bool])),
  (7, (fs [(.agg yn)])),
  (8, (fs [(.own yf)])),
  (9, (fs [.str, .bool])),
  (10, yg),
  (11, yg),
  (12, (fs [yc])),
  (13, (fs [yc])),
  (14, yg),
  (15, yg),
  (16, yk),
  (17, yn),
  (18, (fs [yf])),
  (19, yg),
  (21, yg),
  (22, yg),
  (23, (fs [yc, .unk])),
  (24, yk),
  (25, yk),
  (26, yk),
  (27, yg),
  (28, yg),
  (29, (fs [yc])),
  (30, yg),
  (31, yg),
  (32, yg),
  (33, yk),
  (34, yk),
  (35, (fs [(.own yi)])),
  (37, yg),
  (39, yg),
  (40, yn),
  (41, yg),
  (44, yk),
  (45, yk),
  (46, yk),
  (47, yg),
  (48, (fs [yc])),
  (49, yg),
  (50, yk),
  (51, yk),
  (52, (fs [yi])),
  (55, yg),
  (56, yg),
  (60, yk),
  (61, yg),
  (62, yg),
  (63, yk),
  (65, yg),
  (70, (fs [yp, yc])),
  (71, yg),
  (72, yn),
  (73, (fs [yc])),
  (79, (fs [yc])),
  (1441812, yg),
  (1441830, (fs [yc])),
  (2490404, yg),
  (2490421, (fs [yc])),
  (2752548, yg),
  (2752565, (fs [yc])),
  (3670070, yg),
  (3670080, (fs [yc]))]
noncomputable def capsT : List (Nat × Ty) := [
  (21, ym),
  (55, ym)]
noncomputable def hintT : List (Nat × List (Nat × Hint)) := [
  (5, [(122, (.loop { key := 244, ht := [0, 1, 5], hτ := (fs [yl, yc, yc]), ex := 0, ot := [1], oτ := (fs [yc]) }))]),
  (6, [(58, (.loop { key := 116, ht := [1, 2, 16, 17, 18], hτ := (fs [yl, yh, yl, yc, yc]), ex := 0, ot := [1, 2], oτ := (fs [yl, yh]) }))]),
  (8, [(58, (.loop { key := 116, ht := [0, 3, 4], hτ := (fs [yl, (.own yf), yc]), ex := 0, ot := [3], oτ := (fs [(.own yf)]) }))]),
  (9, [(122, (.loop { key := 244, ht := [2, 6, 22, 23, 24], hτ := (fs [(.ptr ye), (.sb 55 5), yl, yc, yc]), ex := 0, ot := [6], oτ := (fs [(.sb 55 5)]) }))]),
  (11, [(58, (.loop { key := 116, ht := [0, 1, 5], hτ := (fs [yl, yl, yc]), ex := 0, ot := [], oτ := (fs []) }))]),
  (16, [(58, (.loop { key := 116, ht := [2, 5, 8, 9, 10], hτ := (fs [yh, .str, yl, yc, yc]), ex := 0, ot := [5], oτ := yk }))]),
  (17, [(58, (.loop { key := 116, ht := [0, 3, 4], hτ := (fs [ya, (.own yc), yc]), ex := 0, ot := [3], oτ := yn }))]),
  (27, [(58, (.loop { key := 116, ht := [0, 1, 5], hτ := (fs [ya, ya, yc]), ex := 0, ot := [], oτ := (fs []) }))]),
  (29, [(122, (.loop { key := 244, ht := [0, 1, 5], hτ := (fs [yj, yc, yc]), ex := 0, ot := [1], oτ := (fs [yc]) }))]),
  (31, [(26, (.loop { key := 52, ht := [1, 2, 9, 10, 11], hτ := (fs [yc, yc, ya, yc, yc]), ex := 0, ot := [], oτ := (fs []) }))]),
  (34, [(58, (.loop { key := 116, ht := [2, 3, 5, 14, 15, 16], hτ := yo, ex := 0, ot := [2, 3, 5], oτ := (fs [yh, (.box yb), .str]) })), (250, (.loop { key := 500, ht := [2, 3, 5, 29, 30, 31], hτ := yo, ex := 2, ot := [2, 3, 5], oτ := (fs [yh, (.box yb), .str]) }))]),
  (35, [(58, (.loop { key := 116, ht := [0, 3, 4], hτ := (fs [yj, (.own yi), yc]), ex := 0, ot := [3], oτ := (fs [(.own yi)]) }))]),
  (40, [(58, (.loop { key := 116, ht := [0, 3, 9, 10, 11], hτ := (fs [(.sl ya), yc, (.sl ya), yc, yc]), ex := 0, ot := [0, 3], oτ := (fs [(.sl ya), yc]) })), (250, (.loop { key := 500, ht := [6, 25, 26, 27], hτ := (fs [(.own yc), (.sl ya), yc, yc]), ex := 2, ot := [6], oτ := yn }))]),
  (45, [(58, (.loop { key := 116, ht := [3, 6, 7, 8], hτ := (fs [.str, ya, yc, yc]), ex := 0, ot := [3], oτ := yk }))]),
  (46, [(122, (.loop { key := 244, ht := [2, 5, 12, 13, 14], hτ := (fs [yh, .str, yj, yc, yc]), ex := 0, ot := [5], oτ := yk })), (7833, (.cut [2, 5, 7, 12, 13, 14] (fs [yh, .str, (.box yd), yj, yc, yc]) true [])), (31335, (.cut [2, 5, 7, 8, 12, 13, 14] (fs [yh, .str, (.box yd), .str, yj, yc, yc]) true []))]),
  (47, [(58, (.loop { key := 116, ht := [0, 1, 5], hτ := (fs [yj, yj, yc]), ex := 0, ot := [], oτ := (fs []) }))]),
  (49, [(26, (.loop { key := 52, ht := [1, 2, 7, 8, 9], hτ := (fs [yj, yh, yj, yc, yc]), ex := 0, ot := [1], oτ := (fs [yj]) }))]),
  (51, [(122, (.loop { key := 244, ht := [2, 5, 11, 12, 13], hτ := (fs [yh, .str, yj, yc, yc]), ex := 0, ot := [5], oτ := yk })), (7833, (.cut [2, 5, 7, 11, 12, 13] (fs [yh, .str, (.box yd), yj, yc, yc]) true [])), (31335, (.cut [2, 5, 7, 11, 12, 13] (fs [yh, .str, (.box yd), yj, yc, yc]) true []))]),
  (63, [(31, (.cut [7] yk true [])), (122, (.loop { key := 244, ht := [1, 2, 3, 7, 35, 36, 37], hτ := (fs [ya, yc, yh, .str, (.own yc), yc, yc]), ex := 0, ot := [1, 2, 3, 7], oτ := (fs [ya, yc, yh, .str]) })), (7833, (.cut [1, 2, 3, 7, 9, 35, 36, 37] (fs [ya, yc, yh, .str, yc, (.own yc), yc, yc]) true []))]),
  (65, [(122, (.loop { key := 244, ht := [2, 5, 11, 12, 13], hτ := (fs [yh, yc, ya, yc, yc]), ex := 0, ot := [5], oτ := (fs [yc]) }))]),
  (70, [(127, (.cut [1, 11] (fs [yp, yc]) true [])), (506, (.loop { key := 1012, ht := [1, 2, 4, 10, 11, 39, 40], hτ := (fs [yp, ya, yh, yc, yc, yc, yc]), ex := 0, ot := [1, 4, 10, 11], oτ := (fs [yp, yh, yc, yc]) })), (64819, (.cut [1, 2, 4, 10, 11, 13, 39, 40] (fs [yp, ya, yh, yc, yc, (.int .u8), yc, yc]) true []))]),
  (72, [(250, (.loop { key := 500, ht := [1, 3, 7, 8, 9], hτ := (fs [ya, yh, (.own yc), yc, yc]), ex := 0, ot := [7], oτ := yn }))]),
  (79, [(28, (.loop { key := 56, ht := [1, 2, 3, 7], hτ := (fs [ya, yc, yh, yc]), ex := 0, ot := [2], oτ := (fs [yc]) })), (907, (.cut [1, 2, 3, 7] (fs [ya, yc, yh, yc]) true []))]),
  (1441830, [(26, (.loop { key := 52, ht := [0, 1, 7, 8], hτ := (fs [yl, (.fn 21 ym), yc, yc]), ex := 0, ot := [], oτ := (fs []) }))]),
  (2490421, [(26, (.loop { key := 52, ht := [0, 1, 7, 8], hτ := (fs [ya, (.fn 37 (fs [])), yc, yc]), ex := 0, ot := [], oτ := (fs []) }))]),
  (2752565, [(26, (.loop { key := 52, ht := [0, 1, 7, 8], hτ := (fs [ya, (.fn 41 (fs [])), yc, yc]), ex := 0, ot := [], oτ := (fs []) }))]),
  (3670080, [(26, (.loop { key := 52, ht := [0, 1, 7, 8], hτ := (fs [yj, (.fn 55 ym), yc, yc]), ex := 0, ot := [], oτ := (fs []) }))])]
noncomputable def deepT : List ((Nat × TypeId) × Ty) := [((7, 45), yf), ((7, 84), yi)]
noncomputable def borrowT : List (Nat × TypeId) := []
noncomputable def itFn (x : Int × Unit) : Option ((List UInt8 × Unit) × Unit) := if (-9223372036854775808 : Int) ≤ x.1 ∧ x.1 ≤ 9223372036854775807 then some ((Go.Lib.itoa x.1, ()), ()) else none
noncomputable def itG : ((psT.lookup 24).getD .nil).den → Option (((rsT.lookup 24).getD .nil).den × (ioTy ((ioT.lookup 24).getD []) ((psT.lookup 24).getD .nil)).den) := fun x => itFn x
noncomputable def swFn (x : List UInt8 × List UInt8 × Unit) : Option ((Int × Unit × Unit) × (List UInt8 × Unit)) := if x.1.length + x.2.1.length ≤ 140737488355328 then some (((x.2.1.length : Int), (), ()), (x.1 ++ x.2.1, ())) else none
noncomputable def swG : ((psT.lookup 23).getD .nil).den → Option (((rsT.lookup 23).getD .nil).den × (ioTy ((ioT.lookup 23).getD []) ((psT.lookup 23).getD .nil)).den) := fun x => swFn x
noncomputable def sxFn (x : List UInt8 × Unit) : Option ((List UInt8 × Unit) × Unit) := some ((x.1, ()), ())
noncomputable def sxG : ((psT.lookup 26).getD .nil).den → Option (((rsT.lookup 26).getD .nil).den × (ioTy ((ioT.lookup 26).getD []) ((psT.lookup 26).getD .nil)).den) := fun x => sxFn x
noncomputable def E1 : Env := {
  P := Go.Proofs.Tryd.prog
  ps := fun f => (psT.lookup f).getD .nil
  io := fun f => (ioT.lookup f).getD []
  rs := fun f => (rsT.lookup f).getD .nil
  caps := fun f => (capsT.lookup f).getD .nil
  hint := fun f p => (((hintT.lookup f).getD []).lookup p).getD .none
  ext := fun f => if h : f = 26 then some (by subst h; exact sxG) else if h : f = 23 then some (by subst h; exact swG) else if h : f = 24 then some (by subst h; exact itG) else none
  tab := [(0, pow10Cells)]
  clone := fun f => List.lookup f []
  grow := fun f => List.lookup f [(57, 22)]
  deep := fun d t => List.lookup (d, t) deepT
  borrow := fun d t => List.contains borrowT (d, t)
  twin := fun d f => (List.lookup (d, f) []).getD 0, sbt := fun t => List.lookup t [(55, 5)] }
def _root_.Go.Code.part : Code → List Nat → Code
  | .seq a b, d :: r => if d = 0 then a.part r else b.part r
  | .cond _ a b, d :: r => if d = 0 then a.part r else b.part r
  | .block _ a, _ :: r => a.part r
  | .loop a, _ :: r => a.part r
  | c, _ => c
noncomputable def bodyOf (f : Nat) : Code := match (E1.P.funcs[f]?).bind (·.body) with
  | some c => c
  | none => .skip
end
end Go.Proofs.YtpdbffngomlleaaDoorPt.Ev
