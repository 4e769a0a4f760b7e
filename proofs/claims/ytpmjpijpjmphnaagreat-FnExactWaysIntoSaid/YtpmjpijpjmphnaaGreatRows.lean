/-
  No cell of these rows narrows 'for every input' (looked for: loops, veiled, ifaces, maps, wideKeys, modest, calm, conditions, laid).
  DERIVED. THE GIVEN ROWS OF THIS SEAT. 6 by the template 'for every input the law returns true; each argument reads behind the call as it read before'; 0 by the template 'total and deterministic' (their statements: YtpmjpijpjmphnaaGreatTotals.lean).
  GIVEN WITH THE SEED: the statements are not yours to turn. If you find one false, say at which input.
  Laid BY PROGRAM, IN A SANDBOX (cutbox-rows.mjs): the forced cells as the released guide's own fill.sh prints them over the translation 866516e81bd6ce89… (all of the seat's roots in one cut). By AI agents, Wed Nov 11 2026. No macro, syntax, notation, axiom, sorry.
-/
import Derived.Test.YtpmjpijpjmphnaaGreatChecked
import GoSem.Claim
import GoSem.ClaimJoined
import GoSem.ClaimMapViews
import Derived.JoinedTies
import Derived.KernelRfl
namespace Go.Proofs.YtpmjpijpjmphnaaGreat
/- THE CELL 'sum', in the pinned program and in every row, IS THE sha256 OF THE DUMP (.gsa) THAT YtpmjpijpjmphnaaGreatProg.lean LOADS. Nothing in Lean hashes anything: it is a label: what it is worth is what the hold of that sum in a sandbox is worth. -/
noncomputable def Tryz.pinned : Pinned := { name := "ytpmjpijpjmphnaagreat", sum := "866516e81bd6ce890908b4521a72a42ac9b906fa88efbe34862a916786125e00", checked := Tryz.checked }
namespace Rows
def none {H : Type} : Left H := { results := [], args := [] }

/-- 'laws.FnExactSuperpose': WHATEVER THE INPUT: true; the input reads as it did. -/
def fnExactSuperposeSpec : ChangeSpec := { name := "fnExactSuperpose", fn := fun _ => fun
  | [d1, d2, d3, d4] => { results := [.lit (.bool true)], args := [d1, d2, d3, d4] }
  | _ => none }
def fnExactSuperposeRow : OpenClaim := { program := "ytpmjpijpjmphnaagreat", sum := "866516e81bd6ce890908b4521a72a42ac9b906fa88efbe34862a916786125e00", func := "loop.example/g00682/laws.FnExactSuperpose", spec := "fnExactSuperpose", unfollowed := true, recurses := true, apart := false }
def FnExactSuperposeSaid : Prop := fnExactSuperposeRow.holds Tryz.pinned (OpenSpec.ofChange fnExactSuperposeSpec)

/-- ITS FALSE NEIGHBOUR: 'it returns false'. Refute it at one input. -/
def fnExactSuperposeWrong : ChangeSpec := { name := "fnExactSuperpose", fn := fun _ => fun
  | [d1, d2, d3, d4] => { results := [.lit (.bool false)], args := [d1, d2, d3, d4] }
  | _ => none }
def FnExactSuperposeWrongFalsely : Prop := fnExactSuperposeRow.holds Tryz.pinned (OpenSpec.ofChange fnExactSuperposeWrong)

/-- 'laws.FnExactClausify': WHATEVER THE INPUT: true; the input reads as it did. -/
def fnExactClausifySpec : ChangeSpec := { name := "fnExactClausify", fn := fun _ => fun
  | [d1, d2] => { results := [.lit (.bool true)], args := [d1, d2] }
  | _ => none }
def fnExactClausifyRow : OpenClaim := { program := "ytpmjpijpjmphnaagreat", sum := "866516e81bd6ce890908b4521a72a42ac9b906fa88efbe34862a916786125e00", func := "loop.example/g00682/laws.FnExactClausify", spec := "fnExactClausify", unfollowed := true, recurses := true, apart := false }
def FnExactClausifySaid : Prop := fnExactClausifyRow.holds Tryz.pinned (OpenSpec.ofChange fnExactClausifySpec)

/-- ITS FALSE NEIGHBOUR: 'it returns false'. Refute it at one input. -/
def fnExactClausifyWrong : ChangeSpec := { name := "fnExactClausify", fn := fun _ => fun
  | [d1, d2] => { results := [.lit (.bool false)], args := [d1, d2] }
  | _ => none }
def FnExactClausifyWrongFalsely : Prop := fnExactClausifyRow.holds Tryz.pinned (OpenSpec.ofChange fnExactClausifyWrong)

/-- 'laws.FnExactSkolemWorld': WHATEVER THE INPUT: true; the input reads as it did. -/
def fnExactSkolemWorldSpec : ChangeSpec := { name := "fnExactSkolemWorld", fn := fun _ => fun
  | [d1, d2, d3] => { results := [.lit (.bool true)], args := [d1, d2, d3] }
  | _ => none }
def fnExactSkolemWorldRow : OpenClaim := { program := "ytpmjpijpjmphnaagreat", sum := "866516e81bd6ce890908b4521a72a42ac9b906fa88efbe34862a916786125e00", func := "loop.example/g00682/laws.FnExactSkolemWorld", spec := "fnExactSkolemWorld", unfollowed := true, recurses := true, apart := false }
def FnExactSkolemWorldSaid : Prop := fnExactSkolemWorldRow.holds Tryz.pinned (OpenSpec.ofChange fnExactSkolemWorldSpec)

/-- ITS FALSE NEIGHBOUR: 'it returns false'. Refute it at one input. -/
def fnExactSkolemWorldWrong : ChangeSpec := { name := "fnExactSkolemWorld", fn := fun _ => fun
  | [d1, d2, d3] => { results := [.lit (.bool false)], args := [d1, d2, d3] }
  | _ => none }
def FnExactSkolemWorldWrongFalsely : Prop := fnExactSkolemWorldRow.holds Tryz.pinned (OpenSpec.ofChange fnExactSkolemWorldWrong)

/-- 'laws.FnExactWaysInto': WHATEVER THE INPUT: true; the input reads as it did. -/
def fnExactWaysIntoSpec : ChangeSpec := { name := "fnExactWaysInto", fn := fun _ => fun
  | [d1, d2, d3] => { results := [.lit (.bool true)], args := [d1, d2, d3] }
  | _ => none }
def fnExactWaysIntoRow : OpenClaim := { program := "ytpmjpijpjmphnaagreat", sum := "866516e81bd6ce890908b4521a72a42ac9b906fa88efbe34862a916786125e00", func := "loop.example/g00682/laws.FnExactWaysInto", spec := "fnExactWaysInto", unfollowed := true, recurses := true, apart := false }
def FnExactWaysIntoSaid : Prop := fnExactWaysIntoRow.holds Tryz.pinned (OpenSpec.ofChange fnExactWaysIntoSpec)

/-- ITS FALSE NEIGHBOUR: 'it returns false'. Refute it at one input. -/
def fnExactWaysIntoWrong : ChangeSpec := { name := "fnExactWaysInto", fn := fun _ => fun
  | [d1, d2, d3] => { results := [.lit (.bool false)], args := [d1, d2, d3] }
  | _ => none }
def FnExactWaysIntoWrongFalsely : Prop := fnExactWaysIntoRow.holds Tryz.pinned (OpenSpec.ofChange fnExactWaysIntoWrong)

/-- 'laws.FnSuperSound': WHATEVER THE INPUT: true; the input reads as it did. -/
def fnSuperSoundSpec : ChangeSpec := { name := "fnSuperSound", fn := fun _ => fun
  | [d1, d2] => { results := [.lit (.bool true)], args := [d1, d2] }
  | _ => none }
def fnSuperSoundRow : OpenClaim := { program := "ytpmjpijpjmphnaagreat", sum := "866516e81bd6ce890908b4521a72a42ac9b906fa88efbe34862a916786125e00", func := "loop.example/g00682/laws.FnSuperSound", spec := "fnSuperSound", unfollowed := true, recurses := true, apart := false }
def FnSuperSoundSaid : Prop := fnSuperSoundRow.holds Tryz.pinned (OpenSpec.ofChange fnSuperSoundSpec)

/-- ITS FALSE NEIGHBOUR: 'it returns false'. Refute it at one input. -/
def fnSuperSoundWrong : ChangeSpec := { name := "fnSuperSound", fn := fun _ => fun
  | [d1, d2] => { results := [.lit (.bool false)], args := [d1, d2] }
  | _ => none }
def FnSuperSoundWrongFalsely : Prop := fnSuperSoundRow.holds Tryz.pinned (OpenSpec.ofChange fnSuperSoundWrong)

/-- 'laws.FnSkolem': WHATEVER THE INPUT: true; the input reads as it did. -/
def fnSkolemSpec : ChangeSpec := { name := "fnSkolem", fn := fun _ => fun
  | [d1, d2] => { results := [.lit (.bool true)], args := [d1, d2] }
  | _ => none }
def fnSkolemRow : OpenClaim := { program := "ytpmjpijpjmphnaagreat", sum := "866516e81bd6ce890908b4521a72a42ac9b906fa88efbe34862a916786125e00", func := "loop.example/g00682/laws.FnSkolem", spec := "fnSkolem", unfollowed := true, recurses := true, apart := false }
def FnSkolemSaid : Prop := fnSkolemRow.holds Tryz.pinned (OpenSpec.ofChange fnSkolemSpec)

/-- ITS FALSE NEIGHBOUR: 'it returns false'. Refute it at one input. -/
def fnSkolemWrong : ChangeSpec := { name := "fnSkolem", fn := fun _ => fun
  | [d1, d2] => { results := [.lit (.bool false)], args := [d1, d2] }
  | _ => none }
def FnSkolemWrongFalsely : Prop := fnSkolemRow.holds Tryz.pinned (OpenSpec.ofChange fnSkolemWrong)

/- THE SECOND FORM. 'bulk': how many values and letters a reading holds, each counted each time it is reached (what is shared counts as often as it is met; a slice's spare places count too). A statement '..UptoSaid' is the law's where the arguments, and the package variables that the reading takes, are together of bulk at most 1048576: NARROWER than '..Said'. Prove '..Said' where nothing that the law and all that it calls make is longer than what came in: it says more and counts as full. Else prove '..UptoSaid'. A law counts once. -/
mutual
def uptoBulk {H : Type} : DataW H → Nat
  | .lit (.string bytes) => bytes.length + 1
  | .lit _ => 1
  | .nil => 1
  | .ptr d => uptoBulk d + 1
  | .slice elems spare => uptoBulkAll elems + uptoBulkAll spare + 1
  | .agg parts => uptoBulkAll parts + 1
  | .iface _ d => uptoBulk d + 1
  | .map entries => uptoBulkEntries entries + 1
  | .held _ => 1
def uptoBulkAll {H : Type} : List (DataW H) → Nat
  | [] => 0
  | d :: r => uptoBulk d + uptoBulkAll r
def uptoBulkEntries {H : Type} : List (Lit × DataW H) → Nat
  | [] => 0
  | x :: r => uptoBulkEntry x + uptoBulkEntries r
def uptoBulkEntry {H : Type} : Lit × DataW H → Nat
  | (.string bytes, d) => bytes.length + uptoBulk d + 1
  | (_, d) => uptoBulk d + 1
 end
def uptoSmall : (H : Type) → List (DataW H) → Bool := fun _ ds => decide (uptoBulkAll ds ≤ 1048576)
def OpenSpec.upto (s : _root_.Go.ChangeSpec) : _root_.Go.OpenSpec := { _root_.Go.OpenSpec.ofChange s with cond := some uptoSmall }

/-- 'laws.FnExactSuperpose', WHERE WHAT IT READS IS OF BULK AT MOST 1048576: true; the input reads as it did. -/
def fnExactSuperposeUptoRow : OpenClaim := { program := "ytpmjpijpjmphnaagreat", sum := "866516e81bd6ce890908b4521a72a42ac9b906fa88efbe34862a916786125e00", func := "loop.example/g00682/laws.FnExactSuperpose", spec := "fnExactSuperpose", unfollowed := true, recurses := true, apart := false, narrowed := true }
def FnExactSuperposeUptoSaid : Prop := fnExactSuperposeUptoRow.holds Tryz.pinned (OpenSpec.upto fnExactSuperposeSpec)

/-- 'laws.FnExactClausify', WHERE WHAT IT READS IS OF BULK AT MOST 1048576: true; the input reads as it did. -/
def fnExactClausifyUptoRow : OpenClaim := { program := "ytpmjpijpjmphnaagreat", sum := "866516e81bd6ce890908b4521a72a42ac9b906fa88efbe34862a916786125e00", func := "loop.example/g00682/laws.FnExactClausify", spec := "fnExactClausify", unfollowed := true, recurses := true, apart := false, narrowed := true }
def FnExactClausifyUptoSaid : Prop := fnExactClausifyUptoRow.holds Tryz.pinned (OpenSpec.upto fnExactClausifySpec)

/-- 'laws.FnExactSkolemWorld', WHERE WHAT IT READS IS OF BULK AT MOST 1048576: true; the input reads as it did. -/
def fnExactSkolemWorldUptoRow : OpenClaim := { program := "ytpmjpijpjmphnaagreat", sum := "866516e81bd6ce890908b4521a72a42ac9b906fa88efbe34862a916786125e00", func := "loop.example/g00682/laws.FnExactSkolemWorld", spec := "fnExactSkolemWorld", unfollowed := true, recurses := true, apart := false, narrowed := true }
def FnExactSkolemWorldUptoSaid : Prop := fnExactSkolemWorldUptoRow.holds Tryz.pinned (OpenSpec.upto fnExactSkolemWorldSpec)

/-- 'laws.FnExactWaysInto', WHERE WHAT IT READS IS OF BULK AT MOST 1048576: true; the input reads as it did. -/
def fnExactWaysIntoUptoRow : OpenClaim := { program := "ytpmjpijpjmphnaagreat", sum := "866516e81bd6ce890908b4521a72a42ac9b906fa88efbe34862a916786125e00", func := "loop.example/g00682/laws.FnExactWaysInto", spec := "fnExactWaysInto", unfollowed := true, recurses := true, apart := false, narrowed := true }
def FnExactWaysIntoUptoSaid : Prop := fnExactWaysIntoUptoRow.holds Tryz.pinned (OpenSpec.upto fnExactWaysIntoSpec)

/-- 'laws.FnSuperSound', WHERE WHAT IT READS IS OF BULK AT MOST 1048576: true; the input reads as it did. -/
def fnSuperSoundUptoRow : OpenClaim := { program := "ytpmjpijpjmphnaagreat", sum := "866516e81bd6ce890908b4521a72a42ac9b906fa88efbe34862a916786125e00", func := "loop.example/g00682/laws.FnSuperSound", spec := "fnSuperSound", unfollowed := true, recurses := true, apart := false, narrowed := true }
def FnSuperSoundUptoSaid : Prop := fnSuperSoundUptoRow.holds Tryz.pinned (OpenSpec.upto fnSuperSoundSpec)

/-- 'laws.FnSkolem', WHERE WHAT IT READS IS OF BULK AT MOST 1048576: true; the input reads as it did. -/
def fnSkolemUptoRow : OpenClaim := { program := "ytpmjpijpjmphnaagreat", sum := "866516e81bd6ce890908b4521a72a42ac9b906fa88efbe34862a916786125e00", func := "loop.example/g00682/laws.FnSkolem", spec := "fnSkolem", unfollowed := true, recurses := true, apart := false, narrowed := true }
def FnSkolemUptoSaid : Prop := fnSkolemUptoRow.holds Tryz.pinned (OpenSpec.upto fnSkolemSpec)

end Rows
end Go.Proofs.YtpmjpijpjmphnaaGreat
