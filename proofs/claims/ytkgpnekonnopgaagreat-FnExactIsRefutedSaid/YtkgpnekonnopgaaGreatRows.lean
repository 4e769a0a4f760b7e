/-
  No cell of these rows narrows 'for every input' (looked for: loops, veiled, ifaces, maps, wideKeys, modest, calm, conditions, laid).
  DERIVED. THE GIVEN ROWS OF THIS SEAT. 3 by the template 'for every input the law returns true; each argument reads behind the call as it read before'; 0 by the template 'total and deterministic' (their statements: YtkgpnekonnopgaaGreatTotals.lean).
  GIVEN WITH THE SEED: the statements are not yours to turn. If you find one false, say at which input.
  Laid BY PROGRAM, IN A SANDBOX (cutbox-rows.mjs): the forced cells as the released guide's own fill.sh prints them over the translation c39f5a8d2230131f… (all of the seat's roots in one cut). By AI agents, Wed Nov 11 2026. No macro, syntax, notation, axiom, sorry.
-/
import Derived.Test.YtkgpnekonnopgaaGreatChecked
import GoSem.Claim
import GoSem.ClaimJoined
import GoSem.ClaimMapViews
import Derived.JoinedTies
import Derived.KernelRfl
namespace Go.Proofs.YtkgpnekonnopgaaGreat
/- THE CELL 'sum', in the pinned program and in every row, IS THE sha256 OF THE DUMP (.gsa) THAT YtkgpnekonnopgaaGreatProg.lean LOADS. Nothing in Lean hashes anything: it is a label: what it is worth is what the hold of that sum in a sandbox is worth. -/
noncomputable def Tryz.pinned : Pinned := { name := "ytkgpnekonnopgaagreat", sum := "c39f5a8d2230131fdd33493035b9e42464a2380fc5acf77fa27772ac4ddeaa35", checked := Tryz.checked }
namespace Rows
def none {H : Type} : Left H := { results := [], args := [] }

/-- 'laws.FnExactCheckSteps': WHATEVER THE INPUT: true; the input reads as it did. -/
def fnExactCheckStepsSpec : ChangeSpec := { name := "fnExactCheckSteps", fn := fun _ => fun
  | [d1, d2, d3] => { results := [.lit (.bool true)], args := [d1, d2, d3] }
  | _ => none }
def fnExactCheckStepsRow : OpenClaim := { program := "ytkgpnekonnopgaagreat", sum := "c39f5a8d2230131fdd33493035b9e42464a2380fc5acf77fa27772ac4ddeaa35", func := "loop.example/g00682/laws.FnExactCheckSteps", spec := "fnExactCheckSteps", unfollowed := true, recurses := true, apart := false }
def FnExactCheckStepsSaid : Prop := fnExactCheckStepsRow.holds Tryz.pinned (OpenSpec.ofChange fnExactCheckStepsSpec)

/-- ITS FALSE NEIGHBOUR: 'it returns false'. Refute it at one input. -/
def fnExactCheckStepsWrong : ChangeSpec := { name := "fnExactCheckSteps", fn := fun _ => fun
  | [d1, d2, d3] => { results := [.lit (.bool false)], args := [d1, d2, d3] }
  | _ => none }
def FnExactCheckStepsWrongFalsely : Prop := fnExactCheckStepsRow.holds Tryz.pinned (OpenSpec.ofChange fnExactCheckStepsWrong)

/-- 'laws.FnExactMakeStep': WHATEVER THE INPUT: true; the input reads as it did. -/
def fnExactMakeStepSpec : ChangeSpec := { name := "fnExactMakeStep", fn := fun _ => fun
  | [d1, d2, d3, d4, d5, d6] => { results := [.lit (.bool true)], args := [d1, d2, d3, d4, d5, d6] }
  | _ => none }
def fnExactMakeStepRow : OpenClaim := { program := "ytkgpnekonnopgaagreat", sum := "c39f5a8d2230131fdd33493035b9e42464a2380fc5acf77fa27772ac4ddeaa35", func := "loop.example/g00682/laws.FnExactMakeStep", spec := "fnExactMakeStep", unfollowed := true, recurses := true, apart := false }
def FnExactMakeStepSaid : Prop := fnExactMakeStepRow.holds Tryz.pinned (OpenSpec.ofChange fnExactMakeStepSpec)

/-- ITS FALSE NEIGHBOUR: 'it returns false'. Refute it at one input. -/
def fnExactMakeStepWrong : ChangeSpec := { name := "fnExactMakeStep", fn := fun _ => fun
  | [d1, d2, d3, d4, d5, d6] => { results := [.lit (.bool false)], args := [d1, d2, d3, d4, d5, d6] }
  | _ => none }
def FnExactMakeStepWrongFalsely : Prop := fnExactMakeStepRow.holds Tryz.pinned (OpenSpec.ofChange fnExactMakeStepWrong)

/-- 'laws.FnExactIsRefuted': WHATEVER THE INPUT: true; the input reads as it did. -/
def fnExactIsRefutedSpec : ChangeSpec := { name := "fnExactIsRefuted", fn := fun _ => fun
  | [d1, d2, d3] => { results := [.lit (.bool true)], args := [d1, d2, d3] }
  | _ => none }
def fnExactIsRefutedRow : OpenClaim := { program := "ytkgpnekonnopgaagreat", sum := "c39f5a8d2230131fdd33493035b9e42464a2380fc5acf77fa27772ac4ddeaa35", func := "loop.example/g00682/laws.FnExactIsRefuted", spec := "fnExactIsRefuted", unfollowed := true, recurses := true, apart := false }
def FnExactIsRefutedSaid : Prop := fnExactIsRefutedRow.holds Tryz.pinned (OpenSpec.ofChange fnExactIsRefutedSpec)

/-- ITS FALSE NEIGHBOUR: 'it returns false'. Refute it at one input. -/
def fnExactIsRefutedWrong : ChangeSpec := { name := "fnExactIsRefuted", fn := fun _ => fun
  | [d1, d2, d3] => { results := [.lit (.bool false)], args := [d1, d2, d3] }
  | _ => none }
def FnExactIsRefutedWrongFalsely : Prop := fnExactIsRefutedRow.holds Tryz.pinned (OpenSpec.ofChange fnExactIsRefutedWrong)

/- THE SECOND FORM. 'bulk': how many values and letters a reading holds, each counted each time it is reached (what is shared counts as often as it is met; a slice's spare places count too). A statement '..UptoSaid' is the law's where the arguments, and the package variables that the reading takes, are together of bulk at most 1048576: NARROWER than '..Said'. Prove '..Said' where nothing that the law and all that it calls make is longer than what came in: it says more and counts as full. Else prove '..UptoSaid'. A law counts once. -/
mutual
def uptoBulk {H : Type} : DataW H → Nat
  | .lit (.string bytes) => bytes.length + 1
  | .lit _ => 1
  | .nil => 1
  | .ptr d => uptoBulk d + 1
  | .slice elems spare => uptoBulkAll elems + uptoBulkAll spare + 1
  | .agg parts => uptoBulkAll parts + 1
  | .iface _ d => uptoBulk d + 1
  | .map entries => uptoBulkEntries entries + 1
  | .held _ => 1
def uptoBulkAll {H : Type} : List (DataW H) → Nat
  | [] => 0
  | d :: r => uptoBulk d + uptoBulkAll r
def uptoBulkEntries {H : Type} : List (Lit × DataW H) → Nat
  | [] => 0
  | x :: r => uptoBulkEntry x + uptoBulkEntries r
def uptoBulkEntry {H : Type} : Lit × DataW H → Nat
  | (.string bytes, d) => bytes.length + uptoBulk d + 1
  | (_, d) => uptoBulk d + 1
 end
def uptoSmall : (H : Type) → List (DataW H) → Bool := fun _ ds => decide (uptoBulkAll ds ≤ 1048576)
def OpenSpec.upto (s : _root_.Go.ChangeSpec) : _root_.Go.OpenSpec := { _root_.Go.OpenSpec.ofChange s with cond := some uptoSmall }

/-- 'laws.FnExactCheckSteps', WHERE WHAT IT READS IS OF BULK AT MOST 1048576: true; the input reads as it did. -/
def fnExactCheckStepsUptoRow : OpenClaim := { program := "ytkgpnekonnopgaagreat", sum := "c39f5a8d2230131fdd33493035b9e42464a2380fc5acf77fa27772ac4ddeaa35", func := "loop.example/g00682/laws.FnExactCheckSteps", spec := "fnExactCheckSteps", unfollowed := true, recurses := true, apart := false, narrowed := true }
def FnExactCheckStepsUptoSaid : Prop := fnExactCheckStepsUptoRow.holds Tryz.pinned (OpenSpec.upto fnExactCheckStepsSpec)

/-- 'laws.FnExactMakeStep', WHERE WHAT IT READS IS OF BULK AT MOST 1048576: true; the input reads as it did. -/
def fnExactMakeStepUptoRow : OpenClaim := { program := "ytkgpnekonnopgaagreat", sum := "c39f5a8d2230131fdd33493035b9e42464a2380fc5acf77fa27772ac4ddeaa35", func := "loop.example/g00682/laws.FnExactMakeStep", spec := "fnExactMakeStep", unfollowed := true, recurses := true, apart := false, narrowed := true }
def FnExactMakeStepUptoSaid : Prop := fnExactMakeStepUptoRow.holds Tryz.pinned (OpenSpec.upto fnExactMakeStepSpec)

/-- 'laws.FnExactIsRefuted', WHERE WHAT IT READS IS OF BULK AT MOST 1048576: true; the input reads as it did. -/
def fnExactIsRefutedUptoRow : OpenClaim := { program := "ytkgpnekonnopgaagreat", sum := "c39f5a8d2230131fdd33493035b9e42464a2380fc5acf77fa27772ac4ddeaa35", func := "loop.example/g00682/laws.FnExactIsRefuted", spec := "fnExactIsRefuted", unfollowed := true, recurses := true, apart := false, narrowed := true }
def FnExactIsRefutedUptoSaid : Prop := fnExactIsRefutedUptoRow.holds Tryz.pinned (OpenSpec.upto fnExactIsRefutedSpec)

end Rows
end Go.Proofs.YtkgpnekonnopgaaGreat
