/-
  No cell of these rows narrows 'for every input' (looked for: loops, veiled, ifaces, maps, wideKeys, modest, calm, conditions, laid).
  DERIVED. THE GIVEN ROWS OF THIS SEAT. 6 by the template 'for every input the law returns true; each argument reads behind the call as it read before'; 0 by the template 'total and deterministic' (their statements: YtejklhcalinhpaaTotals.lean).
  GIVEN WITH THE SEED: the statements are not yours to turn. If you find one false, say at which input.
  Laid BY PROGRAM, IN A SANDBOX (cutbox-rows.mjs): the forced cells as the released guide's own fill.sh prints them over the translation c010172c30e04f73… (all of the seat's roots in one cut). By AI agents, Wed Nov 11 2026. No macro, syntax, notation, axiom, sorry.
-/
import Derived.Test.YtejklhcalinhpaaChecked
import GoSem.Claim
import GoSem.ClaimJoined
import GoSem.ClaimMapViews
import Derived.JoinedTies
import Derived.KernelRfl
namespace Go.Proofs.Ytejklhcalinhpaa
/- THE CELL 'sum', in the pinned program and in every row, IS THE sha256 OF THE DUMP (.gsa) THAT YtejklhcalinhpaaProg.lean LOADS. Nothing in Lean hashes anything: it is a label: what it is worth is what the hold of that sum in a sandbox is worth. -/
noncomputable def Try.pinned : Pinned := { name := "ytejklhcalinhpaa", sum := "c010172c30e04f73e90321446a9b53f7d8fbc1c4032d29cc31d136e42dd4563e", checked := Try.checked }
namespace Rows
def none {H : Type} : Left H := { results := [], args := [] }

/-- 'laws.FnExactRunesIn': WHATEVER THE INPUT: true; the input reads as it did. -/
def fnExactRunesInSpec : ChangeSpec := { name := "fnExactRunesIn", fn := fun _ => fun
  | [d] => { results := [.lit (.bool true)], args := [d] }
  | _ => none }
def fnExactRunesInRow : OpenClaim := { program := "ytejklhcalinhpaa", sum := "c010172c30e04f73e90321446a9b53f7d8fbc1c4032d29cc31d136e42dd4563e", func := "loop.example/g00682/laws.FnExactRunesIn", spec := "fnExactRunesIn", apart := false }
def FnExactRunesInSaid : Prop := fnExactRunesInRow.holds Try.pinned (OpenSpec.ofChange fnExactRunesInSpec)

/-- ITS FALSE NEIGHBOUR: 'it returns false'. Refute it at one input. -/
def fnExactRunesInWrong : ChangeSpec := { name := "fnExactRunesIn", fn := fun _ => fun
  | [d] => { results := [.lit (.bool false)], args := [d] }
  | _ => none }
def FnExactRunesInWrongFalsely : Prop := fnExactRunesInRow.holds Try.pinned (OpenSpec.ofChange fnExactRunesInWrong)

/-- 'laws.FnExactOldWorld': WHATEVER THE INPUT: true; the input reads as it did. -/
def fnExactOldWorldSpec : ChangeSpec := { name := "fnExactOldWorld", fn := fun _ => fun
  | [d1, d2, d3] => { results := [.lit (.bool true)], args := [d1, d2, d3] }
  | _ => none }
def fnExactOldWorldRow : OpenClaim := { program := "ytejklhcalinhpaa", sum := "c010172c30e04f73e90321446a9b53f7d8fbc1c4032d29cc31d136e42dd4563e", func := "loop.example/g00682/laws.FnExactOldWorld", spec := "fnExactOldWorld", unfollowed := true, recurses := true, apart := false }
def FnExactOldWorldSaid : Prop := fnExactOldWorldRow.holds Try.pinned (OpenSpec.ofChange fnExactOldWorldSpec)

/-- ITS FALSE NEIGHBOUR: 'it returns false'. Refute it at one input. -/
def fnExactOldWorldWrong : ChangeSpec := { name := "fnExactOldWorld", fn := fun _ => fun
  | [d1, d2, d3] => { results := [.lit (.bool false)], args := [d1, d2, d3] }
  | _ => none }
def FnExactOldWorldWrongFalsely : Prop := fnExactOldWorldRow.holds Try.pinned (OpenSpec.ofChange fnExactOldWorldWrong)

/-- 'laws.FnExactClauseText': WHATEVER THE INPUT: true; the input reads as it did. -/
def fnExactClauseTextSpec : ChangeSpec := { name := "fnExactClauseText", fn := fun _ => fun
  | [d1, d2] => { results := [.lit (.bool true)], args := [d1, d2] }
  | _ => none }
def fnExactClauseTextRow : OpenClaim := { program := "ytejklhcalinhpaa", sum := "c010172c30e04f73e90321446a9b53f7d8fbc1c4032d29cc31d136e42dd4563e", func := "loop.example/g00682/laws.FnExactClauseText", spec := "fnExactClauseText", unfollowed := true, recurses := true, apart := false }
def FnExactClauseTextSaid : Prop := fnExactClauseTextRow.holds Try.pinned (OpenSpec.ofChange fnExactClauseTextSpec)

/-- ITS FALSE NEIGHBOUR: 'it returns false'. Refute it at one input. -/
def fnExactClauseTextWrong : ChangeSpec := { name := "fnExactClauseText", fn := fun _ => fun
  | [d1, d2] => { results := [.lit (.bool false)], args := [d1, d2] }
  | _ => none }
def FnExactClauseTextWrongFalsely : Prop := fnExactClauseTextRow.holds Try.pinned (OpenSpec.ofChange fnExactClauseTextWrong)

/-- 'laws.FnExactGoodForm': WHATEVER THE INPUT: true; the input reads as it did. -/
def fnExactGoodFormSpec : ChangeSpec := { name := "fnExactGoodForm", fn := fun _ => fun
  | [d1, d2] => { results := [.lit (.bool true)], args := [d1, d2] }
  | _ => none }
def fnExactGoodFormRow : OpenClaim := { program := "ytejklhcalinhpaa", sum := "c010172c30e04f73e90321446a9b53f7d8fbc1c4032d29cc31d136e42dd4563e", func := "loop.example/g00682/laws.FnExactGoodForm", spec := "fnExactGoodForm", unfollowed := true, recurses := true, apart := false }
def FnExactGoodFormSaid : Prop := fnExactGoodFormRow.holds Try.pinned (OpenSpec.ofChange fnExactGoodFormSpec)

/-- ITS FALSE NEIGHBOUR: 'it returns false'. Refute it at one input. -/
def fnExactGoodFormWrong : ChangeSpec := { name := "fnExactGoodForm", fn := fun _ => fun
  | [d1, d2] => { results := [.lit (.bool false)], args := [d1, d2] }
  | _ => none }
def FnExactGoodFormWrongFalsely : Prop := fnExactGoodFormRow.holds Try.pinned (OpenSpec.ofChange fnExactGoodFormWrong)

/-- 'laws.FnVarints': WHATEVER THE INPUT: true; the input reads as it did. -/
def fnVarintsSpec : ChangeSpec := { name := "fnVarints", fn := fun _ => fun
  | [d1, d2] => { results := [.lit (.bool true)], args := [d1, d2] }
  | _ => none }
def fnVarintsRow : OpenClaim := { program := "ytejklhcalinhpaa", sum := "c010172c30e04f73e90321446a9b53f7d8fbc1c4032d29cc31d136e42dd4563e", func := "loop.example/g00682/laws.FnVarints", spec := "fnVarints", apart := false }
def FnVarintsSaid : Prop := fnVarintsRow.holds Try.pinned (OpenSpec.ofChange fnVarintsSpec)

/-- ITS FALSE NEIGHBOUR: 'it returns false'. Refute it at one input. -/
def fnVarintsWrong : ChangeSpec := { name := "fnVarints", fn := fun _ => fun
  | [d1, d2] => { results := [.lit (.bool false)], args := [d1, d2] }
  | _ => none }
def FnVarintsWrongFalsely : Prop := fnVarintsRow.holds Try.pinned (OpenSpec.ofChange fnVarintsWrong)

/-- 'laws.FnExactIsPushed': WHATEVER THE INPUT: true; the input reads as it did. -/
def fnExactIsPushedSpec : ChangeSpec := { name := "fnExactIsPushed", fn := fun _ => fun
  | [d1, d2] => { results := [.lit (.bool true)], args := [d1, d2] }
  | _ => none }
def fnExactIsPushedRow : OpenClaim := { program := "ytejklhcalinhpaa", sum := "c010172c30e04f73e90321446a9b53f7d8fbc1c4032d29cc31d136e42dd4563e", func := "loop.example/g00682/laws.FnExactIsPushed", spec := "fnExactIsPushed", unfollowed := true, recurses := true, apart := false }
def FnExactIsPushedSaid : Prop := fnExactIsPushedRow.holds Try.pinned (OpenSpec.ofChange fnExactIsPushedSpec)

/-- ITS FALSE NEIGHBOUR: 'it returns false'. Refute it at one input. -/
def fnExactIsPushedWrong : ChangeSpec := { name := "fnExactIsPushed", fn := fun _ => fun
  | [d1, d2] => { results := [.lit (.bool false)], args := [d1, d2] }
  | _ => none }
def FnExactIsPushedWrongFalsely : Prop := fnExactIsPushedRow.holds Try.pinned (OpenSpec.ofChange fnExactIsPushedWrong)

/- THE SECOND FORM. 'bulk': how many values and letters a reading holds, each counted each time it is reached (what is shared counts as often as it is met; a slice's spare places count too). A statement '..UptoSaid' is the law's where the arguments, and the package variables that the reading takes, are together of bulk at most 1048576: NARROWER than '..Said'. Prove '..Said' where nothing that the law and all that it calls make is longer than what came in: it says more and counts as full. Else prove '..UptoSaid'. A law counts once. -/
mutual
def uptoBulk {H : Type} : DataW H → Nat
  | .lit (.string bytes) => bytes.length + 1
  | .lit _ => 1
  | .nil => 1
  | .ptr d => uptoBulk d + 1
  | .slice elems spare => uptoBulkAll elems + uptoBulkAll spare + 1
  | .agg parts => uptoBulkAll parts + 1
  | .iface _ d => uptoBulk d + 1
  | .map entries => uptoBulkEntries entries + 1
  | .held _ => 1
def uptoBulkAll {H : Type} : List (DataW H) → Nat
  | [] => 0
  | d :: r => uptoBulk d + uptoBulkAll r
def uptoBulkEntries {H : Type} : List (Lit × DataW H) → Nat
  | [] => 0
  | x :: r => uptoBulkEntry x + uptoBulkEntries r
def uptoBulkEntry {H : Type} : Lit × DataW H → Nat
  | (.string bytes, d) => bytes.length + uptoBulk d + 1
  | (_, d) => uptoBulk d + 1
 end
def uptoSmall : (H : Type) → List (DataW H) → Bool := fun _ ds => decide (uptoBulkAll ds ≤ 1048576)
def OpenSpec.upto (s : _root_.Go.ChangeSpec) : _root_.Go.OpenSpec := { _root_.Go.OpenSpec.ofChange s with cond := some uptoSmall }

/-- 'laws.FnExactRunesIn', WHERE WHAT IT READS IS OF BULK AT MOST 1048576: true; the input reads as it did. -/
def fnExactRunesInUptoRow : OpenClaim := { program := "ytejklhcalinhpaa", sum := "c010172c30e04f73e90321446a9b53f7d8fbc1c4032d29cc31d136e42dd4563e", func := "loop.example/g00682/laws.FnExactRunesIn", spec := "fnExactRunesIn", apart := false, narrowed := true }
def FnExactRunesInUptoSaid : Prop := fnExactRunesInUptoRow.holds Try.pinned (OpenSpec.upto fnExactRunesInSpec)

/-- 'laws.FnExactOldWorld', WHERE WHAT IT READS IS OF BULK AT MOST 1048576: true; the input reads as it did. -/
def fnExactOldWorldUptoRow : OpenClaim := { program := "ytejklhcalinhpaa", sum := "c010172c30e04f73e90321446a9b53f7d8fbc1c4032d29cc31d136e42dd4563e", func := "loop.example/g00682/laws.FnExactOldWorld", spec := "fnExactOldWorld", unfollowed := true, recurses := true, apart := false, narrowed := true }
def FnExactOldWorldUptoSaid : Prop := fnExactOldWorldUptoRow.holds Try.pinned (OpenSpec.upto fnExactOldWorldSpec)

/-- 'laws.FnExactClauseText', WHERE WHAT IT READS IS OF BULK AT MOST 1048576: true; the input reads as it did. -/
def fnExactClauseTextUptoRow : OpenClaim := { program := "ytejklhcalinhpaa", sum := "c010172c30e04f73e90321446a9b53f7d8fbc1c4032d29cc31d136e42dd4563e", func := "loop.example/g00682/laws.FnExactClauseText", spec := "fnExactClauseText", unfollowed := true, recurses := true, apart := false, narrowed := true }
def FnExactClauseTextUptoSaid : Prop := fnExactClauseTextUptoRow.holds Try.pinned (OpenSpec.upto fnExactClauseTextSpec)

/-- 'laws.FnExactGoodForm', WHERE WHAT IT READS IS OF BULK AT MOST 1048576: true; the input reads as it did. -/
def fnExactGoodFormUptoRow : OpenClaim := { program := "ytejklhcalinhpaa", sum := "c010172c30e04f73e90321446a9b53f7d8fbc1c4032d29cc31d136e42dd4563e", func := "loop.example/g00682/laws.FnExactGoodForm", spec := "fnExactGoodForm", unfollowed := true, recurses := true, apart := false, narrowed := true }
def FnExactGoodFormUptoSaid : Prop := fnExactGoodFormUptoRow.holds Try.pinned (OpenSpec.upto fnExactGoodFormSpec)

/-- 'laws.FnVarints', WHERE WHAT IT READS IS OF BULK AT MOST 1048576: true; the input reads as it did. -/
def fnVarintsUptoRow : OpenClaim := { program := "ytejklhcalinhpaa", sum := "c010172c30e04f73e90321446a9b53f7d8fbc1c4032d29cc31d136e42dd4563e", func := "loop.example/g00682/laws.FnVarints", spec := "fnVarints", apart := false, narrowed := true }
def FnVarintsUptoSaid : Prop := fnVarintsUptoRow.holds Try.pinned (OpenSpec.upto fnVarintsSpec)

/-- 'laws.FnExactIsPushed', WHERE WHAT IT READS IS OF BULK AT MOST 1048576: true; the input reads as it did. -/
def fnExactIsPushedUptoRow : OpenClaim := { program := "ytejklhcalinhpaa", sum := "c010172c30e04f73e90321446a9b53f7d8fbc1c4032d29cc31d136e42dd4563e", func := "loop.example/g00682/laws.FnExactIsPushed", spec := "fnExactIsPushed", unfollowed := true, recurses := true, apart := false, narrowed := true }
def FnExactIsPushedUptoSaid : Prop := fnExactIsPushedUptoRow.holds Try.pinned (OpenSpec.upto fnExactIsPushedSpec)

end Rows
end Go.Proofs.Ytejklhcalinhpaa
