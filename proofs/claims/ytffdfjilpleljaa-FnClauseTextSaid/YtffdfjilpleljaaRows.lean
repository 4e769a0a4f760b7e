/-
  No cell of these rows narrows 'for every input' (looked for: loops, veiled, ifaces, maps, wideKeys, modest, calm, conditions, laid).
  DERIVED. THE GIVEN ROWS OF THIS SEAT. 4 by the template 'for every input the law returns true; each argument reads behind the call as it read before'; 0 by the template 'total and deterministic' (their statements: YtffdfjilpleljaaTotals.lean).
  GIVEN WITH THE SEED: the statements are not yours to turn. If you find one false, say at which input.
  Laid BY PROGRAM, IN A SANDBOX (cutbox-rows.mjs): the forced cells as the released guide's own fill.sh prints them over the translation 87c3b08916b6d0ed… (all of the seat's roots in one cut). By AI agents, Wed Nov 11 2026. No macro, syntax, notation, axiom, sorry.
-/
import Derived.Test.YtffdfjilpleljaaChecked
import GoSem.Claim
import GoSem.ClaimJoined
import GoSem.ClaimMapViews
import Derived.JoinedTies
import Derived.KernelRfl
namespace Go.Proofs.Ytffdfjilpleljaa
/- THE CELL 'sum', in the pinned program and in every row, IS THE sha256 OF THE DUMP (.gsa) THAT YtffdfjilpleljaaProg.lean LOADS. Nothing in Lean hashes anything: it is a label: what it is worth is what the hold of that sum in a sandbox is worth. -/
noncomputable def Try.pinned : Pinned := { name := "ytffdfjilpleljaa", sum := "87c3b08916b6d0edc61699061ec69bf98295d76e432969b558379c844896e29c", checked := Try.checked }
namespace Rows
def none {H : Type} : Left H := { results := [], args := [] }

/-- 'laws.FnExactFormText': WHATEVER THE INPUT: true; the input reads as it did. -/
def fnExactFormTextSpec : ChangeSpec := { name := "fnExactFormText", fn := fun _ => fun
  | [d1, d2] => { results := [.lit (.bool true)], args := [d1, d2] }
  | _ => none }
def fnExactFormTextRow : OpenClaim := { program := "ytffdfjilpleljaa", sum := "87c3b08916b6d0edc61699061ec69bf98295d76e432969b558379c844896e29c", func := "loop.example/g00682/laws.FnExactFormText", spec := "fnExactFormText", unfollowed := true, recurses := true, apart := false }
def FnExactFormTextSaid : Prop := fnExactFormTextRow.holds Try.pinned (OpenSpec.ofChange fnExactFormTextSpec)

/-- ITS FALSE NEIGHBOUR: 'it returns false'. Refute it at one input. -/
def fnExactFormTextWrong : ChangeSpec := { name := "fnExactFormText", fn := fun _ => fun
  | [d1, d2] => { results := [.lit (.bool false)], args := [d1, d2] }
  | _ => none }
def FnExactFormTextWrongFalsely : Prop := fnExactFormTextRow.holds Try.pinned (OpenSpec.ofChange fnExactFormTextWrong)

/-- 'laws.FnTermText': WHATEVER THE INPUT: true; the input reads as it did. -/
def fnTermTextSpec : ChangeSpec := { name := "fnTermText", fn := fun _ => fun
  | [d1, d2] => { results := [.lit (.bool true)], args := [d1, d2] }
  | _ => none }
def fnTermTextRow : OpenClaim := { program := "ytffdfjilpleljaa", sum := "87c3b08916b6d0edc61699061ec69bf98295d76e432969b558379c844896e29c", func := "loop.example/g00682/laws.FnTermText", spec := "fnTermText", unfollowed := true, recurses := true, apart := false }
def FnTermTextSaid : Prop := fnTermTextRow.holds Try.pinned (OpenSpec.ofChange fnTermTextSpec)

/-- ITS FALSE NEIGHBOUR: 'it returns false'. Refute it at one input. -/
def fnTermTextWrong : ChangeSpec := { name := "fnTermText", fn := fun _ => fun
  | [d1, d2] => { results := [.lit (.bool false)], args := [d1, d2] }
  | _ => none }
def FnTermTextWrongFalsely : Prop := fnTermTextRow.holds Try.pinned (OpenSpec.ofChange fnTermTextWrong)

/-- 'laws.FnClauseText': WHATEVER THE INPUT: true; the input reads as it did. -/
def fnClauseTextSpec : ChangeSpec := { name := "fnClauseText", fn := fun _ => fun
  | [d1, d2] => { results := [.lit (.bool true)], args := [d1, d2] }
  | _ => none }
def fnClauseTextRow : OpenClaim := { program := "ytffdfjilpleljaa", sum := "87c3b08916b6d0edc61699061ec69bf98295d76e432969b558379c844896e29c", func := "loop.example/g00682/laws.FnClauseText", spec := "fnClauseText", unfollowed := true, recurses := true, apart := false }
def FnClauseTextSaid : Prop := fnClauseTextRow.holds Try.pinned (OpenSpec.ofChange fnClauseTextSpec)

/-- ITS FALSE NEIGHBOUR: 'it returns false'. Refute it at one input. -/
def fnClauseTextWrong : ChangeSpec := { name := "fnClauseText", fn := fun _ => fun
  | [d1, d2] => { results := [.lit (.bool false)], args := [d1, d2] }
  | _ => none }
def FnClauseTextWrongFalsely : Prop := fnClauseTextRow.holds Try.pinned (OpenSpec.ofChange fnClauseTextWrong)

/-- 'laws.FnExactHoldsForm': WHATEVER THE INPUT: true; the input reads as it did. -/
def fnExactHoldsFormSpec : ChangeSpec := { name := "fnExactHoldsForm", fn := fun _ => fun
  | [d1, d2, d3, d4] => { results := [.lit (.bool true)], args := [d1, d2, d3, d4] }
  | _ => none }
def fnExactHoldsFormRow : OpenClaim := { program := "ytffdfjilpleljaa", sum := "87c3b08916b6d0edc61699061ec69bf98295d76e432969b558379c844896e29c", func := "loop.example/g00682/laws.FnExactHoldsForm", spec := "fnExactHoldsForm", unfollowed := true, recurses := true, apart := false }
def FnExactHoldsFormSaid : Prop := fnExactHoldsFormRow.holds Try.pinned (OpenSpec.ofChange fnExactHoldsFormSpec)

/-- ITS FALSE NEIGHBOUR: 'it returns false'. Refute it at one input. -/
def fnExactHoldsFormWrong : ChangeSpec := { name := "fnExactHoldsForm", fn := fun _ => fun
  | [d1, d2, d3, d4] => { results := [.lit (.bool false)], args := [d1, d2, d3, d4] }
  | _ => none }
def FnExactHoldsFormWrongFalsely : Prop := fnExactHoldsFormRow.holds Try.pinned (OpenSpec.ofChange fnExactHoldsFormWrong)

/- THE SECOND FORM. 'bulk': how many values and letters a reading holds, each counted each time it is reached (what is shared counts as often as it is met; a slice's spare places count too). A statement '..UptoSaid' is the law's where the arguments, and the package variables that the reading takes, are together of bulk at most 1048576: NARROWER than '..Said'. Prove '..Said' where nothing that the law and all that it calls make is longer than what came in: it says more and counts as full. Else prove '..UptoSaid'. A law counts once. -/
mutual
def uptoBulk {H : Type} : DataW H → Nat
  | .lit (.string bytes) => bytes.length + 1
  | .lit _ => 1
  | .nil => 1
  | .ptr d => uptoBulk d + 1
  | .slice elems spare => uptoBulkAll elems + uptoBulkAll spare + 1
  | .agg parts => uptoBulkAll parts + 1
  | .iface _ d => uptoBulk d + 1
  | .map entries => uptoBulkEntries entries + 1
  | .held _ => 1
def uptoBulkAll {H : Type} : List (DataW H) → Nat
  | [] => 0
  | d :: r => uptoBulk d + uptoBulkAll r
def uptoBulkEntries {H : Type} : List (Lit × DataW H) → Nat
  | [] => 0
  | x :: r => uptoBulkEntry x + uptoBulkEntries r
def uptoBulkEntry {H : Type} : Lit × DataW H → Nat
  | (.string bytes, d) => bytes.length + uptoBulk d + 1
  | (_, d) => uptoBulk d + 1
 end
def uptoSmall : (H : Type) → List (DataW H) → Bool := fun _ ds => decide (uptoBulkAll ds ≤ 1048576)
def OpenSpec.upto (s : _root_.Go.ChangeSpec) : _root_.Go.OpenSpec := { _root_.Go.OpenSpec.ofChange s with cond := some uptoSmall }

/-- 'laws.FnExactFormText', WHERE WHAT IT READS IS OF BULK AT MOST 1048576: true; the input reads as it did. -/
def fnExactFormTextUptoRow : OpenClaim := { program := "ytffdfjilpleljaa", sum := "87c3b08916b6d0edc61699061ec69bf98295d76e432969b558379c844896e29c", func := "loop.example/g00682/laws.FnExactFormText", spec := "fnExactFormText", unfollowed := true, recurses := true, apart := false, narrowed := true }
def FnExactFormTextUptoSaid : Prop := fnExactFormTextUptoRow.holds Try.pinned (OpenSpec.upto fnExactFormTextSpec)

/-- 'laws.FnTermText', WHERE WHAT IT READS IS OF BULK AT MOST 1048576: true; the input reads as it did. -/
def fnTermTextUptoRow : OpenClaim := { program := "ytffdfjilpleljaa", sum := "87c3b08916b6d0edc61699061ec69bf98295d76e432969b558379c844896e29c", func := "loop.example/g00682/laws.FnTermText", spec := "fnTermText", unfollowed := true, recurses := true, apart := false, narrowed := true }
def FnTermTextUptoSaid : Prop := fnTermTextUptoRow.holds Try.pinned (OpenSpec.upto fnTermTextSpec)

/-- 'laws.FnClauseText', WHERE WHAT IT READS IS OF BULK AT MOST 1048576: true; the input reads as it did. -/
def fnClauseTextUptoRow : OpenClaim := { program := "ytffdfjilpleljaa", sum := "87c3b08916b6d0edc61699061ec69bf98295d76e432969b558379c844896e29c", func := "loop.example/g00682/laws.FnClauseText", spec := "fnClauseText", unfollowed := true, recurses := true, apart := false, narrowed := true }
def FnClauseTextUptoSaid : Prop := fnClauseTextUptoRow.holds Try.pinned (OpenSpec.upto fnClauseTextSpec)

/-- 'laws.FnExactHoldsForm', WHERE WHAT IT READS IS OF BULK AT MOST 1048576: true; the input reads as it did. -/
def fnExactHoldsFormUptoRow : OpenClaim := { program := "ytffdfjilpleljaa", sum := "87c3b08916b6d0edc61699061ec69bf98295d76e432969b558379c844896e29c", func := "loop.example/g00682/laws.FnExactHoldsForm", spec := "fnExactHoldsForm", unfollowed := true, recurses := true, apart := false, narrowed := true }
def FnExactHoldsFormUptoSaid : Prop := fnExactHoldsFormUptoRow.holds Try.pinned (OpenSpec.upto fnExactHoldsFormSpec)

end Rows
end Go.Proofs.Ytffdfjilpleljaa
