/-
  No cell of these rows narrows 'for every input' (looked for: loops, veiled, ifaces, maps, wideKeys, modest, calm, conditions, laid).
  DERIVED. THE GIVEN ROWS OF THIS SEAT. 6 by the template 'for every input the law returns true; each argument reads behind the call as it read before'; 0 by the template 'total and deterministic' (their statements: YtofkhmedmeihiaaTotals.lean).
  GIVEN WITH THE SEED: the statements are not yours to turn. If you find one false, say at which input.
  Laid BY PROGRAM, IN A SANDBOX (cutbox-rows.mjs): the forced cells as the released guide's own fill.sh prints them over the translation 12962eda666691aa… (all of the seat's roots in one cut). By AI agents, Wed Nov 11 2026. No macro, syntax, notation, axiom, sorry.
-/
import Derived.Test.YtofkhmedmeihiaaChecked
import GoSem.Claim
import GoSem.ClaimJoined
import GoSem.ClaimMapViews
import Derived.JoinedTies
import Derived.KernelRfl
namespace Go.Proofs.Ytofkhmedmeihiaa
/- THE CELL 'sum', in the pinned program and in every row, IS THE sha256 OF THE DUMP (.gsa) THAT YtofkhmedmeihiaaProg.lean LOADS. Nothing in Lean hashes anything: it is a label: what it is worth is what the hold of that sum in a sandbox is worth. -/
noncomputable def Try.pinned : Pinned := { name := "ytofkhmedmeihiaa", sum := "12962eda666691aa420030a0d82dc6afcb68b58f9af559e1f76961ed5137894c", checked := Try.checked }
namespace Rows
def none {H : Type} : Left H := { results := [], args := [] }

/-- 'laws.FnExactReadClauseBytes': WHATEVER THE INPUT: true; the input reads as it did. -/
def fnExactReadClauseBytesSpec : ChangeSpec := { name := "fnExactReadClauseBytes", fn := fun _ => fun
  | [d1, d2, d3] => { results := [.lit (.bool true)], args := [d1, d2, d3] }
  | _ => none }
def fnExactReadClauseBytesRow : OpenClaim := { program := "ytofkhmedmeihiaa", sum := "12962eda666691aa420030a0d82dc6afcb68b58f9af559e1f76961ed5137894c", func := "loop.example/g00682/laws.FnExactReadClauseBytes", spec := "fnExactReadClauseBytes", unfollowed := true, recurses := true, apart := false }
def FnExactReadClauseBytesSaid : Prop := fnExactReadClauseBytesRow.holds Try.pinned (OpenSpec.ofChange fnExactReadClauseBytesSpec)

/-- ITS FALSE NEIGHBOUR: 'it returns false'. Refute it at one input. -/
def fnExactReadClauseBytesWrong : ChangeSpec := { name := "fnExactReadClauseBytes", fn := fun _ => fun
  | [d1, d2, d3] => { results := [.lit (.bool false)], args := [d1, d2, d3] }
  | _ => none }
def FnExactReadClauseBytesWrongFalsely : Prop := fnExactReadClauseBytesRow.holds Try.pinned (OpenSpec.ofChange fnExactReadClauseBytesWrong)

/-- 'laws.FnExactApartClauses': WHATEVER THE INPUT: true; the input reads as it did. -/
def fnExactApartClausesSpec : ChangeSpec := { name := "fnExactApartClauses", fn := fun _ => fun
  | [d1, d2, d3] => { results := [.lit (.bool true)], args := [d1, d2, d3] }
  | _ => none }
def fnExactApartClausesRow : OpenClaim := { program := "ytofkhmedmeihiaa", sum := "12962eda666691aa420030a0d82dc6afcb68b58f9af559e1f76961ed5137894c", func := "loop.example/g00682/laws.FnExactApartClauses", spec := "fnExactApartClauses", unfollowed := true, recurses := true, apart := false }
def FnExactApartClausesSaid : Prop := fnExactApartClausesRow.holds Try.pinned (OpenSpec.ofChange fnExactApartClausesSpec)

/-- ITS FALSE NEIGHBOUR: 'it returns false'. Refute it at one input. -/
def fnExactApartClausesWrong : ChangeSpec := { name := "fnExactApartClauses", fn := fun _ => fun
  | [d1, d2, d3] => { results := [.lit (.bool false)], args := [d1, d2, d3] }
  | _ => none }
def FnExactApartClausesWrongFalsely : Prop := fnExactApartClausesRow.holds Try.pinned (OpenSpec.ofChange fnExactApartClausesWrong)

/-- 'laws.FnExactFreeIn': WHATEVER THE INPUT: true; the input reads as it did. -/
def fnExactFreeInSpec : ChangeSpec := { name := "fnExactFreeIn", fn := fun _ => fun
  | [d1, d2] => { results := [.lit (.bool true)], args := [d1, d2] }
  | _ => none }
def fnExactFreeInRow : OpenClaim := { program := "ytofkhmedmeihiaa", sum := "12962eda666691aa420030a0d82dc6afcb68b58f9af559e1f76961ed5137894c", func := "loop.example/g00682/laws.FnExactFreeIn", spec := "fnExactFreeIn", unfollowed := true, recurses := true, apart := false }
def FnExactFreeInSaid : Prop := fnExactFreeInRow.holds Try.pinned (OpenSpec.ofChange fnExactFreeInSpec)

/-- ITS FALSE NEIGHBOUR: 'it returns false'. Refute it at one input. -/
def fnExactFreeInWrong : ChangeSpec := { name := "fnExactFreeIn", fn := fun _ => fun
  | [d1, d2] => { results := [.lit (.bool false)], args := [d1, d2] }
  | _ => none }
def FnExactFreeInWrongFalsely : Prop := fnExactFreeInRow.holds Try.pinned (OpenSpec.ofChange fnExactFreeInWrong)

/-- 'laws.FnExactPushNot': WHATEVER THE INPUT: true; the input reads as it did. -/
def fnExactPushNotSpec : ChangeSpec := { name := "fnExactPushNot", fn := fun _ => fun
  | [d1, d2, d3] => { results := [.lit (.bool true)], args := [d1, d2, d3] }
  | _ => none }
def fnExactPushNotRow : OpenClaim := { program := "ytofkhmedmeihiaa", sum := "12962eda666691aa420030a0d82dc6afcb68b58f9af559e1f76961ed5137894c", func := "loop.example/g00682/laws.FnExactPushNot", spec := "fnExactPushNot", unfollowed := true, recurses := true, apart := false }
def FnExactPushNotSaid : Prop := fnExactPushNotRow.holds Try.pinned (OpenSpec.ofChange fnExactPushNotSpec)

/-- ITS FALSE NEIGHBOUR: 'it returns false'. Refute it at one input. -/
def fnExactPushNotWrong : ChangeSpec := { name := "fnExactPushNot", fn := fun _ => fun
  | [d1, d2, d3] => { results := [.lit (.bool false)], args := [d1, d2, d3] }
  | _ => none }
def FnExactPushNotWrongFalsely : Prop := fnExactPushNotRow.holds Try.pinned (OpenSpec.ofChange fnExactPushNotWrong)

/-- 'laws.FnExactReadForm': WHATEVER THE INPUT: true; the input reads as it did. -/
def fnExactReadFormSpec : ChangeSpec := { name := "fnExactReadForm", fn := fun _ => fun
  | [d1, d2] => { results := [.lit (.bool true)], args := [d1, d2] }
  | _ => none }
def fnExactReadFormRow : OpenClaim := { program := "ytofkhmedmeihiaa", sum := "12962eda666691aa420030a0d82dc6afcb68b58f9af559e1f76961ed5137894c", func := "loop.example/g00682/laws.FnExactReadForm", spec := "fnExactReadForm", unfollowed := true, recurses := true, apart := false }
def FnExactReadFormSaid : Prop := fnExactReadFormRow.holds Try.pinned (OpenSpec.ofChange fnExactReadFormSpec)

/-- ITS FALSE NEIGHBOUR: 'it returns false'. Refute it at one input. -/
def fnExactReadFormWrong : ChangeSpec := { name := "fnExactReadForm", fn := fun _ => fun
  | [d1, d2] => { results := [.lit (.bool false)], args := [d1, d2] }
  | _ => none }
def FnExactReadFormWrongFalsely : Prop := fnExactReadFormRow.holds Try.pinned (OpenSpec.ofChange fnExactReadFormWrong)

/-- 'laws.FnExactApartForm': WHATEVER THE INPUT: true; the input reads as it did. -/
def fnExactApartFormSpec : ChangeSpec := { name := "fnExactApartForm", fn := fun _ => fun
  | [d1, d2] => { results := [.lit (.bool true)], args := [d1, d2] }
  | _ => none }
def fnExactApartFormRow : OpenClaim := { program := "ytofkhmedmeihiaa", sum := "12962eda666691aa420030a0d82dc6afcb68b58f9af559e1f76961ed5137894c", func := "loop.example/g00682/laws.FnExactApartForm", spec := "fnExactApartForm", unfollowed := true, recurses := true, apart := false }
def FnExactApartFormSaid : Prop := fnExactApartFormRow.holds Try.pinned (OpenSpec.ofChange fnExactApartFormSpec)

/-- ITS FALSE NEIGHBOUR: 'it returns false'. Refute it at one input. -/
def fnExactApartFormWrong : ChangeSpec := { name := "fnExactApartForm", fn := fun _ => fun
  | [d1, d2] => { results := [.lit (.bool false)], args := [d1, d2] }
  | _ => none }
def FnExactApartFormWrongFalsely : Prop := fnExactApartFormRow.holds Try.pinned (OpenSpec.ofChange fnExactApartFormWrong)

/- THE SECOND FORM. 'bulk': how many values and letters a reading holds, each counted each time it is reached (what is shared counts as often as it is met; a slice's spare places count too). A statement '..UptoSaid' is the law's where the arguments, and the package variables that the reading takes, are together of bulk at most 1048576: NARROWER than '..Said'. Prove '..Said' where nothing that the law and all that it calls make is longer than what came in: it says more and counts as full. Else prove '..UptoSaid'. A law counts once. -/
mutual
def uptoBulk {H : Type} : DataW H → Nat
  | .lit (.string bytes) => bytes.length + 1
  | .lit _ => 1
  | .nil => 1
  | .ptr d => uptoBulk d + 1
  | .slice elems spare => uptoBulkAll elems + uptoBulkAll spare + 1
  | .agg parts => uptoBulkAll parts + 1
  | .iface _ d => uptoBulk d + 1
  | .map entries => uptoBulkEntries entries + 1
  | .held _ => 1
def uptoBulkAll {H : Type} : List (DataW H) → Nat
  | [] => 0
  | d :: r => uptoBulk d + uptoBulkAll r
def uptoBulkEntries {H : Type} : List (Lit × DataW H) → Nat
  | [] => 0
  | x :: r => uptoBulkEntry x + uptoBulkEntries r
def uptoBulkEntry {H : Type} : Lit × DataW H → Nat
  | (.string bytes, d) => bytes.length + uptoBulk d + 1
  | (_, d) => uptoBulk d + 1
 end
def uptoSmall : (H : Type) → List (DataW H) → Bool := fun _ ds => decide (uptoBulkAll ds ≤ 1048576)
def OpenSpec.upto (s : _root_.Go.ChangeSpec) : _root_.Go.OpenSpec := { _root_.Go.OpenSpec.ofChange s with cond := some uptoSmall }

/-- 'laws.FnExactReadClauseBytes', WHERE WHAT IT READS IS OF BULK AT MOST 1048576: true; the input reads as it did. -/
def fnExactReadClauseBytesUptoRow : OpenClaim := { program := "ytofkhmedmeihiaa", sum := "12962eda666691aa420030a0d82dc6afcb68b58f9af559e1f76961ed5137894c", func := "loop.example/g00682/laws.FnExactReadClauseBytes", spec := "fnExactReadClauseBytes", unfollowed := true, recurses := true, apart := false, narrowed := true }
def FnExactReadClauseBytesUptoSaid : Prop := fnExactReadClauseBytesUptoRow.holds Try.pinned (OpenSpec.upto fnExactReadClauseBytesSpec)

/-- 'laws.FnExactApartClauses', WHERE WHAT IT READS IS OF BULK AT MOST 1048576: true; the input reads as it did. -/
def fnExactApartClausesUptoRow : OpenClaim := { program := "ytofkhmedmeihiaa", sum := "12962eda666691aa420030a0d82dc6afcb68b58f9af559e1f76961ed5137894c", func := "loop.example/g00682/laws.FnExactApartClauses", spec := "fnExactApartClauses", unfollowed := true, recurses := true, apart := false, narrowed := true }
def FnExactApartClausesUptoSaid : Prop := fnExactApartClausesUptoRow.holds Try.pinned (OpenSpec.upto fnExactApartClausesSpec)

/-- 'laws.FnExactFreeIn', WHERE WHAT IT READS IS OF BULK AT MOST 1048576: true; the input reads as it did. -/
def fnExactFreeInUptoRow : OpenClaim := { program := "ytofkhmedmeihiaa", sum := "12962eda666691aa420030a0d82dc6afcb68b58f9af559e1f76961ed5137894c", func := "loop.example/g00682/laws.FnExactFreeIn", spec := "fnExactFreeIn", unfollowed := true, recurses := true, apart := false, narrowed := true }
def FnExactFreeInUptoSaid : Prop := fnExactFreeInUptoRow.holds Try.pinned (OpenSpec.upto fnExactFreeInSpec)

/-- 'laws.FnExactPushNot', WHERE WHAT IT READS IS OF BULK AT MOST 1048576: true; the input reads as it did. -/
def fnExactPushNotUptoRow : OpenClaim := { program := "ytofkhmedmeihiaa", sum := "12962eda666691aa420030a0d82dc6afcb68b58f9af559e1f76961ed5137894c", func := "loop.example/g00682/laws.FnExactPushNot", spec := "fnExactPushNot", unfollowed := true, recurses := true, apart := false, narrowed := true }
def FnExactPushNotUptoSaid : Prop := fnExactPushNotUptoRow.holds Try.pinned (OpenSpec.upto fnExactPushNotSpec)

/-- 'laws.FnExactReadForm', WHERE WHAT IT READS IS OF BULK AT MOST 1048576: true; the input reads as it did. -/
def fnExactReadFormUptoRow : OpenClaim := { program := "ytofkhmedmeihiaa", sum := "12962eda666691aa420030a0d82dc6afcb68b58f9af559e1f76961ed5137894c", func := "loop.example/g00682/laws.FnExactReadForm", spec := "fnExactReadForm", unfollowed := true, recurses := true, apart := false, narrowed := true }
def FnExactReadFormUptoSaid : Prop := fnExactReadFormUptoRow.holds Try.pinned (OpenSpec.upto fnExactReadFormSpec)

/-- 'laws.FnExactApartForm', WHERE WHAT IT READS IS OF BULK AT MOST 1048576: true; the input reads as it did. -/
def fnExactApartFormUptoRow : OpenClaim := { program := "ytofkhmedmeihiaa", sum := "12962eda666691aa420030a0d82dc6afcb68b58f9af559e1f76961ed5137894c", func := "loop.example/g00682/laws.FnExactApartForm", spec := "fnExactApartForm", unfollowed := true, recurses := true, apart := false, narrowed := true }
def FnExactApartFormUptoSaid : Prop := fnExactApartFormUptoRow.holds Try.pinned (OpenSpec.upto fnExactApartFormSpec)

end Rows
end Go.Proofs.Ytofkhmedmeihiaa
