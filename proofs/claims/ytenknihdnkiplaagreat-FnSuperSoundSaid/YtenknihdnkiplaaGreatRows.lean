/-
  No cell of these rows narrows 'for every input' (looked for: loops, veiled, ifaces, maps, wideKeys, modest, calm, conditions, laid).
  DERIVED. THE GIVEN ROWS OF THIS SEAT. 4 by the template 'for every input the law returns true; each argument reads behind the call as it read before'; 0 by the template 'total and deterministic' (their statements: YtenknihdnkiplaaGreatTotals.lean).
  GIVEN WITH THE SEED: the statements are not yours to turn. If you find one false, say at which input.
  Laid BY PROGRAM, IN A SANDBOX (cutbox-rows.mjs): the forced cells as the released guide's own fill.sh prints them over the translation 6ba457361ce94dc7… (all of the seat's roots in one cut). By AI agents, Wed Nov 11 2026. No macro, syntax, notation, axiom, sorry.
-/
import Derived.Test.YtenknihdnkiplaaGreatChecked
import GoSem.Claim
import GoSem.ClaimJoined
import GoSem.ClaimMapViews
import Derived.JoinedTies
import Derived.KernelRfl
namespace Go.Proofs.YtenknihdnkiplaaGreat
/- THE CELL 'sum', in the pinned program and in every row, IS THE sha256 OF THE DUMP (.gsa) THAT YtenknihdnkiplaaGreatProg.lean LOADS. Nothing in Lean hashes anything: it is a label: what it is worth is what the hold of that sum in a sandbox is worth. -/
noncomputable def Tryz.pinned : Pinned := { name := "ytenknihdnkiplaagreat", sum := "6ba457361ce94dc73f6f6b23ed7d35deb49701749141b5ba264dacaaa82b9482", checked := Tryz.checked }
namespace Rows
def none {H : Type} : Left H := { results := [], args := [] }

/-- 'laws.FnSuperSound': WHATEVER THE INPUT: true; the input reads as it did. -/
def fnSuperSoundSpec : ChangeSpec := { name := "fnSuperSound", fn := fun _ => fun
  | [d1, d2] => { results := [.lit (.bool true)], args := [d1, d2] }
  | _ => none }
def fnSuperSoundRow : OpenClaim := { program := "ytenknihdnkiplaagreat", sum := "6ba457361ce94dc73f6f6b23ed7d35deb49701749141b5ba264dacaaa82b9482", func := "loop.example/g00682/laws.FnSuperSound", spec := "fnSuperSound", unfollowed := true, recurses := true, apart := false }
def FnSuperSoundSaid : Prop := fnSuperSoundRow.holds Tryz.pinned (OpenSpec.ofChange fnSuperSoundSpec)

/-- ITS FALSE NEIGHBOUR: 'it returns false'. Refute it at one input. -/
def fnSuperSoundWrong : ChangeSpec := { name := "fnSuperSound", fn := fun _ => fun
  | [d1, d2] => { results := [.lit (.bool false)], args := [d1, d2] }
  | _ => none }
def FnSuperSoundWrongFalsely : Prop := fnSuperSoundRow.holds Tryz.pinned (OpenSpec.ofChange fnSuperSoundWrong)

/-- 'laws.FnChecked': WHATEVER THE INPUT: true; the input reads as it did. -/
def fnCheckedSpec : ChangeSpec := { name := "fnChecked", fn := fun _ => fun
  | [d1, d2] => { results := [.lit (.bool true)], args := [d1, d2] }
  | _ => none }
def fnCheckedRow : OpenClaim := { program := "ytenknihdnkiplaagreat", sum := "6ba457361ce94dc73f6f6b23ed7d35deb49701749141b5ba264dacaaa82b9482", func := "loop.example/g00682/laws.FnChecked", spec := "fnChecked", unfollowed := true, recurses := true, apart := false }
def FnCheckedSaid : Prop := fnCheckedRow.holds Tryz.pinned (OpenSpec.ofChange fnCheckedSpec)

/-- ITS FALSE NEIGHBOUR: 'it returns false'. Refute it at one input. -/
def fnCheckedWrong : ChangeSpec := { name := "fnChecked", fn := fun _ => fun
  | [d1, d2] => { results := [.lit (.bool false)], args := [d1, d2] }
  | _ => none }
def FnCheckedWrongFalsely : Prop := fnCheckedRow.holds Tryz.pinned (OpenSpec.ofChange fnCheckedWrong)

/-- 'laws.FnMade': WHATEVER THE INPUT: true; the input reads as it did. -/
def fnMadeSpec : ChangeSpec := { name := "fnMade", fn := fun _ => fun
  | [d1, d2] => { results := [.lit (.bool true)], args := [d1, d2] }
  | _ => none }
def fnMadeRow : OpenClaim := { program := "ytenknihdnkiplaagreat", sum := "6ba457361ce94dc73f6f6b23ed7d35deb49701749141b5ba264dacaaa82b9482", func := "loop.example/g00682/laws.FnMade", spec := "fnMade", unfollowed := true, recurses := true, apart := false }
def FnMadeSaid : Prop := fnMadeRow.holds Tryz.pinned (OpenSpec.ofChange fnMadeSpec)

/-- ITS FALSE NEIGHBOUR: 'it returns false'. Refute it at one input. -/
def fnMadeWrong : ChangeSpec := { name := "fnMade", fn := fun _ => fun
  | [d1, d2] => { results := [.lit (.bool false)], args := [d1, d2] }
  | _ => none }
def FnMadeWrongFalsely : Prop := fnMadeRow.holds Tryz.pinned (OpenSpec.ofChange fnMadeWrong)

/-- 'laws.FnExactProve': WHATEVER THE INPUT: true; the input reads as it did. -/
def fnExactProveSpec : ChangeSpec := { name := "fnExactProve", fn := fun _ => fun
  | [d1, d2, d3] => { results := [.lit (.bool true)], args := [d1, d2, d3] }
  | _ => none }
def fnExactProveRow : OpenClaim := { program := "ytenknihdnkiplaagreat", sum := "6ba457361ce94dc73f6f6b23ed7d35deb49701749141b5ba264dacaaa82b9482", func := "loop.example/g00682/laws.FnExactProve", spec := "fnExactProve", unfollowed := true, recurses := true, apart := false }
def FnExactProveSaid : Prop := fnExactProveRow.holds Tryz.pinned (OpenSpec.ofChange fnExactProveSpec)

/-- ITS FALSE NEIGHBOUR: 'it returns false'. Refute it at one input. -/
def fnExactProveWrong : ChangeSpec := { name := "fnExactProve", fn := fun _ => fun
  | [d1, d2, d3] => { results := [.lit (.bool false)], args := [d1, d2, d3] }
  | _ => none }
def FnExactProveWrongFalsely : Prop := fnExactProveRow.holds Tryz.pinned (OpenSpec.ofChange fnExactProveWrong)

/- THE SECOND FORM. 'bulk': how many values and letters a reading holds, each counted each time it is reached (what is shared counts as often as it is met; a slice's spare places count too). A statement '..UptoSaid' is the law's where the arguments, and the package variables that the reading takes, are together of bulk at most 1048576: NARROWER than '..Said'. Prove '..Said' where nothing that the law and all that it calls make is longer than what came in: it says more and counts as full. Else prove '..UptoSaid'. A law counts once. -/
mutual
def uptoBulk {H : Type} : DataW H → Nat
  | .lit (.string bytes) => bytes.length + 1
  | .lit _ => 1
  | .nil => 1
  | .ptr d => uptoBulk d + 1
  | .slice elems spare => uptoBulkAll elems + uptoBulkAll spare + 1
  | .agg parts => uptoBulkAll parts + 1
  | .iface _ d => uptoBulk d + 1
  | .map entries => uptoBulkEntries entries + 1
  | .held _ => 1
def uptoBulkAll {H : Type} : List (DataW H) → Nat
  | [] => 0
  | d :: r => uptoBulk d + uptoBulkAll r
def uptoBulkEntries {H : Type} : List (Lit × DataW H) → Nat
  | [] => 0
  | x :: r => uptoBulkEntry x + uptoBulkEntries r
def uptoBulkEntry {H : Type} : Lit × DataW H → Nat
  | (.string bytes, d) => bytes.length + uptoBulk d + 1
  | (_, d) => uptoBulk d + 1
 end
def uptoSmall : (H : Type) → List (DataW H) → Bool := fun _ ds => decide (uptoBulkAll ds ≤ 1048576)
def OpenSpec.upto (s : _root_.Go.ChangeSpec) : _root_.Go.OpenSpec := { _root_.Go.OpenSpec.ofChange s with cond := some uptoSmall }

/-- 'laws.FnSuperSound', WHERE WHAT IT READS IS OF BULK AT MOST 1048576: true; the input reads as it did. -/
def fnSuperSoundUptoRow : OpenClaim := { program := "ytenknihdnkiplaagreat", sum := "6ba457361ce94dc73f6f6b23ed7d35deb49701749141b5ba264dacaaa82b9482", func := "loop.example/g00682/laws.FnSuperSound", spec := "fnSuperSound", unfollowed := true, recurses := true, apart := false, narrowed := true }
def FnSuperSoundUptoSaid : Prop := fnSuperSoundUptoRow.holds Tryz.pinned (OpenSpec.upto fnSuperSoundSpec)

/-- 'laws.FnChecked', WHERE WHAT IT READS IS OF BULK AT MOST 1048576: true; the input reads as it did. -/
def fnCheckedUptoRow : OpenClaim := { program := "ytenknihdnkiplaagreat", sum := "6ba457361ce94dc73f6f6b23ed7d35deb49701749141b5ba264dacaaa82b9482", func := "loop.example/g00682/laws.FnChecked", spec := "fnChecked", unfollowed := true, recurses := true, apart := false, narrowed := true }
def FnCheckedUptoSaid : Prop := fnCheckedUptoRow.holds Tryz.pinned (OpenSpec.upto fnCheckedSpec)

/-- 'laws.FnMade', WHERE WHAT IT READS IS OF BULK AT MOST 1048576: true; the input reads as it did. -/
def fnMadeUptoRow : OpenClaim := { program := "ytenknihdnkiplaagreat", sum := "6ba457361ce94dc73f6f6b23ed7d35deb49701749141b5ba264dacaaa82b9482", func := "loop.example/g00682/laws.FnMade", spec := "fnMade", unfollowed := true, recurses := true, apart := false, narrowed := true }
def FnMadeUptoSaid : Prop := fnMadeUptoRow.holds Tryz.pinned (OpenSpec.upto fnMadeSpec)

/-- 'laws.FnExactProve', WHERE WHAT IT READS IS OF BULK AT MOST 1048576: true; the input reads as it did. -/
def fnExactProveUptoRow : OpenClaim := { program := "ytenknihdnkiplaagreat", sum := "6ba457361ce94dc73f6f6b23ed7d35deb49701749141b5ba264dacaaa82b9482", func := "loop.example/g00682/laws.FnExactProve", spec := "fnExactProve", unfollowed := true, recurses := true, apart := false, narrowed := true }
def FnExactProveUptoSaid : Prop := fnExactProveUptoRow.holds Tryz.pinned (OpenSpec.upto fnExactProveSpec)

end Rows
end Go.Proofs.YtenknihdnkiplaaGreat
