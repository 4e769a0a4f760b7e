/- A text of its own: Cl; no condition but those that each theorem names. -/
import Derived.Test.YtkdceefdipljaaaGreatFwoEnv
import Derived.Test.YtkdceefdipljaaaGreatFwoEvWt
import Derived.Shelf.RegionOpenPlain
/- The library's slices.Clone does what the evaluator takes it to do: walked. No condition. -/
namespace Go.Proofs.YtkdceefdipljaaaGreatFwo.Ev
open Go Go.Lib Go.RowKit Go.Proofs
theorem extOk : ExtSound E1 := by
  refine ⟨fun f t h => ?_, fun f g h => by cases h⟩
  have h' : List.lookup f [] = some t := h
  exact absurd h' (by simp [List.lookup])
end Go.Proofs.YtkdceefdipljaaaGreatFwo.Ev