/- The library's slices.Clone does what the evaluator takes it to do: walked. No condition. -/
import Derived.Test.YtofkhmedmeihiaaRbEnv
import Derived.Test.YtofkhmedmeihiaaRbEvCl
import Derived.Shelf.RegionOpenPlain
namespace Go.Proofs.YtofkhmedmeihiaaRb.Ev
open Go Go.Lib Go.RowKit Go.Proofs
theorem extOk : ExtSound E1 := by
  refine ⟨fun f t h => ?_, fun f g h => by cases h⟩
  have h' : List.lookup f [] = some t := h
  exact absurd h' (by simp [List.lookup])
end Go.Proofs.YtofkhmedmeihiaaRb.Ev