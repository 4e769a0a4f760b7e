/- A text of its own: Cl; no condition but those that each theorem names. -/
import Derived.Test.YtndnhbihcnlpaaaDoorPtEnv
import Derived.Test.YtndnhbihcnlpaaaDoorPtEvWt
import Derived.Shelf.RegionOpenPlain
import Derived.Test.YtndnhbihcnlpaaaDoorPtSh
/- The library's slices.Clone does what the evaluator takes it to do: walked. No condition. -/
namespace Go.Proofs.YtndnhbihcnlpaaaDoorPt.Ev
open Go Go.Lib Go.RowKit Go.Proofs
theorem itOK : ItoaOK Tryd.prog 33 := fun n h0 h1 w htab => Tryd.strconv_Itoa n h0 h1 w htab
theorem tabE : E1.tab = [(0, pow10Cells)] := rfl
theorem tabG : E1.P.globalNamed "internal/strconv.uint64pow10" = some 0 := by kernel_rfl
theorem extI : ∀ (f : Nat) (g : (E1.ps f).den → Option (E1.Ret f)), E1.ext f = some g → ∀ (x : (E1.ps f).den) (yz : E1.Ret f), g x = some yz → ∀ (w : World) (N : Nat → Prop) (us : List Value) (G : List Nat), RepAs (memOf w) N (E1.ps f) x us G → G.Nodup → (∀ k ∈ G, k < w.heap.size ∧ ¬ N k) → (∀ k, N k → k < w.heap.size) → E1.tabs w N →
    Calls E1.P (rl f) us.toArray w (Post fun v w' => ∃ N' rs G1 G2, Done E1 f yz.1 yz.2 us G N w v w' N' rs G1 G2) := by
  intro f g hg
  by_cases hf : f = 33
  · subst hf
    obtain rfl : g = itG := by
      have : some itG = some g := hg
      exact (Option.some.inj this).symm
    intro x yz hx w N us G hr hnd hG hN hT
    obtain ⟨n, ⟨⟩⟩ := (x : Int × Unit)
    have hx' : (if (-9223372036854775808 : Int) ≤ n ∧ n ≤ 9223372036854775807 then some ((Go.Lib.itoa n, ()), ()) else none : Option ((List UInt8 × Unit) × Unit)) = some yz := hx
    split at hx'
    · rename_i hcond
      obtain rfl := Option.some.inj hx'
      refine Calls.mono (show Calls E1.P (rl 33) us.toArray w _ from itoa_calls itOK hcond.1 hcond.2 hr hN (tab_of tabE tabG hT)) (fun e w' hp => ?_)
      cases e with
      | returned v =>
        obtain ⟨rfl, hmv, hlt, rfl, hrep, u, rfl⟩ := hp
        exact ⟨N, [_], [], [], hmv, fun _ h => h, fun _ h => .inl h, hlt, rfl, hrep, rfl, List.nodup_nil, by simp⟩
      | _ => exact hp.elim
    · cases hx'
  · have : E1.ext f = none := dif_neg hf
    rw [this] at hg; cases hg

theorem extOk : ExtSound E1 := by
  refine ⟨⟨fun f t h => ?_, fun f t h => ?_⟩, fun f g h => extI f g h⟩
  · have h' : List.lookup f [] = some t := h
    exact absurd h' (by simp [List.lookup])
  · have h' : List.lookup f [] = some t := h
    exact absurd h' (by simp [List.lookup])
end Go.Proofs.YtndnhbihcnlpaaaDoorPt.Ev