/- A text of its own: Cl; no condition but those that each theorem names. -/
import Derived.Test.YtpdbffngomlleaaDoorPtEnv
import Derived.Test.YtpdbffngomlleaaDoorPtEvIt
import Derived.Shelf.RegionOpenPlain
import Derived.Test.YtpdbffngomlleaaDoorPtSbc
import Derived.Test.YtpdbffngomlleaaDoorPtSh
namespace Go.Proofs.YtpdbffngomlleaaDoorPt.Ev
open Go Go.Lib Go.RowKit Go.Proofs
set_option maxHeartbeats 2000000 in
set_option maxRecDepth 100000 in
theorem grow57 : GrowOK Tryd.prog 57 22 := by
  intro te hte w N e n himm hes hroom
  have t22 := Tryd.underlying22
  have hte0 : elemP Tryd.prog 22 = some 3 := by kernel_rfl
  obtain rfl : te = 3 := Option.some.inj (hte.symm.trans hte0)
  obtain ⟨it, z, hi1, hi2, hi3, hi4, hi5⟩ := zcn (P := Tryd.prog) (t := 3) (by kernel_rfl)
  have hb0 : bytesP Tryd.prog 3 = 8 := by kernel_rfl
  have hs0 : szP Tryd.prog 3 ≠ 0 := by decide +kernel
  by_cases hn : n = 0
  · subst hn
    go_enter Tryd.func57, Tryd.ntmps57
    go_wp2
    go_ret
    exact ⟨[], Moves.refl w, .inl ⟨none, rfl, rfl, rfl⟩, by simp, List.nodup_nil⟩
  · rw [hb0] at hroom
    have hrz := Lib.run_append_nil_zeros (P := Tryd.prog) w 22 3 22 3 it z .i64 .i64 t22 Tryd.underlying3 hi1 hi2 n (by omega) (by rw [hi3]; exact Nat.pos_of_ne_zero hs0) (by omega) (by rw [hi5, hb0]; omega)
    have hrep := zj7 (P := Tryd.prog) (te := 3) (e := e) (w := w) (N := N) (n := n) hes (hi4.trans hi3) (by unfold maxLen; omega)
    clear hi4
    generalize z.cells = zc at hrz hrep
    have h1 : ¬ ((n : Int) < 0) := by omega
    have h2 : (n : Int) > 0 := by omega
    have h3 : wrap64 ((n : Int) - 0) = (n : Int) := by unfold wrap64; omega
    have h4 : wrap64 ((n : Int)) = (n : Int) := by unfold wrap64; omega
    go_enter Tryd.func57, Tryd.ntmps57
    go_wp2_with (at_builtin; refine Lib.wpList_append_run _ rfl _ _ _ _ rfl _ _ rfl rfl _ _ hrz ?_)
    go_wp2
    go_ret
    first
    | exact ⟨[w.heap.size], (Moves.drew w).trans (Moves.alloc w.drew _), hrep, by simp, by simp⟩
    | exact ⟨(Moves.alloc w _).trans (Moves.drew _), [w.heap.size], hrep, by simp, by simp⟩
theorem itOK : ItoaOK Tryd.prog 24 := fun n h0 h1 w htab => Tryd.strconv_Itoa n h0 h1 w htab
theorem tabE : E1.tab = [(0, pow10Cells)] := rfl
theorem tabG : E1.P.globalNamed "internal/strconv.uint64pow10" = some 0 := by kernel_rfl
theorem extI : ∀ (g : (E1.ps 24).den → Option (E1.Ret 24)), E1.ext 24 = some g → ∀ (x : (E1.ps 24).den) (yz : E1.Ret 24), g x = some yz → ∀ (w : World) (N : Nat → Prop) (us : List Value) (G : List Nat), RepAs (memOf w) N (E1.ps 24) x us G → G.Nodup → (∀ k ∈ G, k < w.heap.size ∧ ¬ N k) → (∀ k, N k → k < w.heap.size) → E1.tabs w N →
    Calls E1.P (rl 24) us.toArray w (Post fun v w' => ∃ N' rs G1 G2, Done E1 24 yz.1 yz.2 us G N w v w' N' rs G1 G2) := by
  intro g hg
  obtain rfl : g = itG := by
    have : some itG = some g := hg
    exact (Option.some.inj this).symm
  intro x yz hx w N us G hr hnd hG hN hT
  obtain ⟨n, ⟨⟩⟩ := (x : Int × Unit)
  have hx' : (if (-9223372036854775808 : Int) ≤ n ∧ n ≤ 9223372036854775807 then some ((Go.Lib.itoa n, ()), ()) else none : Option ((List UInt8 × Unit) × Unit)) = some yz := hx
  split at hx'
  · rename_i hcond
    obtain rfl := Option.some.inj hx'
    refine Calls.mono (show Calls E1.P (rl 24) us.toArray w _ from zi0 itOK hcond.1 hcond.2 hr hN (zlf tabE tabG hT)) (fun e w' hp => ?_)
    cases e with
    | returned v =>
      obtain ⟨rfl, hmv, hlt, rfl, hrep, u, rfl⟩ := hp
      exact ⟨N, [_], [], [], hmv, fun _ h => h, fun _ h => .inl h, hlt, rfl, hrep, rfl, List.nodup_nil, by simp⟩
    | _ => exact hp.elim
  · cases hx'
theorem extAll : ∀ (f : Nat) (g : (E1.ps f).den → Option (E1.Ret f)), E1.ext f = some g → ∀ (x : (E1.ps f).den) (yz : E1.Ret f), g x = some yz → ∀ (w : World) (N : Nat → Prop) (us : List Value) (G : List Nat), RepAs (memOf w) N (E1.ps f) x us G → G.Nodup → (∀ k ∈ G, k < w.heap.size ∧ ¬ N k) → (∀ k, N k → k < w.heap.size) → E1.tabs w N →
    Calls E1.P (rl f) us.toArray w (Post fun v w' => ∃ N' rs G1 G2, Done E1 f yz.1 yz.2 us G N w v w' N' rs G1 G2) := by
  intro f g hg
  by_cases h24 : f = 24
  · subst h24; exact extI g hg
  by_cases h23 : f = 23
  · subst h23; exact extSW g hg
  by_cases h26 : f = 26
  · subst h26; exact extSX g hg
  have : E1.ext f = none := (dif_neg h26).trans ((dif_neg h23).trans ((dif_neg h24).trans (rfl)))
  rw [this] at hg; cases hg
theorem extOk : ExtSound E1 := by
  refine ⟨⟨fun f t h => ?_, fun f t h => ?_⟩, extAll⟩
  · have h' : List.lookup f [] = some t := h
    exact absurd h' (by simp [List.lookup])
  · have h' : List.lookup f [(57, 22)] = some t := h
    by_cases h57 : f = 57
    · subst h57
      obtain rfl : 22 = t := by simpa [List.lookup] using h'
      exact grow57
    exact absurd h' (by simp [List.lookup, beq_false_of_ne h57])
end Go.Proofs.YtpdbffngomlleaaDoorPt.Ev