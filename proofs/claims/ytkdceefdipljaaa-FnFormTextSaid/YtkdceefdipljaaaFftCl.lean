/- A text of its own: Cl; no condition but those that each theorem names. -/
import Derived.Test.YtkdceefdipljaaaFftEnv
import Derived.Test.YtkdceefdipljaaaFftEvWt
import Derived.Shelf.RegionOpenPlain
/- The library's slices.Clone does what the evaluator takes it to do: walked. No condition. -/
namespace Go.Proofs.YtkdceefdipljaaaFft.Ev
open Go Go.Lib Go.RowKit Go.Proofs
set_option maxHeartbeats 2000000 in
set_option maxRecDepth 100000 in
theorem clone133 : CloneOK Try.prog 133 24 := by
  intro te hte w N e xs v himm hes hN hE hroom
  have t24 := Try.underlying24
  have hte0 : elemP Try.prog 24 = some 3 := by kernel_rfl
  obtain rfl : te = 3 := Option.some.inj (hte.symm.trans hte0)
  obtain ⟨v', w', hrun, hfin⟩ := clone_app himm t24 (by kernel_rfl) (by decide +kernel) hes hN hE hroom
  obtain ⟨a, cap, es, rfl, hcap, hlen, hel, hpt⟩ := hE
  have q24 : ∀ (w : World) (a : Option Addr) (n c n' c' : Nat), (binOp .eql 24 (.slice a n c) (.slice none n' c')).run Try.prog w = .ok (.bool a.isNone) w := fun w a n c n' c' => Lib.run_eql_slice_nil w _ _ a n c n' c' Try.underlying24
  have u24 : ∀ w, Sem.run Try.prog (underlying 24) w = .ok (TypeDesc.slice 3) w := run_underlying t24
  cases a with
  | none =>
    have hx : xs = [] := Classical.byContradiction fun hn => by
      obtain ⟨b, off, h, _⟩ := hpt hn
      cases h
    subst hx
    go_enter Try.func133, Try.ntmps133
    go_wp2
    go_ret
    exact ⟨[], Moves.refl w, .inl ⟨none, rfl, rfl, rfl⟩, by simp, List.nodup_nil⟩
  | some a =>
    go_enter Try.func133, Try.ntmps133
    go_wp2_with (at_builtin; refine wpList_app rfl _ _ 24 rfl rfl rfl hrun ?_)
    go_wp2
    go_ret
    exact hfin

set_option maxHeartbeats 2000000 in
set_option maxRecDepth 100000 in
theorem clone170 : CloneOK Try.prog 170 161 := by
  intro te hte w N e xs v himm hes hN hE hroom
  have t161 := Try.underlying161
  have hte0 : elemP Try.prog 161 = some 115 := by kernel_rfl
  obtain rfl : te = 115 := Option.some.inj (hte.symm.trans hte0)
  obtain ⟨v', w', hrun, hfin⟩ := clone_app himm t161 (by kernel_rfl) (by decide +kernel) hes hN hE hroom
  obtain ⟨a, cap, es, rfl, hcap, hlen, hel, hpt⟩ := hE
  have q161 : ∀ (w : World) (a : Option Addr) (n c n' c' : Nat), (binOp .eql 161 (.slice a n c) (.slice none n' c')).run Try.prog w = .ok (.bool a.isNone) w := fun w a n c n' c' => Lib.run_eql_slice_nil w _ _ a n c n' c' Try.underlying161
  have u161 : ∀ w, Sem.run Try.prog (underlying 161) w = .ok (TypeDesc.slice 115) w := run_underlying t161
  cases a with
  | none =>
    have hx : xs = [] := Classical.byContradiction fun hn => by
      obtain ⟨b, off, h, _⟩ := hpt hn
      cases h
    subst hx
    go_enter Try.func170, Try.ntmps170
    go_wp2
    go_ret
    exact ⟨[], Moves.refl w, .inl ⟨none, rfl, rfl, rfl⟩, by simp, List.nodup_nil⟩
  | some a =>
    go_enter Try.func170, Try.ntmps170
    go_wp2_with (at_builtin; refine wpList_app rfl _ _ 161 rfl rfl rfl hrun ?_)
    go_wp2
    go_ret
    exact hfin

theorem extOk : ExtSound E1 := by
  refine ⟨fun f t h => ?_, fun f g h => by cases h⟩
  have h' : List.lookup f [(133, 24), (170, 161)] = some t := h
  by_cases h133 : f = 133
  · subst h133
    obtain rfl : 24 = t := by simpa [List.lookup] using h'
    exact clone133
  by_cases h170 : f = 170
  · subst h170
    obtain rfl : 161 = t := by simpa [List.lookup] using h'
    exact clone170
  exact absurd h' (by simp [List.lookup, beq_false_of_ne h133, beq_false_of_ne h170])
end Go.Proofs.YtkdceefdipljaaaFft.Ev