/- A text of its own: Cl; no condition but those that each theorem names. -/
import Derived.Test.YtcjaikkdpclaaaaSkEnv
import Derived.Test.YtcjaikkdpclaaaaSkEvWt
import Derived.Shelf.RegionOpenPlain
/- The library's slices.Clone does what the evaluator takes it to do: walked. No condition. -/
namespace Go.Proofs.YtcjaikkdpclaaaaSk.Ev
open Go Go.Lib Go.RowKit Go.Proofs
set_option maxHeartbeats 2000000 in
set_option maxRecDepth 100000 in
theorem clone108 : CloneOK Try.prog 108 22 := by
  intro te hte w N e xs v himm hes hN hE hroom
  have t22 := Try.underlying22
  have hte0 : elemP Try.prog 22 = some 3 := by kernel_rfl
  obtain rfl : te = 3 := Option.some.inj (hte.symm.trans hte0)
  obtain ⟨v', w', hrun, hfin⟩ := clone_app himm t22 (by kernel_rfl) (by decide +kernel) hes hN hE hroom
  obtain ⟨a, cap, es, rfl, hcap, hlen, hel, hpt⟩ := hE
  have q22 : ∀ (w : World) (a : Option Addr) (n c n' c' : Nat), (binOp .eql 22 (.slice a n c) (.slice none n' c')).run Try.prog w = .ok (.bool a.isNone) w := fun w a n c n' c' => Lib.run_eql_slice_nil w _ _ a n c n' c' Try.underlying22
  have u22 : ∀ w, Sem.run Try.prog (underlying 22) w = .ok (TypeDesc.slice 3) w := run_underlying t22
  cases a with
  | none =>
    have hx : xs = [] := Classical.byContradiction fun hn => by
      obtain ⟨b, off, h, _⟩ := hpt hn
      cases h
    subst hx
    go_enter Try.func108, Try.ntmps108
    go_wp2
    go_ret
    exact ⟨[], Moves.refl w, .inl ⟨none, rfl, rfl, rfl⟩, by simp, List.nodup_nil⟩
  | some a =>
    go_enter Try.func108, Try.ntmps108
    go_wp2_with (at_builtin; refine wpList_app rfl _ _ 22 rfl rfl rfl hrun ?_)
    go_wp2
    go_ret
    exact hfin

set_option maxHeartbeats 2000000 in
set_option maxRecDepth 100000 in
theorem clone130 : CloneOK Try.prog 130 128 := by
  intro te hte w N e xs v himm hes hN hE hroom
  have t128 := Try.underlying128
  have hte0 : elemP Try.prog 128 = some 76 := by kernel_rfl
  obtain rfl : te = 76 := Option.some.inj (hte.symm.trans hte0)
  obtain ⟨v', w', hrun, hfin⟩ := clone_app himm t128 (by kernel_rfl) (by decide +kernel) hes hN hE hroom
  obtain ⟨a, cap, es, rfl, hcap, hlen, hel, hpt⟩ := hE
  have q128 : ∀ (w : World) (a : Option Addr) (n c n' c' : Nat), (binOp .eql 128 (.slice a n c) (.slice none n' c')).run Try.prog w = .ok (.bool a.isNone) w := fun w a n c n' c' => Lib.run_eql_slice_nil w _ _ a n c n' c' Try.underlying128
  have u128 : ∀ w, Sem.run Try.prog (underlying 128) w = .ok (TypeDesc.slice 76) w := run_underlying t128
  cases a with
  | none =>
    have hx : xs = [] := Classical.byContradiction fun hn => by
      obtain ⟨b, off, h, _⟩ := hpt hn
      cases h
    subst hx
    go_enter Try.func130, Try.ntmps130
    go_wp2
    go_ret
    exact ⟨[], Moves.refl w, .inl ⟨none, rfl, rfl, rfl⟩, by simp, List.nodup_nil⟩
  | some a =>
    go_enter Try.func130, Try.ntmps130
    go_wp2_with (at_builtin; refine wpList_app rfl _ _ 128 rfl rfl rfl hrun ?_)
    go_wp2
    go_ret
    exact hfin

theorem extOk : ExtSound E1 := by
  refine ⟨⟨fun f t h => ?_, fun f t h => ?_⟩, fun f g h => by cases h⟩
  · have h' : List.lookup f [(108, 22), (130, 128)] = some t := h
    by_cases h108 : f = 108
    · subst h108
      obtain rfl : 22 = t := by simpa [List.lookup] using h'
      exact clone108
    by_cases h130 : f = 130
    · subst h130
      obtain rfl : 128 = t := by simpa [List.lookup] using h'
      exact clone130
    exact absurd h' (by simp [List.lookup, beq_false_of_ne h108, beq_false_of_ne h130])
  · have h' : List.lookup f [] = some t := h
    exact absurd h' (by simp [List.lookup])
end Go.Proofs.YtcjaikkdpclaaaaSk.Ev