/- A text of its own: Cl; no condition but those that each theorem names. -/
import Derived.Test.YtcjaikkdpclaaaaCoEnv
import Derived.Test.YtcjaikkdpclaaaaCoEvWt
import Derived.Shelf.RegionOpenPlain
/- The library's slices.Clone does what the evaluator takes it to do: walked. No condition. -/
namespace Go.Proofs.YtcjaikkdpclaaaaCo.Ev
open Go Go.Lib Go.RowKit Go.Proofs
set_option maxHeartbeats 2000000 in
set_option maxRecDepth 100000 in
theorem clone108 : CloneOK Try.prog 108 22 := by
  intro te hte w N e xs v himm hes hN hE hroom
  have t22 := Try.underlying22
  have hte0 : elemP Try.prog 22 = some 3 := by kernel_rfl
  obtain rfl : te = 3 := Option.some.inj (hte.symm.trans hte0)
  obtain ⟨v', w', hrun, hfin⟩ := clone_app himm t22 (by kernel_rfl) (by decide +kernel) hes hN hE hroom
  obtain ⟨a, cap, es, rfl, hcap, hlen, hel, hpt⟩ := hE
  have q22 : ∀ (w : World) (a : Option Addr) (n c n' c' : Nat), (binOp .eql 22 (.slice a n c) (.slice none n' c')).run Try.prog w = .ok (.bool a.isNone) w := fun w a n c n' c' => Lib.run_eql_slice_nil w _ _ a n c n' c' Try.underlying22
  have u22 : ∀ w, Sem.run Try.prog (underlying 22) w = .ok (TypeDesc.slice 3) w := run_underlying t22
  cases a with
  | none =>
    have hx : xs = [] := Classical.byContradiction fun hn => by
      obtain ⟨b, off, h, _⟩ := hpt hn
      cases h
    subst hx
    go_enter Try.func108, Try.ntmps108
    go_wp2
    go_ret
    exact ⟨[], Moves.refl w, .inl ⟨none, rfl, rfl, rfl⟩, by simp, List.nodup_nil⟩
  | some a =>
    go_enter Try.func108, Try.ntmps108
    go_wp2_with (at_builtin; refine wpList_app rfl _ _ 22 rfl rfl rfl hrun ?_)
    go_wp2
    go_ret
    exact hfin

set_option maxHeartbeats 2000000 in
set_option maxRecDepth 100000 in
theorem clone130 : CloneOK Try.prog 130 128 := by
  intro te hte w N e xs v himm hes hN hE hroom
  have t128 := Try.underlying128
  have hte0 : elemP Try.prog 128 = some 76 := by kernel_rfl
  obtain rfl : te = 76 := Option.some.inj (hte.symm.trans hte0)
  obtain ⟨v', w', hrun, hfin⟩ := clone_app himm t128 (by kernel_rfl) (by decide +kernel) hes hN hE hroom
  obtain ⟨a, cap, es, rfl, hcap, hlen, hel, hpt⟩ := hE
  have q128 : ∀ (w : World) (a : Option Addr) (n c n' c' : Nat), (binOp .eql 128 (.slice a n c) (.slice none n' c')).run Try.prog w = .ok (.bool a.isNone) w := fun w a n c n' c' => Lib.run_eql_slice_nil w _ _ a n c n' c' Try.underlying128
  have u128 : ∀ w, Sem.run Try.prog (underlying 128) w = .ok (TypeDesc.slice 76) w := run_underlying t128
  cases a with
  | none =>
    have hx : xs = [] := Classical.byContradiction fun hn => by
      obtain ⟨b, off, h, _⟩ := hpt hn
      cases h
    subst hx
    go_enter Try.func130, Try.ntmps130
    go_wp2
    go_ret
    exact ⟨[], Moves.refl w, .inl ⟨none, rfl, rfl, rfl⟩, by simp, List.nodup_nil⟩
  | some a =>
    go_enter Try.func130, Try.ntmps130
    go_wp2_with (at_builtin; refine wpList_app rfl _ _ 128 rfl rfl rfl hrun ?_)
    go_wp2
    go_ret
    exact hfin

set_option maxHeartbeats 2000000 in
set_option maxRecDepth 100000 in
theorem grow133 : GrowOK Try.prog 133 39 := by
  intro te hte w N e n himm hes hroom
  have t39 := Try.underlying39
  have hte0 : elemP Try.prog 39 = some 85 := by kernel_rfl
  obtain rfl : te = 85 := Option.some.inj (hte.symm.trans hte0)
  obtain ⟨it, z, hi1, hi2, hi3, hi4, hi5⟩ := hasZero_some (P := Try.prog) (t := 85) (by kernel_rfl)
  have hb0 : bytesP Try.prog 85 = 24 := by kernel_rfl
  have hs0 : szP Try.prog 85 ≠ 0 := by decide +kernel
  by_cases hn : n = 0
  · subst hn
    go_enter Try.func133, Try.ntmps133
    go_wp2
    go_ret
    exact ⟨[], Moves.refl w, .inl ⟨none, rfl, rfl, rfl⟩, by simp, List.nodup_nil⟩
  · rw [hb0] at hroom
    have hrz := Lib.run_append_nil_zeros (P := Try.prog) w 39 3 39 85 it z .i64 .i64 t39 Try.underlying3 hi1 hi2 n (by omega) (by rw [hi3]; exact Nat.pos_of_ne_zero hs0) (by omega) (by rw [hi5, hb0]; omega)
    have hrep := grow_rep (P := Try.prog) (te := 85) (e := e) (w := w) (N := N) (n := n) hes (hi4.trans hi3) (by unfold maxLen; omega)
    clear hi4
    generalize z.cells = zc at hrz hrep
    have h1 : ¬ ((n : Int) < 0) := by omega
    have h2 : (n : Int) > 0 := by omega
    have h3 : wrap64 ((n : Int) - 0) = (n : Int) := by unfold wrap64; omega
    have h4 : wrap64 ((n : Int)) = (n : Int) := by unfold wrap64; omega
    go_enter Try.func133, Try.ntmps133
    go_wp2_with (at_builtin; refine Lib.wpList_append_run _ rfl _ _ _ _ rfl _ _ rfl rfl _ _ hrz ?_)
    go_wp2
    go_ret
    first
    | exact ⟨[w.heap.size], (Moves.drew w).trans (Moves.alloc w.drew _), hrep, by simp, by simp⟩
    | exact ⟨(Moves.alloc w _).trans (Moves.drew _), [w.heap.size], hrep, by simp, by simp⟩

set_option maxHeartbeats 2000000 in
set_option maxRecDepth 100000 in
theorem grow134 : GrowOK Try.prog 134 85 := by
  intro te hte w N e n himm hes hroom
  have t85 := Try.underlying85
  have hte0 : elemP Try.prog 85 = some 125 := by kernel_rfl
  obtain rfl : te = 125 := Option.some.inj (hte.symm.trans hte0)
  obtain ⟨it, z, hi1, hi2, hi3, hi4, hi5⟩ := hasZero_some (P := Try.prog) (t := 125) (by kernel_rfl)
  have hb0 : bytesP Try.prog 125 = 56 := by kernel_rfl
  have hs0 : szP Try.prog 125 ≠ 0 := by decide +kernel
  by_cases hn : n = 0
  · subst hn
    go_enter Try.func134, Try.ntmps134
    go_wp2
    go_ret
    exact ⟨[], Moves.refl w, .inl ⟨none, rfl, rfl, rfl⟩, by simp, List.nodup_nil⟩
  · rw [hb0] at hroom
    have hrz := Lib.run_append_nil_zeros (P := Try.prog) w 85 3 85 125 it z .i64 .i64 t85 Try.underlying3 hi1 hi2 n (by omega) (by rw [hi3]; exact Nat.pos_of_ne_zero hs0) (by omega) (by rw [hi5, hb0]; omega)
    have hrep := grow_rep (P := Try.prog) (te := 125) (e := e) (w := w) (N := N) (n := n) hes (hi4.trans hi3) (by unfold maxLen; omega)
    clear hi4
    generalize z.cells = zc at hrz hrep
    have h1 : ¬ ((n : Int) < 0) := by omega
    have h2 : (n : Int) > 0 := by omega
    have h3 : wrap64 ((n : Int) - 0) = (n : Int) := by unfold wrap64; omega
    have h4 : wrap64 ((n : Int)) = (n : Int) := by unfold wrap64; omega
    go_enter Try.func134, Try.ntmps134
    go_wp2_with (at_builtin; refine Lib.wpList_append_run _ rfl _ _ _ _ rfl _ _ rfl rfl _ _ hrz ?_)
    go_wp2
    go_ret
    first
    | exact ⟨[w.heap.size], (Moves.drew w).trans (Moves.alloc w.drew _), hrep, by simp, by simp⟩
    | exact ⟨(Moves.alloc w _).trans (Moves.drew _), [w.heap.size], hrep, by simp, by simp⟩

theorem extOk : ExtSound E1 := by
  refine ⟨⟨fun f t h => ?_, fun f t h => ?_⟩, fun f g h => by cases h⟩
  · have h' : List.lookup f [(108, 22), (130, 128)] = some t := h
    by_cases h108 : f = 108
    · subst h108
      obtain rfl : 22 = t := by simpa [List.lookup] using h'
      exact clone108
    by_cases h130 : f = 130
    · subst h130
      obtain rfl : 128 = t := by simpa [List.lookup] using h'
      exact clone130
    exact absurd h' (by simp [List.lookup, beq_false_of_ne h108, beq_false_of_ne h130])
  · have h' : List.lookup f [(133, 39), (134, 85)] = some t := h
    by_cases h133 : f = 133
    · subst h133
      obtain rfl : 39 = t := by simpa [List.lookup] using h'
      exact grow133
    by_cases h134 : f = 134
    · subst h134
      obtain rfl : 85 = t := by simpa [List.lookup] using h'
      exact grow134
    exact absurd h' (by simp [List.lookup, beq_false_of_ne h133, beq_false_of_ne h134])
end Go.Proofs.YtcjaikkdpclaaaaCo.Ev