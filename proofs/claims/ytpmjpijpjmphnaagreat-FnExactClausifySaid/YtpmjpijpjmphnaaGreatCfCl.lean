/- A text of its own: Cl; no condition but those that each theorem names. -/
import Derived.Test.YtpmjpijpjmphnaaGreatCfEnv
import Derived.Test.YtpmjpijpjmphnaaGreatCfEvWt
import Derived.Shelf.RegionOpenPlain
/- The library's slices.Clone does what the evaluator takes it to do: walked. No condition. -/
namespace Go.Proofs.YtpmjpijpjmphnaaGreatCf.Ev
open Go Go.Lib Go.RowKit Go.Proofs
set_option maxHeartbeats 2000000 in
set_option maxRecDepth 100000 in
theorem clone99 : CloneOK Tryz.prog 99 22 := by
  intro te hte w N e xs v himm hes hN hE hroom
  have t22 := Tryz.underlying22
  have hte0 : elemP Tryz.prog 22 = some 3 := by kernel_rfl
  obtain rfl : te = 3 := Option.some.inj (hte.symm.trans hte0)
  obtain ⟨v', w', hrun, hfin⟩ := clone_app himm t22 (by kernel_rfl) (by decide +kernel) hes hN hE hroom
  obtain ⟨a, cap, es, rfl, hcap, hlen, hel, hpt⟩ := hE
  have q22 : ∀ (w : World) (a : Option Addr) (n c n' c' : Nat), (binOp .eql 22 (.slice a n c) (.slice none n' c')).run Tryz.prog w = .ok (.bool a.isNone) w := fun w a n c n' c' => Lib.run_eql_slice_nil w _ _ a n c n' c' Tryz.underlying22
  have u22 : ∀ w, Sem.run Tryz.prog (underlying 22) w = .ok (TypeDesc.slice 3) w := run_underlying t22
  cases a with
  | none =>
    have hx : xs = [] := Classical.byContradiction fun hn => by
      obtain ⟨b, off, h, _⟩ := hpt hn
      cases h
    subst hx
    go_enter Tryz.func99, Tryz.ntmps99
    go_wp2
    go_ret
    exact ⟨[], Moves.refl w, .inl ⟨none, rfl, rfl, rfl⟩, by simp, List.nodup_nil⟩
  | some a =>
    go_enter Tryz.func99, Tryz.ntmps99
    go_wp2_with (at_builtin; refine wpList_app rfl _ _ 22 rfl rfl rfl hrun ?_)
    go_wp2
    go_ret
    exact hfin

set_option maxHeartbeats 2000000 in
set_option maxRecDepth 100000 in
theorem clone245 : CloneOK Tryz.prog 245 207 := by
  intro te hte w N e xs v himm hes hN hE hroom
  have t207 := Tryz.underlying207
  have hte0 : elemP Tryz.prog 207 = some 131 := by kernel_rfl
  obtain rfl : te = 131 := Option.some.inj (hte.symm.trans hte0)
  obtain ⟨v', w', hrun, hfin⟩ := clone_app himm t207 (by kernel_rfl) (by decide +kernel) hes hN hE hroom
  obtain ⟨a, cap, es, rfl, hcap, hlen, hel, hpt⟩ := hE
  have q207 : ∀ (w : World) (a : Option Addr) (n c n' c' : Nat), (binOp .eql 207 (.slice a n c) (.slice none n' c')).run Tryz.prog w = .ok (.bool a.isNone) w := fun w a n c n' c' => Lib.run_eql_slice_nil w _ _ a n c n' c' Tryz.underlying207
  have u207 : ∀ w, Sem.run Tryz.prog (underlying 207) w = .ok (TypeDesc.slice 131) w := run_underlying t207
  cases a with
  | none =>
    have hx : xs = [] := Classical.byContradiction fun hn => by
      obtain ⟨b, off, h, _⟩ := hpt hn
      cases h
    subst hx
    go_enter Tryz.func245, Tryz.ntmps245
    go_wp2
    go_ret
    exact ⟨[], Moves.refl w, .inl ⟨none, rfl, rfl, rfl⟩, by simp, List.nodup_nil⟩
  | some a =>
    go_enter Tryz.func245, Tryz.ntmps245
    go_wp2_with (at_builtin; refine wpList_app rfl _ _ 207 rfl rfl rfl hrun ?_)
    go_wp2
    go_ret
    exact hfin

set_option maxHeartbeats 2000000 in
set_option maxRecDepth 100000 in
theorem grow216 : GrowOK Tryz.prog 216 30 := by
  intro te hte w N e n himm hes hroom
  have t30 := Tryz.underlying30
  have hte0 : elemP Tryz.prog 30 = some 109 := by kernel_rfl
  obtain rfl : te = 109 := Option.some.inj (hte.symm.trans hte0)
  obtain ⟨it, z, hi1, hi2, hi3, hi4, hi5⟩ := hasZero_some (P := Tryz.prog) (t := 109) (by kernel_rfl)
  have hb0 : bytesP Tryz.prog 109 = 56 := by kernel_rfl
  have hs0 : szP Tryz.prog 109 ≠ 0 := by decide +kernel
  by_cases hn : n = 0
  · subst hn
    go_enter Tryz.func216, Tryz.ntmps216
    go_wp2
    go_ret
    exact ⟨[], Moves.refl w, .inl ⟨none, rfl, rfl, rfl⟩, by simp, List.nodup_nil⟩
  · rw [hb0] at hroom
    have hrz := Lib.run_append_nil_zeros (P := Tryz.prog) w 30 3 30 109 it z .i64 .i64 t30 Tryz.underlying3 hi1 hi2 n (by omega) (by rw [hi3]; exact Nat.pos_of_ne_zero hs0) (by omega) (by rw [hi5, hb0]; omega)
    have hrep := grow_rep (P := Tryz.prog) (te := 109) (e := e) (w := w) (N := N) (n := n) hes (hi4.trans hi3) (by unfold maxLen; omega)
    clear hi4
    generalize z.cells = zc at hrz hrep
    have h1 : ¬ ((n : Int) < 0) := by omega
    have h2 : (n : Int) > 0 := by omega
    have h3 : wrap64 ((n : Int) - 0) = (n : Int) := by unfold wrap64; omega
    have h4 : wrap64 ((n : Int)) = (n : Int) := by unfold wrap64; omega
    go_enter Tryz.func216, Tryz.ntmps216
    go_wp2_with (at_builtin; refine Lib.wpList_append_run _ rfl _ _ _ _ rfl _ _ rfl rfl _ _ hrz ?_)
    go_wp2
    go_ret
    first
    | exact ⟨[w.heap.size], (Moves.drew w).trans (Moves.alloc w.drew _), hrep, by simp, by simp⟩
    | exact ⟨(Moves.alloc w _).trans (Moves.drew _), [w.heap.size], hrep, by simp, by simp⟩

set_option maxHeartbeats 2000000 in
set_option maxRecDepth 100000 in
theorem grow248 : GrowOK Tryz.prog 248 45 := by
  intro te hte w N e n himm hes hroom
  have t45 := Tryz.underlying45
  have hte0 : elemP Tryz.prog 45 = some 30 := by kernel_rfl
  obtain rfl : te = 30 := Option.some.inj (hte.symm.trans hte0)
  obtain ⟨it, z, hi1, hi2, hi3, hi4, hi5⟩ := hasZero_some (P := Tryz.prog) (t := 30) (by kernel_rfl)
  have hb0 : bytesP Tryz.prog 30 = 24 := by kernel_rfl
  have hs0 : szP Tryz.prog 30 ≠ 0 := by decide +kernel
  by_cases hn : n = 0
  · subst hn
    go_enter Tryz.func248, Tryz.ntmps248
    go_wp2
    go_ret
    exact ⟨[], Moves.refl w, .inl ⟨none, rfl, rfl, rfl⟩, by simp, List.nodup_nil⟩
  · rw [hb0] at hroom
    have hrz := Lib.run_append_nil_zeros (P := Tryz.prog) w 45 3 45 30 it z .i64 .i64 t45 Tryz.underlying3 hi1 hi2 n (by omega) (by rw [hi3]; exact Nat.pos_of_ne_zero hs0) (by omega) (by rw [hi5, hb0]; omega)
    have hrep := grow_rep (P := Tryz.prog) (te := 30) (e := e) (w := w) (N := N) (n := n) hes (hi4.trans hi3) (by unfold maxLen; omega)
    clear hi4
    generalize z.cells = zc at hrz hrep
    have h1 : ¬ ((n : Int) < 0) := by omega
    have h2 : (n : Int) > 0 := by omega
    have h3 : wrap64 ((n : Int) - 0) = (n : Int) := by unfold wrap64; omega
    have h4 : wrap64 ((n : Int)) = (n : Int) := by unfold wrap64; omega
    go_enter Tryz.func248, Tryz.ntmps248
    go_wp2_with (at_builtin; refine Lib.wpList_append_run _ rfl _ _ _ _ rfl _ _ rfl rfl _ _ hrz ?_)
    go_wp2
    go_ret
    first
    | exact ⟨[w.heap.size], (Moves.drew w).trans (Moves.alloc w.drew _), hrep, by simp, by simp⟩
    | exact ⟨(Moves.alloc w _).trans (Moves.drew _), [w.heap.size], hrep, by simp, by simp⟩

theorem extOk : ExtSound E1 := by
  refine ⟨⟨fun f t h => ?_, fun f t h => ?_⟩, fun f g h => by cases h⟩
  · have h' : List.lookup f [(99, 22), (245, 207)] = some t := h
    by_cases h99 : f = 99
    · subst h99
      obtain rfl : 22 = t := by simpa [List.lookup] using h'
      exact clone99
    by_cases h245 : f = 245
    · subst h245
      obtain rfl : 207 = t := by simpa [List.lookup] using h'
      exact clone245
    exact absurd h' (by simp [List.lookup, beq_false_of_ne h99, beq_false_of_ne h245])
  · have h' : List.lookup f [(216, 30), (248, 45)] = some t := h
    by_cases h216 : f = 216
    · subst h216
      obtain rfl : 30 = t := by simpa [List.lookup] using h'
      exact grow216
    by_cases h248 : f = 248
    · subst h248
      obtain rfl : 45 = t := by simpa [List.lookup] using h'
      exact grow248
    exact absurd h' (by simp [List.lookup, beq_false_of_ne h216, beq_false_of_ne h248])
end Go.Proofs.YtpmjpijpjmphnaaGreatCf.Ev