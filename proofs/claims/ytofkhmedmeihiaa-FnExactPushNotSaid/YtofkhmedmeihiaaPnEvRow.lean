/- The evaluator and a row: an argument is opened; a law that answers true is run. -/
import Derived.Test.YtofkhmedmeihiaaPnEvLm
import Derived.Carry
namespace Go.Proofs.YtofkhmedmeihiaaPn.Ev
open Go Go.RowKit

section
variable {H : Type} {enc : TypeId × Value → H} {P : Program} {w : World} {spare : Nat → Bool} {held : Bool}

theorem open_arg {n : Nat} {t : TypeId} {τ : Ty} (hd : dtP P n t = some τ) {base : Nat} {v : Value} {d : DataW H} {ps : List MemPlace} (hv : Value.okWide P w .any base t v) (h : DataW.Trod enc P w 0 spare held t v d ps) :
    ∃ x : τ.den, RepA (memOf w) (fun k => k < w.heap.size) τ x v [] ∧ wfT τ x := by
  obtain ⟨fuel, h⟩ := h
  obtain ⟨x, h1, h2⟩ := (trod_rep n).1 t τ hd fuel _ _ h
  refine ⟨x, ?_, h2⟩
  cases n with
  | zero => simp [dtP] at hd
  | succ n =>
    have one : (∀ fs, P.underlying t ≠ some (.struct fs)) → (∀ n e, P.underlying t ≠ some (.array n e)) → (∀ cs, v ≠ .agg cs) → v.cells.toList = [v] := by
      intro _ _ hc
      cases v <;> first | rfl | exact absurd rfl (hc _)
    unfold dtP at hd
    split at hd
    · rename_i hu
      obtain rfl := Option.some.inj hd
      obtain ⟨b, hb, _⟩ := DataW.trod_bool hu h
      have : v = .bool b := by
        cases v with
        | agg cs => simp [Value.okWide, Cell.okWide, Cell.ok, hu] at hv
        | _ => simp [Value.cells] at hb <;> simp_all
      subst this
      exact h1
    · rename_i k hu
      obtain rfl := Option.some.inj hd
      have : ∀ cs, v ≠ .agg cs := by
        rintro cs rfl
        simp [Value.okWide, Cell.okWide, Cell.ok, hu] at hv
      rw [one (by rw [hu]; simp) (by rw [hu]; simp) this] at h1
      exact h1
    · rename_i hu
      obtain rfl := Option.some.inj hd
      have : ∀ cs, v ≠ .agg cs := by
        rintro cs rfl
        simp [Value.okWide, Cell.okWide, Cell.ok, hu] at hv
      rw [one (by rw [hu]; simp) (by rw [hu]; simp) this] at h1
      exact h1
    · rename_i e hu
      split at hd
      · split at hd
        · obtain rfl := Option.some.inj hd
          have : ∀ cs, v ≠ .agg cs := by
            rintro cs rfl
            simp [Value.okWide, Cell.okWide, Cell.ok, hu] at hv
          rw [one (by rw [hu]; simp) (by rw [hu]; simp) this] at h1
          exact h1
        · cases hd
      · cases hd
    · rename_i fs hu
      split at hd
      · split at hd
        · obtain rfl := Option.some.inj hd
          simp only [Value.okWide, hu] at hv
          obtain ⟨cs, rfl, _⟩ := hv
          exact ⟨cs.toList, rfl, h1⟩
        · cases hd
      · cases hd
    · cases hd
end

theorem ret_true {m : Mem} {N : Nat → Prop} {rs : List Value} {G : List Nat} (h : RepAs m N (.cons .bool .nil) (true, ()) rs G) : retOf rs = .bool true := by
  match rs, h with
  | [], h => exact h.elim
  | u :: us, ⟨F1, F2, _, h1, h2⟩ =>
    obtain ⟨rfl, _⟩ := h2
    have h1' : RepT m N .bool true [u] F1 := h1
    obtain ⟨h3, _⟩ := h1'
    obtain rfl := (List.cons.inj h3).1
    rfl

/-- A law that answers true at the limit is run: it returns true, and what was there stays. -/
theorem law_runs {E : Env} (hX : ExtSound E) (hm : E.P.follows .mixedOrders = true) {f : Nat} {x : (E.ps f).den} {yz : E.Ret f} (h : (Lm E).C f x = some yz) {w : World} {us : List Value} (hr : RepAs (memOf w) (fun k => k < w.heap.size) (E.ps f) x us []) :
    Calls E.P (rl f) us.toArray w (fun e w' => Below w.heap.size w w' ∧ ∃ N' rs G1, e = .returned (retOf rs) ∧ RepAs (memOf w') N' (E.rs f) yz.1 rs G1) := by
  obtain ⟨N, hN⟩ := Lm_C.1 h
  exact law_calls hX hm (hN N (Nat.le_refl _)) hr

end Go.Proofs.YtofkhmedmeihiaaPn.Ev
