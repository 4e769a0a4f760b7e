/- Plain laws: literals, compared. No condition but sizes. -/
import Derived.Test.YtofkhmedmeihiaaRbPA
import Derived.Test.YtofkhmedmeihiaaRbPBa
namespace Go.Proofs.YtofkhmedmeihiaaRb.Ev
open Go
set_option autoImplicit false
set_option linter.unusedVariables false
set_option linter.unusedSimpArgs false

theorem p_eqLit (x : TLit) (h : smL x) : c_laws_eqLit M x x = some ((true, ()), ()) := by
  apply e_laws_eqLit
  simp only [q_laws_eqLit, p_eqIntS x.2.1 (by have := h.1; omega), p_eqIntS x.2.2.1 (by have := h.2; omega), Option.bind_some]
  simp

theorem p_eqLitS_loop (a : List TLit) (ha : a.length ≤ 1048576) (hx : ∀ x ∈ a, smL x) : ∀ k i : Nat, i + k = a.length → l_laws_eqLitS_58 M a a i = some (.inl ()) := by
  intro k
  induction k with
  | zero =>
    intro i hi
    obtain rfl : i = a.length := by omega
    apply el_laws_eqLitS_58
    simp only [ql_laws_eqLitS_58, Int.lt_irrefl, decide_false, Bool.false_eq_true, if_false]
  | succ k ih =>
    intro i hi
    apply el_laws_eqLitS_58
    have h1 : i < a.length := by omega
    simp only [ql_laws_eqLitS_58]
    rw [if_pos (by simpa using h1), idx_lt h1, inc_nat (by omega)]
    simp only [Option.bind_some, lit_eta, p_eqLit a[i] (hx _ (List.getElem_mem h1)), Bool.not_true, Bool.false_eq_true, if_false]
    exact ih (i + 1) (by omega)

theorem p_eqLitS (a : List TLit) (ha : a.length ≤ 1048576) (hx : ∀ x ∈ a, smL x) : c_laws_eqLitS M a a = some ((true, ()), ()) := by
  apply e_laws_eqLitS
  simp only [q_laws_eqLitS, bne_self_eq_false, Bool.false_eq_true, if_false]
  have := p_eqLitS_loop a ha hx a.length 0 (by omega)
  rw [show ((0 : Nat) : Int) = 0 from rfl] at this
  rw [this]
  rfl

end Go.Proofs.YtofkhmedmeihiaaRb.Ev
