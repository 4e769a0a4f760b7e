/- Plain laws: nodes of formulas, compared. No condition but sizes. -/
import Derived.Test.YtofkhmedmeihiaaPnPBa
import Derived.Test.YtofkhmedmeihiaaPnPA
namespace Go.Proofs.YtofkhmedmeihiaaPn.Ev
open Go
set_option autoImplicit false
set_option linter.unusedVariables false
set_option linter.unusedSimpArgs false

abbrev TForm := Int × Int × List Int × List Int × Unit

theorem form_eta (x : TForm) : (x.1, x.2.1, x.2.2.1, x.2.2.2.1, ()) = x := rfl

/-- Lists of no more than 2^20 numbers. -/
def smF (x : TForm) : Prop := x.2.2.1.length ≤ 1048576 ∧ x.2.2.2.1.length ≤ 1048576

theorem p_eqForm (x : TForm) (h : smF x) : c_laws_eqForm M x x = some ((true, ()), ()) := by
  apply e_laws_eqForm
  simp only [q_laws_eqForm, p_eqIntS x.2.2.1 (by have := h.1; omega), p_eqIntS x.2.2.2.1 (by have := h.2; omega), Option.bind_some]
  simp

theorem p_eqFormS_loop (a : List TForm) (ha : a.length ≤ 1048576) (hx : ∀ x ∈ a, smF x) : ∀ k i : Nat, i + k = a.length → l_laws_eqFormS_58 M a a i = some (.inl ()) := by
  intro k
  induction k with
  | zero =>
    intro i hi
    obtain rfl : i = a.length := by omega
    apply el_laws_eqFormS_58
    simp only [ql_laws_eqFormS_58, Int.lt_irrefl, decide_false, Bool.false_eq_true, if_false]
  | succ k ih =>
    intro i hi
    apply el_laws_eqFormS_58
    have h1 : i < a.length := by omega
    simp only [ql_laws_eqFormS_58]
    rw [if_pos (by simpa using h1), idx_lt h1, inc_nat (by omega)]
    simp only [Option.bind_some, form_eta, p_eqForm a[i] (hx _ (List.getElem_mem h1)), Bool.not_true, Bool.false_eq_true, if_false]
    exact ih (i + 1) (by omega)

theorem p_eqFormS (a : List TForm) (ha : a.length ≤ 1048576) (hx : ∀ x ∈ a, smF x) : c_laws_eqFormS M a a = some ((true, ()), ()) := by
  apply e_laws_eqFormS
  simp only [q_laws_eqFormS, bne_self_eq_false, Bool.false_eq_true, if_false]
  have := p_eqFormS_loop a ha hx a.length 0 (by omega)
  rw [show ((0 : Nat) : Int) = 0 from rfl] at this
  rw [this]
  rfl

end Go.Proofs.YtofkhmedmeihiaaPn.Ev
