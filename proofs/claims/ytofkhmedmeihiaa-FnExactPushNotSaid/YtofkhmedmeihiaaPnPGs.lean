/- Plain laws: formulas as the reference tells them. No condition but sizes. -/
import Derived.Test.YtofkhmedmeihiaaPnPG
namespace Go.Proofs.YtofkhmedmeihiaaPn.Ev
open Go
set_option autoImplicit false
set_option linter.unusedVariables false
set_option linter.unusedSimpArgs false

theorem p_spec_GoodForm (s : TSign) (hs : s.1.length ≤ 1048576) (f : List TForm) (hl : f.length ≤ 1048576) (hx : ∀ x ∈ f, smF x) : c_spec_GoodForm M s f = some ((gS s.1 && fOK s.1 f, ()), ()) := by
  apply e_spec_GoodForm
  simp only [q_spec_GoodForm, sign_eta', p_spec_GoodSign s (by omega), Option.bind_some]
  cases hg : gS s.1 with
  | false => rfl
  | true => rw [if_pos rfl, p_l14Form s hg f hl hx]; rfl
end Go.Proofs.YtofkhmedmeihiaaPn.Ev
