/- Plain laws: FnExactGoodForm answers true. No condition but that lists fit in memory. -/
import Derived.Test.YtejklhcalinhpaaGfPG
namespace Go.Proofs.YtejklhcalinhpaaGf.Ev
open Go
set_option autoImplicit false
set_option linter.unusedVariables false
set_option linter.unusedSimpArgs false

theorem p_FnExactGoodForm (s : TSign) (c : List TForm) (hs : s.1.length ≤ 9223372036854775807) (hc : c.length ≤ 9223372036854775807) (hx : ∀ x ∈ c, wlF x) : c_laws_FnExactGoodForm M s c = some ((true, ()), ()) := by
  obtain ⟨r1, e1, g1, k1⟩ := p_szSign s 1048576 (by omega) (by omega) hs
  by_cases h1 : r1 < 0
  · apply e_laws_FnExactGoodForm
    simp only [q_laws_FnExactGoodForm, sign_eta', e1, Option.bind_some]
    rw [if_pos (by simpa using h1)]
  · obtain ⟨r2, e2, g2, k2⟩ := p_szFormS c r1 (by omega) g1 hc hx
    by_cases h2 : r2 < 0
    · apply e_laws_FnExactGoodForm
      simp only [q_laws_FnExactGoodForm, sign_eta', e1, e2, Option.bind_some]
      rw [if_neg (by simpa using h1), if_pos (by simpa using h2)]
    · have hs' := k1 (by omega)
      obtain ⟨hc', hx'⟩ := k2 (by omega)
      apply e_laws_FnExactGoodForm
      simp only [q_laws_FnExactGoodForm, sign_eta', e1, e2, Option.bind_some, p_toSign s (by omega), p_toFormS c hc' hx', p_spec_GoodForm s hs' c hc' hx', p_impl_GoodForm s hs' c, p_eqSign s (by omega), p_eqFormS c hc' hx']
      rw [if_neg (by simpa using h1), if_neg (by simpa using h2)]
      simp

end Go.Proofs.YtejklhcalinhpaaGf.Ev
