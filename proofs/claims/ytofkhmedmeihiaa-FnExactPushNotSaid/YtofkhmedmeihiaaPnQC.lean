/- Plain laws: FnExactPushNot. No condition but sizes. -/
import Derived.Test.YtofkhmedmeihiaaPnQB
namespace Go.Proofs.YtofkhmedmeihiaaPn.Ev
open Go
set_option autoImplicit false
set_option linter.unusedVariables false
set_option linter.unusedSimpArgs false

theorem p_PushNots (s : TSign) (hs : s.1.length ≤ 1048576) (f : List TForm) (hl : f.length ≤ 1048576) (hx : ∀ x ∈ f, smF x) (n : Bool) : ∃ r : (List TForm × Bool × Unit) × Unit, c_spec_PushNot M s f n = some r ∧ c_impl_PushNot M s f n = some r ∧ r.1.1.length ≤ 1000 ∧ (∀ x ∈ r.1.1, smF x) ∧ (r.1.2.1 = true → gS s.1 = true ∧ fOK s.1 r.1.1 = true) := by
  obtain ⟨t, ht, hgt⟩ := p_formula s hs f
  have hspec := p_spec_GoodForm s hs f hl hx
  cases hb : (gS s.1 && fOK s.1 f) with
  | false =>
    rw [hb] at ht hspec
    refine ⟨(([], false, ()), ()), e_spec_PushNot _ _ _ ?_, e_impl_PushNot _ _ _ ?_, by simp, by simp, by simp⟩
    · simp only [q_spec_PushNot, sign_eta', hspec, Option.bind_some]; rfl
    · simp only [q_impl_PushNot, sign_eta', ht, Option.bind_some]; rfl
  | true =>
    rw [hb] at ht hspec
    have hb' := hb
    simp only [Bool.and_eq_true, fOK, decide_eq_true_eq] at hb'
    obtain ⟨hg, h15, _⟩ := hb'
    have hft := gT_FT (hgt hb)
    obtain ⟨L, u, l1, l2, l3, l4, l5⟩ := p_push hft n
    have e5 := l5 [] [] (by simp; omega)
    simp only [List.nil_append, List.append_nil, List.length_nil, Int.natCast_zero, Int.zero_add] at e5
    have hpos := hft.pos
    have hform := p_l14Form s hg L (by omega) (fun x hx => (l3 x hx).1)
    refine ⟨if fOK s.1 L = true then ((L, true, ()), ()) else (([], false, ()), ()), e_spec_PushNot _ _ _ ?_, e_impl_PushNot _ _ _ ?_, ?_⟩
    · simp only [q_spec_PushNot, sign_eta', hspec, Option.bind_some]
      rw [if_neg (by simp), w64 (by omega) (by omega), e5]
      simp only [Option.bind_some, hform]
      cases fOK s.1 L <;> rfl
    · simp only [q_impl_PushNot, sign_eta', ht, Option.bind_some]
      rw [if_neg (by simp), l4]
      simp only [Option.bind_some, p_listed s hg l1 (fun x hx => (l3 x hx).1) (by omega)]
    · cases hL : fOK s.1 L with
      | false => simp
      | true => exact ⟨by simp only [if_pos]; omega, fun x hx => (l3 x (by simpa using hx)).1, fun _ => ⟨hg, by simpa using hL⟩⟩

theorem p_FnExactPushNot (s : TSign) (c : List TForm) (n : Bool) (hs : s.1.length ≤ 9223372036854775807) (hc : c.length ≤ 9223372036854775807) (hx : ∀ x ∈ c, wlF x) : c_laws_FnExactPushNot M s c n = some ((true, ()), ()) := by
  obtain ⟨r1, e1, g1, k1⟩ := p_szSign s 1048576 (by omega) (by omega) hs
  by_cases h1 : r1 < 0
  · apply e_laws_FnExactPushNot
    simp only [q_laws_FnExactPushNot, sign_eta', e1, Option.bind_some]
    rw [if_pos (by simpa using h1)]
  · obtain ⟨r2, e2, g2, k2⟩ := p_szFormS c r1 (by omega) g1 hc hx
    by_cases h2 : r2 < 0
    · apply e_laws_FnExactPushNot
      simp only [q_laws_FnExactPushNot, sign_eta', e1, e2, Option.bind_some]
      rw [if_neg (by simpa using h1), if_pos (by simpa using h2)]
    · have hs' := k1 (by omega)
      obtain ⟨hc', hx'⟩ := k2 (by omega)
      obtain ⟨r, t1, t2, o1, o2, _⟩ := p_PushNots s hs' c hc' hx' n
      have b1 := totF_le c hx'
      have b2 := totF_le r.1.1 o2
      have m1 := p_markSign s 1 (by omega) (by omega)
      have m2 := p_markFormS c (1 + s.1.length) (by omega) (by omega) (by omega)
      have m3 := p_markFormS r.1.1 1 (by omega) (by omega) (by omega)
      have m4 := p_heldFormS r.1.1 1 (by omega) (by omega) (by omega)
      apply e_laws_FnExactPushNot
      simp only [q_laws_FnExactPushNot, sign_eta', e1, e2, Option.bind_some, p_toSign s (by omega), p_toFormS c hc' hx', t1, t2, p_eqSign s (by omega), p_eqFormS c hc' hx', p_eqFormS r.1.1 (by omega) o2, m1, m2, m3, m4]
      rw [if_neg (by simpa using h1), if_neg (by simpa using h2)]
      simp
      rw [if_neg (by omega), if_neg (by omega), if_neg (by omega)]
end Go.Proofs.YtofkhmedmeihiaaPn.Ev
