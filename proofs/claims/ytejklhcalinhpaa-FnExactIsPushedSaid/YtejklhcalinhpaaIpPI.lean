/- Plain laws: FnExactIsPushed answers true. No condition but that lists fit in memory. -/
import Derived.Test.YtejklhcalinhpaaIpPG
namespace Go.Proofs.YtejklhcalinhpaaIp.Ev
open Go
set_option autoImplicit false
set_option linter.unusedVariables false
set_option linter.unusedSimpArgs false

theorem p_impl_GoodForm (s : TSign) (hs : s.1.length ≤ 1048576) (f : List TForm) : c_impl_GoodForm M s f = some ((gS s.1 && fOK s.1 f, ()), ()) := by
  obtain ⟨t, h, _⟩ := p_formula s hs f
  apply e_impl_GoodForm
  simp only [q_impl_GoodForm, sign_eta', h, Option.bind_some]

theorem p_pushed_loops (a : List Int) (f : List TForm) (hl : f.length ≤ 15) : ∀ k i p : Nat, i + k = f.length → p ≤ i → gF a p (f.drop i) = true → ∃ r, l_spec_l14Pushed_26 M f f f.length i = some r ∧ l_impl_isPushed_26 M f f f.length i = some r := by
  intro k
  induction k with
  | zero =>
    intro i p hi hp hg
    obtain rfl : i = f.length := by omega
    exact ⟨.inl (), el_spec_l14Pushed_26 _ _ _ _ (by simp [ql_spec_l14Pushed_26]), el_impl_isPushed_26 _ _ _ _ (by simp [ql_impl_isPushed_26])⟩
  | succ k ih =>
    intro i p hi hp hg
    have h1 : i < f.length := by omega
    rw [List.drop_eq_getElem_cons h1] at hg
    simp only [gF, Bool.and_eq_true, decide_eq_true_eq] at hg
    obtain ⟨hn, ho, hr⟩ := hg
    have hop := ndOK_opn hn
    obtain ⟨r, g1, g2⟩ := ih (i + 1) (p - (opn f[i].1).toNat + 1) (by omega) (by omega) hr
    by_cases h2 : f[i].1 = 2
    · have hop1 := hop.2.2 h2
      have hi1 : 1 ≤ i := by omega
      have hlt : i - 1 < f.length := by omega
      have ew : IntKind.i64.wrap ((i : Int) - 1) = ((i - 1 : Nat) : Int) := by rw [w64 (by omega) (by omega)]; omega
      by_cases h3 : f[i - 1].1 = 1
      · refine ⟨r, el_spec_l14Pushed_26 _ _ _ _ ?_, el_impl_isPushed_26 _ _ _ _ ?_⟩
        · simp only [ql_spec_l14Pushed_26]
          rw [if_pos (by simpa using h1), idx_lt h1]
          simp only [Option.bind_some]
          rw [if_pos (by simpa using h2), ew, idx_lt hlt, inc_nat (by omega)]
          simp only [Option.bind_some]
          rw [if_neg (by simpa using h3)]
          exact g1
        · simp only [ql_impl_isPushed_26]
          rw [if_pos (by simpa using h1), idx_lt h1]
          simp only [Option.bind_some]
          rw [if_pos (by simpa using h2), ew, idx_lt hlt, inc_nat (by omega)]
          simp only [Option.bind_some]
          rw [if_neg (by simpa using h3)]
          exact g2
      · refine ⟨.inr ((false, ()), ()), el_spec_l14Pushed_26 _ _ _ _ ?_, el_impl_isPushed_26 _ _ _ _ ?_⟩
        · simp only [ql_spec_l14Pushed_26]
          rw [if_pos (by simpa using h1), idx_lt h1]
          simp only [Option.bind_some]
          rw [if_pos (by simpa using h2), ew, idx_lt hlt]
          simp only [Option.bind_some]
          rw [if_pos (by simpa using h3)]
        · simp only [ql_impl_isPushed_26]
          rw [if_pos (by simpa using h1), idx_lt h1]
          simp only [Option.bind_some]
          rw [if_pos (by simpa using h2), ew, idx_lt hlt]
          simp only [Option.bind_some]
          rw [if_pos (by simpa using h3)]
    · refine ⟨r, el_spec_l14Pushed_26 _ _ _ _ ?_, el_impl_isPushed_26 _ _ _ _ ?_⟩
      · simp only [ql_spec_l14Pushed_26]
        rw [if_pos (by simpa using h1), idx_lt h1]
        simp only [Option.bind_some]
        rw [if_neg (by simpa using h2), inc_nat (by omega)]
        exact g1
      · simp only [ql_impl_isPushed_26]
        rw [if_pos (by simpa using h1), idx_lt h1]
        simp only [Option.bind_some]
        rw [if_neg (by simpa using h2), inc_nat (by omega)]
        exact g2

theorem p_IsPusheds (s : TSign) (hs : s.1.length ≤ 1048576) (c : List TForm) (hc : c.length ≤ 1048576) (hx : ∀ x ∈ c, smF x) : ∃ t : Bool × Bool, c_spec_IsPushed M s c = some ((t.1, t.2, ()), ()) ∧ c_impl_IsPushed M s c = some ((t.1, t.2, ()), ()) := by
  cases h : (gS s.1 && fOK s.1 c) with
  | false =>
    refine ⟨(false, false), e_spec_IsPushed _ _ ?_, e_impl_IsPushed _ _ ?_⟩
    · simp only [q_spec_IsPushed, sign_eta', p_spec_GoodForm s hs c hc hx, h, Option.bind_some]; rfl
    · simp only [q_impl_IsPushed, sign_eta', p_impl_GoodForm s hs c, h, Option.bind_some]; rfl
  | true =>
    have h' := h
    simp only [Bool.and_eq_true, fOK, decide_eq_true_eq] at h'
    obtain ⟨r, g1, g2⟩ := p_pushed_loops s.1 c h'.2.1 c.length 0 0 (by omega) (by omega) h'.2.2
    rw [show ((0 : Nat) : Int) = 0 from rfl] at g1 g2
    have : ∃ b : Bool, c_spec_l14Pushed M c = some ((b, ()), ()) ∧ c_impl_isPushed M c = some ((b, ()), ()) := by
      cases r with
      | inl r =>
        refine ⟨true, e_spec_l14Pushed _ ?_, e_impl_isPushed _ ?_⟩
        · simp only [q_spec_l14Pushed, g1, Option.bind_some, Sum.elim_inl]
        · simp only [q_impl_isPushed, g2, Option.bind_some, Sum.elim_inl]
      | inr r =>
        refine ⟨r.1.1, e_spec_l14Pushed _ ?_, e_impl_isPushed _ ?_⟩
        · simp only [q_spec_l14Pushed, g1, Option.bind_some, Sum.elim_inr]
        · simp only [q_impl_isPushed, g2, Option.bind_some, Sum.elim_inr]
    obtain ⟨b, b1, b2⟩ := this
    refine ⟨(b, true), e_spec_IsPushed _ _ ?_, e_impl_IsPushed _ _ ?_⟩
    · simp only [q_spec_IsPushed, sign_eta', p_spec_GoodForm s hs c hc hx, h, Option.bind_some, b1]; rfl
    · simp only [q_impl_IsPushed, sign_eta', p_impl_GoodForm s hs c, h, Option.bind_some, b2]; rfl

theorem p_FnExactIsPushed (s : TSign) (c : List TForm) (hs : s.1.length ≤ 9223372036854775807) (hc : c.length ≤ 9223372036854775807) (hx : ∀ x ∈ c, wlF x) : c_laws_FnExactIsPushed M s c = some ((true, ()), ()) := by
  obtain ⟨r1, e1, g1, k1⟩ := p_szSign s 1048576 (by omega) (by omega) hs
  by_cases h1 : r1 < 0
  · apply e_laws_FnExactIsPushed
    simp only [q_laws_FnExactIsPushed, sign_eta', e1, Option.bind_some]
    rw [if_pos (by simpa using h1)]
  · obtain ⟨r2, e2, g2, k2⟩ := p_szFormS c r1 (by omega) g1 hc hx
    by_cases h2 : r2 < 0
    · apply e_laws_FnExactIsPushed
      simp only [q_laws_FnExactIsPushed, sign_eta', e1, e2, Option.bind_some]
      rw [if_neg (by simpa using h1), if_pos (by simpa using h2)]
    · have hs' := k1 (by omega)
      obtain ⟨hc', hx'⟩ := k2 (by omega)
      obtain ⟨t, t1, t2⟩ := p_IsPusheds s hs' c hc' hx'
      apply e_laws_FnExactIsPushed
      simp only [q_laws_FnExactIsPushed, sign_eta', e1, e2, Option.bind_some, p_toSign s (by omega), p_toFormS c hc' hx', t1, t2, p_eqSign s (by omega), p_eqFormS c hc' hx']
      rw [if_neg (by simpa using h1), if_neg (by simpa using h2)]
      simp

end Go.Proofs.YtejklhcalinhpaaIp.Ev
