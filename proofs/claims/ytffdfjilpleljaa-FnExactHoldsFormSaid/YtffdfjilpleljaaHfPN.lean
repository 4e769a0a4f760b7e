/- Plain law: FnExactHoldsForm answers true. No condition but that lists fit in memory. -/
import Derived.Test.YtffdfjilpleljaaHfPM
namespace Go.Proofs.YtffdfjilpleljaaHf.Ev
open Go
set_option autoImplicit false
set_option linter.unusedVariables false
set_option linter.unusedSimpArgs false

theorem p_l5Env (w : TWorld) (h1 : 1 ≤ w.1) (h3 : w.1 ≤ 3) (e : List Int) : c_spec_l5Env M w e = some ((envOK w.1 e, ()), ()) := by
  apply e_spec_l5Env
  simp only [q_spec_l5Env, envOK, beq_iff_eq]
  by_cases h : e.length = 12
  · rw [if_pos (by omega), p_elAll w.1 e (by omega) h1 h3, decide_eq_true h]; rfl
  · rw [if_neg (by omega), decide_eq_false h]; rfl
theorem p_isEnv (w : TWorld) (e : List Int) : c_impl_World_isEnv M w e = some ((envOK w.1 e, ()), ()) := by
  apply e_impl_World_isEnv
  simp only [q_impl_World_isEnv, envOK, beq_iff_eq]
  by_cases h : e.length = 12
  · rw [if_pos (by omega), p_areElements w.1 e (by omega), decide_eq_true h]; rfl
  · rw [if_neg (by omega), decide_eq_false h]; rfl

theorem p_HoldsForms (s : TSign) (hs : s.1.length ≤ 1048576) (w : TWorld) (hwl : w.2.1.length ≤ 1048576) (hwx : ∀ y ∈ w.2.1, smS y) (f : List TForm) (hf : f.length ≤ 1048576) (hx : ∀ x ∈ f, smF x) (env : List Int) :
    ∃ t : Bool × Bool, c_spec_HoldsForm M s w f env = some ((t.1, t.2, ()), ()) ∧ c_impl_HoldsForm M s w f env = some ((t.1, t.2, ()), ()) := by
  obtain ⟨t, ft, fT⟩ := p_formula s hs f
  have hGW := p_spec_GoodWorld s hs w hwl hwx
  cases hg : gS s.1 with
  | false =>
    rw [hg] at ft hGW
    refine ⟨(false, false), e_spec_HoldsForm _ _ _ _ ?_, e_impl_HoldsForm _ _ _ _ ?_⟩
    · simp only [q_spec_HoldsForm, sign_eta', world_eta, hGW, Option.bind_some]; rfl
    · simp only [q_impl_HoldsForm, sign_eta', ft, Option.bind_some]; rfl
  | true =>
    have hF := p_l14Form s hg f hf hx
    have hW := p_isWorld s hg w hwl hwx
    rw [hg] at ft hGW fT
    simp only [Bool.true_and] at ft hGW fT
    cases hfo : fOK s.1 f with
    | false =>
      rw [hfo] at ft hF
      refine ⟨(false, false), e_spec_HoldsForm _ _ _ _ ?_, e_impl_HoldsForm _ _ _ _ ?_⟩
      · simp only [q_spec_HoldsForm, sign_eta', world_eta, hGW, hF, Option.bind_some]
        cases wOK s.1 w <;> rfl
      · simp only [q_impl_HoldsForm, sign_eta', ft, Option.bind_some]; rfl
    | true =>
      rw [hfo] at ft hF
      cases hw : wOK s.1 w with
      | false =>
        rw [hw] at hGW hW
        refine ⟨(false, false), e_spec_HoldsForm _ _ _ _ ?_, e_impl_HoldsForm _ _ _ _ ?_⟩
        · simp only [q_spec_HoldsForm, sign_eta', world_eta, hGW, Option.bind_some]; rfl
        · simp only [q_impl_HoldsForm, sign_eta', world_eta, ft, hW, Option.bind_some]; rfl
      | true =>
        rw [hw] at hGW hW
        obtain ⟨w1, w3, _, _⟩ := wOK_parts hw
        have hE1 := p_l5Env w w1 w3 env
        have hE2 := p_isEnv w env
        cases he : envOK w.1 env with
        | false =>
          rw [he] at hE1 hE2
          refine ⟨(false, false), e_spec_HoldsForm _ _ _ _ ?_, e_impl_HoldsForm _ _ _ _ ?_⟩
          · simp only [q_spec_HoldsForm, sign_eta', world_eta, hGW, hF, hE1, Option.bind_some]; rfl
          · simp only [q_impl_HoldsForm, sign_eta', world_eta, ft, hW, hE2, Option.bind_some]; rfl
        | true =>
          rw [he] at hE1 hE2
          have hFT := gT_FT (fT hfo)
          have h15 : f.length ≤ 15 := by simp only [fOK, Bool.and_eq_true, decide_eq_true_eq] at hfo; exact hfo.1
          have hpos := hFT.pos
          obtain ⟨b, b1, b2⟩ := p_holds hg hw hFT (by omega) [] [] (by simp; omega) env he
          refine ⟨(b, true), e_spec_HoldsForm _ _ _ _ ?_, e_impl_HoldsForm _ _ _ _ ?_⟩
          · simp only [q_spec_HoldsForm, sign_eta', world_eta, hGW, hF, hE1, Option.bind_some]
            rw [w64 (by omega) (by omega)]
            simp only [List.nil_append, List.append_nil, List.length_nil, show ((0 : Nat) : Int) = 0 from rfl, Int.zero_add, sign_eta'] at b2
            rw [b2]
            rfl
          · simp only [q_impl_HoldsForm, sign_eta', world_eta, ft, hW, hE2, Option.bind_some]
            rw [sign_eta'] at b1
            rw [b1]
            rfl

theorem p_FnExactHoldsForm (s : TSign) (w : TWorld) (f : List TForm) (env : List Int) (hs : s.1.length ≤ 9223372036854775807) (hw : w.2.1.length ≤ 9223372036854775807) (hwx : ∀ y ∈ w.2.1, wlS y) (hf : f.length ≤ 9223372036854775807) (hx : ∀ x ∈ f, wlF x) : c_laws_FnExactHoldsForm M s w f env = some ((true, ()), ()) := by
  by_cases h0 : (env.length : Int) > 1048576
  · apply e_laws_FnExactHoldsForm
    simp only [q_laws_FnExactHoldsForm]
    rw [if_pos (by simpa using h0)]
  · obtain ⟨r1, e1, g1, k1⟩ := p_szSign s 1048576 (by omega) (by omega) hs
    by_cases h1 : r1 < 0
    · apply e_laws_FnExactHoldsForm
      simp only [q_laws_FnExactHoldsForm, sign_eta', e1, Option.bind_some]
      rw [if_neg (by simpa using h0), if_pos (by simpa using h1)]
    · obtain ⟨r2, e2, g2, k2⟩ := p_szWorld w r1 (by omega) g1 hw hwx
      by_cases h2 : r2 < 0
      · apply e_laws_FnExactHoldsForm
        simp only [q_laws_FnExactHoldsForm, sign_eta', world_eta, e1, e2, Option.bind_some]
        rw [if_neg (by simpa using h0), if_neg (by simpa using h1), if_pos (by simpa using h2)]
      · obtain ⟨r3, e3, g3, k3⟩ := p_szFormS f r2 (by omega) (by omega) hf hx
        by_cases h3 : r3 < 0
        · apply e_laws_FnExactHoldsForm
          simp only [q_laws_FnExactHoldsForm, sign_eta', world_eta, e1, e2, e3, Option.bind_some]
          rw [if_neg (by simpa using h0), if_neg (by simpa using h1), if_neg (by simpa using h2), if_pos (by simpa using h3)]
        · have hs' := k1 (by omega)
          obtain ⟨hw', hwx'⟩ := k2 (by omega)
          obtain ⟨hf', hx'⟩ := k3 (by omega)
          obtain ⟨t, t1, t2⟩ := p_HoldsForms s hs' w hw' hwx' f hf' hx' env
          apply e_laws_FnExactHoldsForm
          simp only [q_laws_FnExactHoldsForm, sign_eta', world_eta, e1, e2, e3, Option.bind_some, p_toSign s (by omega), p_toWorld w hw' hwx', p_toFormS f hf' hx', p_toIntS env (by omega), t1, t2, p_eqSign s (by omega), p_eqWorld w hw' hwx', p_eqFormS f hf' hx', p_eqIntS env (by omega)]
          rw [if_neg (by simpa using h0), if_neg (by simpa using h1), if_neg (by simpa using h2), if_neg (by simpa using h3)]
          simp

end Go.Proofs.YtffdfjilpleljaaHf.Ev
