/- Plain laws: both programs tell the same clauses. No condition but sizes. -/
import Derived.Test.YtofkhmedmeihiaaRbPB
namespace Go.Proofs.YtofkhmedmeihiaaRb.Ev
open Go
set_option autoImplicit false
set_option linter.unusedVariables false
set_option linter.unusedSimpArgs false

def litOK (a : List Int) (x : TLit) : Bool := isT a x.2.1 && isT a x.2.2.1

def clOK (a : List Int) (c : List TLit) : Bool := decide (c.length ≤ 8) && c.all (litOK a)

theorem p_l4Lit (s : TSign) (hg : gS s.1 = true) (x : TLit) (h : smL x) : c_spec_l4Lit M s x = some ((litOK s.1 x, ()), ()) := by
  apply e_spec_l4Lit
  simp only [q_spec_l4Lit, sign_eta, p_l1Term s hg x.2.1 h.1, p_l1Term s hg x.2.2.1 h.2, Option.bind_some, litOK]
  cases isT s.1 x.2.1 <;> simp

theorem p_isLit (s : TSign) (hg : gS s.1 = true) (x : TLit) : c_impl_Sign_isLit M s x = some ((litOK s.1 x, ()), ()) := by
  apply e_impl_Sign_isLit
  simp only [q_impl_Sign_isLit, sign_eta, p_isTerm s hg x.2.1, p_isTerm s hg x.2.2.1, Option.bind_some, litOK]
  cases isT s.1 x.2.1 <;> simp

theorem p_l4Clause_loop (s : TSign) (hg : gS s.1 = true) (a : List TLit) (ha : a.length ≤ 1048576) (hx : ∀ x ∈ a, smL x) : ∀ k i : Nat, i + k = a.length → l_spec_l4Clause_26 M a s a a.length i = some (if (a.drop i).all (litOK s.1) = true then .inl (a, ()) else .inr ((false, ()), ())) := by
  intro k
  induction k with
  | zero =>
    intro i hi
    obtain rfl : i = a.length := by omega
    apply el_spec_l4Clause_26
    simp [ql_spec_l4Clause_26]
  | succ k ih =>
    intro i hi
    apply el_spec_l4Clause_26
    have h1 : i < a.length := by omega
    simp only [ql_spec_l4Clause_26]
    rw [if_pos (by simpa using h1), idx_lt h1, inc_nat (by omega)]
    simp only [Option.bind_some, sign_eta, lit_eta, p_l4Lit s hg a[i] (hx _ (List.getElem_mem h1)), ih (i + 1) (by omega)]
    rw [List.drop_eq_getElem_cons h1, List.all_cons]
    generalize litOK s.1 a[i] = b
    cases b <;> rfl

theorem p_l4Clause (s : TSign) (hg : gS s.1 = true) (a : List TLit) (ha : a.length ≤ 1048576) (hx : ∀ x ∈ a, smL x) : c_spec_l4Clause M s a = some ((clOK s.1 a, ()), ()) := by
  apply e_spec_l4Clause
  simp only [q_spec_l4Clause, sign_eta]
  have := p_l4Clause_loop s hg a ha hx a.length 0 (by omega)
  rw [show ((0 : Nat) : Int) = 0 from rfl] at this
  rw [this, List.drop_zero, clOK]
  cases a.all (litOK s.1)
  · simp
  · simp; omega

theorem p_isClause1 (s : TSign) (hg : gS s.1 = true) (x : TLit) : c_impl_Sign_isClause_1 M x s = some ((!litOK s.1 x, ()), ()) := by
  apply e_impl_Sign_isClause_1
  simp only [q_impl_Sign_isClause_1, sign_eta, lit_eta, p_isLit s hg x, Option.bind_some]

theorem p_clIdx_loop (s : TSign) (hg : gS s.1 = true) (a : List TLit) (ha : a.length ≤ 1048576) : ∀ k i : Nat, i + k = a.length → ∃ r, l_slices_IndexFunc_impl_Lit_impl_Lit__impl_Sign_isClause_1_26 M a (s, ()) a.length i = some r ∧ (match r with | .inl _ => (a.drop i).all (litOK s.1) = true | .inr r => 0 ≤ r.1.1 ∧ (a.drop i).all (litOK s.1) = false) := by
  intro k
  induction k with
  | zero =>
    intro i hi
    obtain rfl : i = a.length := by omega
    refine ⟨.inl (), el_slices_IndexFunc_impl_Lit_impl_Lit__impl_Sign_isClause_1_26 _ _ _ _ (by simp [ql_slices_IndexFunc_impl_Lit_impl_Lit__impl_Sign_isClause_1_26]), by simp⟩
  | succ k ih =>
    intro i hi
    have h1 : i < a.length := by omega
    obtain ⟨r, hr, hm⟩ := ih (i + 1) (by omega)
    rw [List.drop_eq_getElem_cons h1, List.all_cons]
    by_cases hp : litOK s.1 a[i] = true
    · refine ⟨r, el_slices_IndexFunc_impl_Lit_impl_Lit__impl_Sign_isClause_1_26 _ _ _ _ ?_, by rw [hp, Bool.true_and]; exact hm⟩
      simp only [ql_slices_IndexFunc_impl_Lit_impl_Lit__impl_Sign_isClause_1_26]
      rw [if_pos (by simpa using h1), idx_lt h1, inc_nat (by omega)]
      simp only [Option.bind_some, lit_eta, p_isClause1 s hg, hp, Bool.not_true, Bool.false_eq_true, if_false]
      exact hr
    · rw [Bool.not_eq_true] at hp
      refine ⟨.inr (((i : Int), ()), ()), el_slices_IndexFunc_impl_Lit_impl_Lit__impl_Sign_isClause_1_26 _ _ _ _ ?_, Int.natCast_nonneg i, by rw [hp, Bool.false_and]⟩
      simp only [ql_slices_IndexFunc_impl_Lit_impl_Lit__impl_Sign_isClause_1_26]
      rw [if_pos (by simpa using h1), idx_lt h1]
      simp only [Option.bind_some, lit_eta, p_isClause1 s hg, hp, Bool.not_false, if_true]

theorem p_clContains (s : TSign) (hg : gS s.1 = true) (a : List TLit) (ha : a.length ≤ 1048576) : c_slices_ContainsFunc_impl_Lit_impl_Lit__impl_Sign_isClause_1 M a (s, ()) = some ((!(a.all (litOK s.1)), ()), ()) := by
  apply e_slices_ContainsFunc_impl_Lit_impl_Lit__impl_Sign_isClause_1
  simp only [q_slices_ContainsFunc_impl_Lit_impl_Lit__impl_Sign_isClause_1]
  obtain ⟨r, hr, hm⟩ := p_clIdx_loop s hg a ha a.length 0 (by omega)
  rw [show ((0 : Nat) : Int) = 0 from rfl] at hr
  rw [List.drop_zero] at hm
  cases r with
  | inl r =>
    rw [e_slices_IndexFunc_impl_Lit_impl_Lit__impl_Sign_isClause_1 a (s, ()) (r := ((-1, ()), ())) (by simp only [q_slices_IndexFunc_impl_Lit_impl_Lit__impl_Sign_isClause_1, hr, Option.bind_some, Sum.elim_inl])]
    simp only at hm
    simp [hm]
  | inr r =>
    rw [e_slices_IndexFunc_impl_Lit_impl_Lit__impl_Sign_isClause_1 a (s, ()) (r := r) (by simp only [q_slices_IndexFunc_impl_Lit_impl_Lit__impl_Sign_isClause_1, hr, Option.bind_some, Sum.elim_inr])]
    simp only at hm
    simp [hm]

theorem p_isClause (s : TSign) (hg : gS s.1 = true) (a : List TLit) (ha : a.length ≤ 1048576) : c_impl_Sign_isClause M s a = some ((clOK s.1 a, ()), ()) := by
  apply e_impl_Sign_isClause
  simp only [q_impl_Sign_isClause, sign_eta, p_clContains s hg a ha, Option.bind_some, clOK]
  by_cases h : a.length ≤ 8
  · rw [if_pos (by simp; omega)]; simp [h]
  · rw [if_neg (by simp; omega)]; simp [h]

end Go.Proofs.YtofkhmedmeihiaaRb.Ev
