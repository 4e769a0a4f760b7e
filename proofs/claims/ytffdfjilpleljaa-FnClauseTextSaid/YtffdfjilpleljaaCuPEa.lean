/- Plain laws: both programs tell the same clauses and write the same texts of them. No condition but sizes. -/
import Derived.Test.YtffdfjilpleljaaCuPC
namespace Go.Proofs.YtffdfjilpleljaaCu.Ev
open Go
set_option autoImplicit false
set_option linter.unusedVariables false
set_option linter.unusedSimpArgs false

def litOK (a : List Int) (x : TLit) : Bool := isT a x.2.1 && isT a x.2.2.1
def clOK (a : List Int) (c : List TLit) : Bool := decide (c.length ≤ 8) && c.all (litOK a)

theorem p_l4Lit (s : TSign) (hg : gS s.1 = true) (x : TLit) (h : smL x) : c_spec_l4Lit M s x = some ((litOK s.1 x, ()), ()) := by
  apply e_spec_l4Lit
  simp only [q_spec_l4Lit, sign_eta, p_l1Term s hg x.2.1 h.1, p_l1Term s hg x.2.2.1 h.2, Option.bind_some, litOK]
  cases isT s.1 x.2.1 <;> simp
theorem p_isLit (s : TSign) (hg : gS s.1 = true) (x : TLit) : c_impl_Sign_isLit M s x = some ((litOK s.1 x, ()), ()) := by
  apply e_impl_Sign_isLit
  simp only [q_impl_Sign_isLit, sign_eta, p_isTerm s hg x.2.1, p_isTerm s hg x.2.2.1, Option.bind_some, litOK]
  cases isT s.1 x.2.1 <;> simp

theorem p_l4Clause_loop (s : TSign) (hg : gS s.1 = true) (a : List TLit) (ha : a.length ≤ 1048576) (hx : ∀ x ∈ a, smL x) : ∀ k i : Nat, i + k = a.length → l_spec_l4Clause_26 M a s a a.length i = some (if (a.drop i).all (litOK s.1) = true then .inl (a, ()) else .inr ((false, ()), ())) := by
  intro k
  induction k with
  | zero =>
    intro i hi
    obtain rfl : i = a.length := by omega
    apply el_spec_l4Clause_26
    simp [ql_spec_l4Clause_26]
  | succ k ih =>
    intro i hi
    apply el_spec_l4Clause_26
    have h1 : i < a.length := by omega
    simp only [ql_spec_l4Clause_26]
    rw [if_pos (by simpa using h1), idx_lt h1, inc_nat (by omega)]
    simp only [Option.bind_some, sign_eta, lit_eta, p_l4Lit s hg a[i] (hx _ (List.getElem_mem h1)), ih (i + 1) (by omega)]
    rw [List.drop_eq_getElem_cons h1, List.all_cons]
    generalize litOK s.1 a[i] = b
    cases b <;> rfl
theorem p_l4Clause (s : TSign) (hg : gS s.1 = true) (a : List TLit) (ha : a.length ≤ 1048576) (hx : ∀ x ∈ a, smL x) : c_spec_l4Clause M s a = some ((clOK s.1 a, ()), ()) := by
  apply e_spec_l4Clause
  simp only [q_spec_l4Clause, sign_eta]
  have := p_l4Clause_loop s hg a ha hx a.length 0 (by omega)
  rw [show ((0 : Nat) : Int) = 0 from rfl] at this
  rw [this, List.drop_zero, clOK]
  cases a.all (litOK s.1)
  · simp
  · simp; omega
theorem p_spec_GoodClause (s : TSign) (hs : s.1.length ≤ 1048576) (a : List TLit) (ha : a.length ≤ 1048576) (hx : ∀ x ∈ a, smL x) : c_spec_GoodClause M s a = some ((gS s.1 && clOK s.1 a, ()), ()) := by
  apply e_spec_GoodClause
  simp only [q_spec_GoodClause, sign_eta, p_spec_GoodSign s (by omega), Option.bind_some]
  cases hg : gS s.1 with
  | false => rfl
  | true => rw [if_pos rfl, p_l4Clause s hg a ha hx]; rfl

theorem p_isClause1 (s : TSign) (hg : gS s.1 = true) (x : TLit) : c_impl_Sign_isClause_1 M x s = some ((!litOK s.1 x, ()), ()) := by
  apply e_impl_Sign_isClause_1
  simp only [q_impl_Sign_isClause_1, sign_eta, lit_eta, p_isLit s hg x, Option.bind_some]
theorem p_clIdx_loop (s : TSign) (hg : gS s.1 = true) (a : List TLit) (ha : a.length ≤ 1048576) : ∀ k i : Nat, i + k = a.length → ∃ r, l_slices_IndexFunc_impl_Lit_impl_Lit__impl_Sign_isClause_1_26 M a (s, ()) a.length i = some r ∧ (match r with | .inl _ => (a.drop i).all (litOK s.1) = true | .inr r => 0 ≤ r.1.1 ∧ (a.drop i).all (litOK s.1) = false) := by
  intro k
  induction k with
  | zero =>
    intro i hi
    obtain rfl : i = a.length := by omega
    refine ⟨.inl (), el_slices_IndexFunc_impl_Lit_impl_Lit__impl_Sign_isClause_1_26 _ _ _ _ (by simp [ql_slices_IndexFunc_impl_Lit_impl_Lit__impl_Sign_isClause_1_26]), by simp⟩
  | succ k ih =>
    intro i hi
    have h1 : i < a.length := by omega
    obtain ⟨r, hr, hm⟩ := ih (i + 1) (by omega)
    rw [List.drop_eq_getElem_cons h1, List.all_cons]
    by_cases hp : litOK s.1 a[i] = true
    · refine ⟨r, el_slices_IndexFunc_impl_Lit_impl_Lit__impl_Sign_isClause_1_26 _ _ _ _ ?_, by rw [hp, Bool.true_and]; exact hm⟩
      simp only [ql_slices_IndexFunc_impl_Lit_impl_Lit__impl_Sign_isClause_1_26]
      rw [if_pos (by simpa using h1), idx_lt h1, inc_nat (by omega)]
      simp only [Option.bind_some, lit_eta, p_isClause1 s hg, hp, Bool.not_true, Bool.false_eq_true, if_false]
      exact hr
    · rw [Bool.not_eq_true] at hp
      refine ⟨.inr (((i : Int), ()), ()), el_slices_IndexFunc_impl_Lit_impl_Lit__impl_Sign_isClause_1_26 _ _ _ _ ?_, Int.natCast_nonneg i, by rw [hp, Bool.false_and]⟩
      simp only [ql_slices_IndexFunc_impl_Lit_impl_Lit__impl_Sign_isClause_1_26]
      rw [if_pos (by simpa using h1), idx_lt h1]
      simp only [Option.bind_some, lit_eta, p_isClause1 s hg, hp, Bool.not_false, if_true]
theorem p_clContains (s : TSign) (hg : gS s.1 = true) (a : List TLit) (ha : a.length ≤ 1048576) : c_slices_ContainsFunc_impl_Lit_impl_Lit__impl_Sign_isClause_1 M a (s, ()) = some ((!(a.all (litOK s.1)), ()), ()) := by
  apply e_slices_ContainsFunc_impl_Lit_impl_Lit__impl_Sign_isClause_1
  simp only [q_slices_ContainsFunc_impl_Lit_impl_Lit__impl_Sign_isClause_1]
  obtain ⟨r, hr, hm⟩ := p_clIdx_loop s hg a ha a.length 0 (by omega)
  rw [show ((0 : Nat) : Int) = 0 from rfl] at hr
  rw [List.drop_zero] at hm
  cases r with
  | inl r =>
    rw [e_slices_IndexFunc_impl_Lit_impl_Lit__impl_Sign_isClause_1 a (s, ()) (r := ((-1, ()), ())) (by simp only [q_slices_IndexFunc_impl_Lit_impl_Lit__impl_Sign_isClause_1, hr, Option.bind_some, Sum.elim_inl])]
    simp only at hm
    simp [hm]
  | inr r =>
    rw [e_slices_IndexFunc_impl_Lit_impl_Lit__impl_Sign_isClause_1 a (s, ()) (r := r) (by simp only [q_slices_IndexFunc_impl_Lit_impl_Lit__impl_Sign_isClause_1, hr, Option.bind_some, Sum.elim_inr])]
    simp only at hm
    simp [hm]
theorem p_isClause (s : TSign) (hg : gS s.1 = true) (a : List TLit) (ha : a.length ≤ 1048576) : c_impl_Sign_isClause M s a = some ((clOK s.1 a, ()), ()) := by
  apply e_impl_Sign_isClause
  simp only [q_impl_Sign_isClause, sign_eta, p_clContains s hg a ha, Option.bind_some, clOK]
  by_cases h : a.length ≤ 8
  · rw [if_pos (by simp; omega)]; simp [h]
  · rw [if_neg (by simp; omega)]; simp [h]
theorem p_impl_GoodClause (s : TSign) (hs : s.1.length ≤ 1048576) (a : List TLit) (ha : a.length ≤ 1048576) : c_impl_GoodClause M s a = some ((gS s.1 && clOK s.1 a, ()), ()) := by
  apply e_impl_GoodClause
  simp only [q_impl_GoodClause, sign_eta, p_impl_GoodSign s (by omega), Option.bind_some]
  cases hg : gS s.1 with
  | false => rfl
  | true => rw [if_pos rfl, p_isClause s hg a ha]; rfl

/-- The text of literals. -/
noncomputable def ctx (a : List Int) : Bool → List TLit → List UInt8
  | _, [] => []
  | f, x :: r => (if f then [] else [124]) ++ (tx a x.2.1 ++ ((if x.1 = true then [61] else [35]) ++ (tx a x.2.2.1 ++ ctx a false r)))

theorem p_l4Text_loop (s : TSign) (hg : gS s.1 = true) (c : List TLit) (hc : c.all (litOK s.1) = true) (hl : c.length ≤ 8) : ∀ (k i : Nat) (out : List UInt8), i + k = c.length → out.length ≤ 1000 * i → l_spec_l4Text_122 M s out c c.length i = some (.inl (out ++ ctx s.1 (i == 0) (c.drop i), ())) := by
  intro k
  induction k with
  | zero =>
    intro i out hi ho
    obtain rfl : i = c.length := by omega
    apply el_spec_l4Text_122
    simp [ql_spec_l4Text_122, ctx]
  | succ k ih =>
    intro i out hi ho
    have h1 : i < c.length := by omega
    have hx : litOK s.1 c[i] = true := (List.all_eq_true.1 hc) _ (List.getElem_mem h1)
    simp only [litOK, Bool.and_eq_true] at hx
    have l1 := tx_len hg hx.1
    have l2 := tx_len hg hx.2
    apply el_spec_l4Text_122
    rw [List.drop_eq_getElem_cons h1]
    cases hb : c[i].1 <;> by_cases h0 : i = 0
    all_goals
      simp (disch := omega) only [ql_spec_l4Text_122, idx_lt h1, Option.bind_some, Sum.elim_inl, sign_eta, lit_eta, decide_eq_true_eq, if_pos, if_neg, List.length_append, List.length_cons, List.length_nil, p_l1TermText s hg _ hx.1, p_l1TermText s hg _ hx.2, hb, inc_nat, Bool.false_eq_true, if_false, if_true]
      rw [ih (i + 1) _ (by omega) (by simp only [List.length_append, List.length_cons, List.length_nil]; omega)]
      simp only [ctx, hb, Bool.false_eq_true, if_false, if_true]
      simp [h0]

theorem p_clauseText_loop (s : TSign) (hg : gS s.1 = true) (c : List TLit) (hc : c.all (litOK s.1) = true) (hl : c.length ≤ 8) : ∀ (k i : Nat) (out : List UInt8), i + k = c.length → out.length ≤ 1000 * i → l_impl_Sign_clauseText_122 M s out c c.length i = some (.inl (out ++ ctx s.1 (i == 0) (c.drop i), ())) := by
  intro k
  induction k with
  | zero =>
    intro i out hi ho
    obtain rfl : i = c.length := by omega
    apply el_impl_Sign_clauseText_122
    simp [ql_impl_Sign_clauseText_122, ctx]
  | succ k ih =>
    intro i out hi ho
    have h1 : i < c.length := by omega
    have hx : litOK s.1 c[i] = true := (List.all_eq_true.1 hc) _ (List.getElem_mem h1)
    simp only [litOK, Bool.and_eq_true] at hx
    have l1 := tx_len hg hx.1
    have l2 := tx_len hg hx.2
    apply el_impl_Sign_clauseText_122
    rw [List.drop_eq_getElem_cons h1]
    cases hb : c[i].1 <;> by_cases h0 : i = 0
    all_goals
      simp (disch := omega) only [ql_impl_Sign_clauseText_122, idx_lt h1, Option.bind_some, Sum.elim_inl, sign_eta, lit_eta, decide_eq_true_eq, if_pos, if_neg, List.length_append, List.length_cons, List.length_nil, p_termText s hg _ hx.1, p_termText s hg _ hx.2, hb, inc_nat, Bool.false_eq_true, if_false, if_true]
      rw [ih (i + 1) _ (by omega) (by simp only [List.length_append, List.length_cons, List.length_nil]; omega)]
      simp only [ctx, hb, Bool.false_eq_true, if_false, if_true]
      simp [h0]

/-- The text of a clause. -/
noncomputable def clt (a : List Int) (c : List TLit) : List UInt8 := if c.length = 0 then [45] else ctx a true c
theorem p_l4Text (s : TSign) (hg : gS s.1 = true) (c : List TLit) (h : clOK s.1 c = true) : c_spec_l4Text M s c = some ((clt s.1 c, ()), ()) := by
  simp only [clOK, Bool.and_eq_true, decide_eq_true_eq] at h
  apply e_spec_l4Text
  simp only [q_spec_l4Text, clt, sign_eta]
  by_cases h0 : c.length = 0
  · rw [if_pos (by simp [h0]), if_pos h0]
  · rw [if_neg (by simpa using h0), if_neg h0]
    have := p_l4Text_loop s hg c h.2 h.1 c.length 0 [] (by omega) (by simp)
    rw [show ((0 : Nat) : Int) = 0 from rfl] at this
    rw [this]
    simp
theorem p_clauseText (s : TSign) (hg : gS s.1 = true) (c : List TLit) (h : clOK s.1 c = true) : c_impl_Sign_clauseText M s c = some ((clt s.1 c, ()), ()) := by
  simp only [clOK, Bool.and_eq_true, decide_eq_true_eq] at h
  apply e_impl_Sign_clauseText
  simp only [q_impl_Sign_clauseText, clt, sign_eta]
  by_cases h0 : c.length = 0
  · rw [if_pos (by simp [h0]), if_pos h0]
  · rw [if_neg (by simpa using h0), if_neg h0]
    have := p_clauseText_loop s hg c h.2 h.1 c.length 0 [] (by omega) (by simp)
    rw [show ((0 : Nat) : Int) = 0 from rfl] at this
    rw [this]
    simp

theorem p_ClauseTexts (s : TSign) (hs : s.1.length ≤ 1048576) (c : List TLit) (hc : c.length ≤ 1048576) (hx : ∀ x ∈ c, smL x) : ∃ t : List UInt8 × Bool, c_spec_ClauseText M s c = some ((t.1, t.2, ()), ()) ∧ c_impl_ClauseText M s c = some ((t.1, t.2, ()), ()) := by
  cases h : (gS s.1 && clOK s.1 c) with
  | false =>
    refine ⟨([], false), e_spec_ClauseText _ _ ?_, e_impl_ClauseText _ _ ?_⟩
    · simp only [q_spec_ClauseText, sign_eta, p_spec_GoodClause s hs c hc hx, h, Option.bind_some]; rfl
    · simp only [q_impl_ClauseText, sign_eta, p_impl_GoodClause s hs c hc, h, Option.bind_some]; rfl
  | true =>
    have h' := h
    simp only [Bool.and_eq_true] at h'
    refine ⟨(clt s.1 c, true), e_spec_ClauseText _ _ ?_, e_impl_ClauseText _ _ ?_⟩
    · simp only [q_spec_ClauseText, sign_eta, p_spec_GoodClause s hs c hc hx, h, Option.bind_some, p_l4Text s h'.1 c h'.2]; rfl
    · simp only [q_impl_ClauseText, sign_eta, p_impl_GoodClause s hs c hc, h, Option.bind_some, p_clauseText s h'.1 c h'.2]; rfl

end Go.Proofs.YtffdfjilpleljaaCu.Ev
