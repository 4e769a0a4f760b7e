/- Plain laws: nodes of formulas, as the laws copy, compare and count them. No condition but sizes. -/
import Derived.Test.YtofkhmedmeihiaaPnPB
import Derived.Test.YtofkhmedmeihiaaPnPFe
namespace Go.Proofs.YtofkhmedmeihiaaPn.Ev
open Go
set_option autoImplicit false
set_option linter.unusedVariables false
set_option linter.unusedSimpArgs false


theorem p_toForm (x : TForm) (h : smF x) : c_laws_toForm M x = some ((x, ()), ()) := by
  apply e_laws_toForm
  simp only [q_laws_toForm, p_toIntS x.2.2.1 (by have := h.1; omega), p_toIntS x.2.2.2.1 (by have := h.2; omega), Option.bind_some]

theorem p_toFormS_loop (a : List TForm) (ha : a.length ≤ 1048576) (hx : ∀ x ∈ a, smF x) : ∀ k i : Nat, i + k = a.length → ∀ o : List TForm, o.length = a.length → l_laws_toFormS_58 M a o i = some (.inl (o.take i ++ a.drop i, ())) := by
  intro k
  induction k with
  | zero =>
    intro i hi o ho
    obtain rfl : i = a.length := by omega
    apply el_laws_toFormS_58
    simp only [ql_laws_toFormS_58, Int.lt_irrefl, decide_false, Bool.false_eq_true, if_false, List.drop_length, List.append_nil]
    rw [← ho, List.take_length]
  | succ k ih =>
    intro i hi o ho
    apply el_laws_toFormS_58
    have h1 : i < a.length := by omega
    have h2 : i < o.length := by omega
    simp only [ql_laws_toFormS_58]
    rw [if_pos (by simpa using h1), idx_lt h1, inc_nat (by omega)]
    simp only [Option.bind_some, form_eta, p_toForm a[i] (hx _ (List.getElem_mem h1))]
    rw [if_pos (by omega)]
    simp only [Option.bind_some, Int.toNat_natCast, List.getElem?_eq_getElem h2]
    rw [ih (i + 1) (by omega) _ (by simpa using ho)]
    rw [List.take_set, List.take_succ_eq_append_getElem h2, List.set_append_right _ _ (by simp; omega), List.drop_eq_getElem_cons h1]
    simp [Nat.min_eq_left (Nat.le_of_lt h2)]

theorem p_toFormS (a : List TForm) (ha : a.length ≤ 1048576) (hx : ∀ x ∈ a, smF x) : c_laws_toFormS M a = some ((a, ()), ()) := by
  apply e_laws_toFormS
  simp only [q_laws_toFormS]
  rw [if_pos (by refine ⟨by omega, by omega, trivial⟩)]
  have := p_toFormS_loop a ha hx a.length 0 (by omega) (List.replicate a.length ((0 : Int), (0 : Int), [], [], ())) (by simp)
  simp only [Int.toNat_natCast]
  rw [show ((0 : Nat) : Int) = 0 from rfl] at this
  rw [this]
  simp


def wlF (x : TForm) : Prop := x.2.2.1.length ≤ 9223372036854775807 ∧ x.2.2.2.1.length ≤ 9223372036854775807
theorem p_szForm (x : TForm) (n : Int) (hn : 0 ≤ n) (hn' : n ≤ 1048576) (hx : wlF x) : ∃ r : Int, c_laws_szForm M x n = some ((r, ()), ()) ∧ r ≤ n ∧ (0 ≤ r → smF x) := by
  by_cases h1 : n - x.2.2.1.length < 0
  · refine ⟨-1, e_laws_szForm _ _ ?_, by omega, by omega⟩
    simp only [q_laws_szForm, p_szIntS x.2.2.1 n hn hn' hx.1, Option.bind_some, if_pos h1]
    rfl
  · by_cases h2 : n - x.2.2.1.length - x.2.2.2.1.length < 0
    · refine ⟨-1, e_laws_szForm _ _ ?_, by omega, by omega⟩
      simp only [q_laws_szForm, p_szIntS x.2.2.1 n hn hn' hx.1, Option.bind_some, if_neg h1, decide_eq_true_eq, p_szIntS x.2.2.2.1 (n - x.2.2.1.length) (by omega) (by omega) hx.2, if_pos h2]
      rfl
    · refine ⟨n - x.2.2.1.length - x.2.2.2.1.length, e_laws_szForm _ _ ?_, by omega, fun _ => ⟨by omega, by omega⟩⟩
      simp only [q_laws_szForm, p_szIntS x.2.2.1 n hn hn' hx.1, Option.bind_some, if_neg h1, decide_eq_true_eq, p_szIntS x.2.2.2.1 (n - x.2.2.1.length) (by omega) (by omega) hx.2, if_neg h2]

theorem p_szFormS_loop (a : List TForm) (ha : a.length ≤ 1048576) (hx : ∀ x ∈ a, wlF x) : ∀ (k i : Nat) (n : Int), i + k = a.length → 0 ≤ n → n ≤ 1048576 → (∀ x ∈ a.take i, smF x) →
    ∃ r, l_laws_szFormS_122 M a n i = some r ∧ (match r with | .inl y => 0 ≤ y.1 ∧ y.1 ≤ n ∧ ∀ x ∈ a, smF x | .inr y => y.1.1 = -1) := by
  intro k
  induction k with
  | zero =>
    intro i n hi h0 hn hs
    obtain rfl : i = a.length := by omega
    refine ⟨.inl (n, ()), el_laws_szFormS_122 _ _ _ (by simp [ql_laws_szFormS_122]), h0, Int.le_refl _, by simpa using hs⟩
  | succ k ih =>
    intro i n hi h0 hn hs
    have h1 : i < a.length := by omega
    obtain ⟨m, hm, hm1, hm2⟩ := p_szForm a[i] n h0 hn (hx _ (List.getElem_mem h1))
    by_cases hneg : m < 0
    · refine ⟨.inr ((-1, ()), ()), el_laws_szFormS_122 _ _ _ ?_, rfl⟩
      simp only [ql_laws_szFormS_122]
      rw [if_pos (by simpa using h1), idx_lt h1]
      simp only [Option.bind_some, form_eta, hm]
      rw [if_pos (by simpa using hneg)]
    · obtain ⟨r, hr, hp⟩ := ih (i + 1) m (by omega) (by omega) (by omega) (by
        intro x hx'
        rw [List.take_succ_eq_append_getElem h1] at hx'
        rcases List.mem_append.1 hx' with h | h
        · exact hs x h
        · rw [List.mem_singleton.1 h]; exact hm2 (by omega))
      refine ⟨r, el_laws_szFormS_122 _ _ _ ?_, ?_⟩
      · simp only [ql_laws_szFormS_122]
        rw [if_pos (by simpa using h1), idx_lt h1, inc_nat (by omega)]
        simp only [Option.bind_some, form_eta, hm]
        rw [if_neg (by simpa using hneg)]
        exact hr
      · cases r with
        | inl y => exact ⟨hp.1, by have := hp.2.1; omega, hp.2.2⟩
        | inr y => exact hp
theorem p_szFormS (a : List TForm) (n : Int) (hn : 0 ≤ n) (hn' : n ≤ 1048576) (ha : a.length ≤ 9223372036854775807) (hx : ∀ x ∈ a, wlF x) : ∃ r : Int, c_laws_szFormS M a n = some ((r, ()), ()) ∧ r ≤ n ∧ (0 ≤ r → a.length ≤ 1048576 ∧ ∀ x ∈ a, smF x) := by
  have hw : IntKind.i64.wrap (n - a.length) = n - a.length := w64 (by omega) (by omega)
  by_cases h1 : n - a.length < 0
  · refine ⟨-1, e_laws_szFormS _ _ ?_, by omega, by omega⟩
    simp only [q_laws_szFormS, hw]
    rw [if_pos (by simpa using h1)]
  · obtain ⟨r, hr, hp⟩ := p_szFormS_loop a (by omega) hx a.length 0 (n - a.length) (by omega) (by omega) (by omega) (by simp)
    rw [show ((0 : Nat) : Int) = 0 from rfl] at hr
    cases r with
    | inl y =>
      refine ⟨y.1, e_laws_szFormS _ _ ?_, by have := hp.2.1; omega, fun _ => ⟨by omega, hp.2.2⟩⟩
      simp only [q_laws_szFormS, hw]
      rw [if_neg (by simpa using h1), hr]
      rfl
    | inr y =>
      obtain ⟨⟨y, _⟩, _⟩ := y
      simp only at hp
      subst hp
      refine ⟨-1, e_laws_szFormS _ _ ?_, by omega, by omega⟩
      simp only [q_laws_szFormS, hw]
      rw [if_neg (by simpa using h1), hr]
      rfl

end Go.Proofs.YtofkhmedmeihiaaPn.Ev
