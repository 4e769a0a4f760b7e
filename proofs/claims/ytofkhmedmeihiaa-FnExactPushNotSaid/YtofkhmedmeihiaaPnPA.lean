/- Plain laws: the laws' own copying, comparing and counting functions answer as they should, at lists that memory can hold. -/
import Derived.Test.YtofkhmedmeihiaaPnPAa
namespace Go.Proofs.YtofkhmedmeihiaaPn.Ev
open Go
set_option autoImplicit false
set_option linter.unusedVariables false
set_option linter.unusedSimpArgs false

theorem p_toIntS_loop (a : List Int) (ha : a.length ≤ 17592186044416) : ∀ k i : Nat, i + k = a.length → ∀ o : List Int, o.length = a.length → l_laws_toIntS_58 M a o i = some (.inl (o.take i ++ a.drop i, ())) := by
  intro k
  induction k with
  | zero =>
    intro i hi o ho
    obtain rfl : i = a.length := by omega
    apply el_laws_toIntS_58
    simp only [ql_laws_toIntS_58, Int.lt_irrefl, decide_false, Bool.false_eq_true, if_false, List.drop_length, List.append_nil]
    rw [← ho, List.take_length]
  | succ k ih =>
    intro i hi o ho
    apply el_laws_toIntS_58
    have h1 : i < a.length := by omega
    have h2 : i < o.length := by omega
    simp only [ql_laws_toIntS_58]
    rw [if_pos (by simpa using h1), idx_lt h1, inc_nat (by omega)]
    simp only [Option.bind_some]
    rw [if_pos (by omega)]
    simp only [Option.bind_some, Int.toNat_natCast, List.getElem?_eq_getElem h2]
    rw [ih (i + 1) (by omega) _ (by simpa using ho)]
    rw [List.take_set, List.take_succ_eq_append_getElem h2, List.set_append_right _ _ (by simp; omega), List.drop_eq_getElem_cons h1]
    simp [Nat.min_eq_left (Nat.le_of_lt h2)]

theorem p_toIntS (a : List Int) (ha : a.length ≤ 17592186044416) : c_laws_toIntS M a = some ((a, ()), ()) := by
  apply e_laws_toIntS
  simp only [q_laws_toIntS]
  rw [if_pos (by refine ⟨by omega, by omega, trivial⟩)]
  have := p_toIntS_loop a ha a.length 0 (by omega) (List.replicate a.length 0) (by simp)
  simp only [Int.toNat_natCast]
  rw [show ((0 : Nat) : Int) = 0 from rfl] at this
  rw [this]
  simp

theorem p_eqIntS_loop (a : List Int) (ha : a.length ≤ 17592186044416) : ∀ k i : Nat, i + k = a.length → l_laws_eqIntS_58 M a a i = some (.inl ()) := by
  intro k
  induction k with
  | zero =>
    intro i hi
    obtain rfl : i = a.length := by omega
    apply el_laws_eqIntS_58
    simp only [ql_laws_eqIntS_58, Int.lt_irrefl, decide_false, Bool.false_eq_true, if_false]
  | succ k ih =>
    intro i hi
    apply el_laws_eqIntS_58
    have h1 : i < a.length := by omega
    simp only [ql_laws_eqIntS_58]
    rw [if_pos (by simpa using h1), idx_lt h1, inc_nat (by omega)]
    simp only [Option.bind_some, bne_self_eq_false, Bool.false_eq_true, if_false]
    exact ih (i + 1) (by omega)
theorem p_eqIntS (a : List Int) (ha : a.length ≤ 17592186044416) : c_laws_eqIntS M a a = some ((true, ()), ()) := by
  apply e_laws_eqIntS
  simp only [q_laws_eqIntS, bne_self_eq_false, Bool.false_eq_true, if_false]
  have := p_eqIntS_loop a ha a.length 0 (by omega)
  rw [show ((0 : Nat) : Int) = 0 from rfl] at this
  rw [this]
  rfl

theorem p_szIntS (a : List Int) (n : Int) (hn : 0 ≤ n) (hn' : n ≤ 1048576) (ha : a.length ≤ 9223372036854775807) : c_laws_szIntS M a n = some ((if n - a.length < 0 then -1 else n - a.length, ()), ()) := by
  apply e_laws_szIntS
  simp only [q_laws_szIntS, decide_eq_true_eq]
  rw [w64 (by omega) (by omega)]
  split <;> rfl

theorem p_szSign (s : TSign) (n : Int) (hn : 0 ≤ n) (hn' : n ≤ 1048576) (ha : s.1.length ≤ 9223372036854775807) : ∃ r : Int, c_laws_szSign M s n = some ((r, ()), ()) ∧ r ≤ n ∧ (0 ≤ r → s.1.length ≤ 1048576) := by
  refine ⟨if n - s.1.length < 0 then -1 else n - s.1.length, ?_, by split <;> omega, by split <;> omega⟩
  apply e_laws_szSign
  simp only [q_laws_szSign, p_szIntS s.1 n hn hn' ha, Option.bind_some, decide_eq_true_eq]
  by_cases h : n - (s.1.length : Int) < 0
  · simp [h]
  · simp [h]

theorem p_toSign (s : TSign) (ha : s.1.length ≤ 17592186044416) : c_laws_toSign M s = some ((s, ()), ()) := by
  apply e_laws_toSign
  simp only [q_laws_toSign, p_toIntS s.1 ha, Option.bind_some]
theorem p_eqSign (s : TSign) (ha : s.1.length ≤ 17592186044416) : c_laws_eqSign M s s = some ((true, ()), ()) := by
  apply e_laws_eqSign
  simp only [q_laws_eqSign, p_eqIntS s.1 ha, Option.bind_some, Bool.not_true, Bool.false_eq_true, if_false]

end Go.Proofs.YtofkhmedmeihiaaPn.Ev
