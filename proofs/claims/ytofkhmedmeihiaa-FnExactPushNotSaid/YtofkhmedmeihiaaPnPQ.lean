/- Plain laws: what the laws write into rows to tell whether they are shared, and read again. No condition but sizes. -/
import Derived.Test.YtofkhmedmeihiaaPnPBa
namespace Go.Proofs.YtofkhmedmeihiaaPn.Ev
open Go
set_option autoImplicit false
set_option linter.unusedVariables false
set_option linter.unusedSimpArgs false

/-- Numbers from one on. -/
def mkS (k : Int) : Nat → List Int
  | 0 => []
  | n + 1 => k :: mkS (k + 1) n
theorem mkS_len : ∀ (n : Nat) (k : Int), (mkS k n).length = n
  | 0, _ => rfl
  | n + 1, k => by simp [mkS, mkS_len n]

theorem set_mid {α : Type} (P R : List α) (x y : α) : (P ++ x :: R).set P.length y = P ++ y :: R := by
  rw [List.set_append_right _ _ (Nat.le_refl _)]; simp
theorem get_mid {α : Type} (P R : List α) (x : α) : (P ++ x :: R)[P.length]? = some x := by simp
theorem idx_mid {α : Type} (P R : List α) (x : α) : idx (P ++ x :: R) (P.length : Int) = some x := by rw [idx_nat]; simp

theorem p_markIntS_loop : ∀ (R P : List Int) (k : Int), 0 ≤ k → k + R.length ≤ 4611686018427387904 → P.length + R.length ≤ 4611686018427387904 → l_laws_markIntS_26 M (P ++ R) k P.length = some (.inl (P ++ mkS k R.length, k + R.length, ())) := by
  intro R
  induction R with
  | nil =>
    intro P k _ _ _
    apply el_laws_markIntS_26
    simp [ql_laws_markIntS_26, mkS]
  | cons x R ih =>
    intro P k h0 hk hp
    simp only [List.length_cons] at hk hp
    apply el_laws_markIntS_26
    simp only [ql_laws_markIntS_26]
    rw [if_pos (by simp; omega), if_pos (by simp; omega), Int.toNat_natCast, get_mid, set_mid, w64 (x := k + 1) (by omega) (by omega), inc_nat (by omega)]
    simp only [Option.bind_some]
    have := ih (P ++ [k]) (k + 1) (by omega) (by omega) (by simp; omega)
    rw [List.append_assoc, List.length_append] at this
    simp only [List.cons_append, List.nil_append, List.length_cons, List.length_nil, Nat.zero_add] at this
    rw [this]
    simp only [List.length_cons, mkS, List.append_assoc, List.cons_append, List.nil_append]
    rw [show k + 1 + (R.length : Int) = k + ((R.length + 1 : Nat) : Int) by omega]
theorem p_markIntS (a : List Int) (k : Int) (h0 : 0 ≤ k) (hk : k + a.length ≤ 4611686018427387904) : c_laws_markIntS M a k = some ((k + a.length, ()), (mkS k a.length, ())) := by
  apply e_laws_markIntS
  have := p_markIntS_loop a [] k h0 hk (by simp; omega)
  simp only [List.nil_append, List.length_nil] at this
  rw [show ((0 : Nat) : Int) = 0 from rfl] at this
  simp only [q_laws_markIntS, this, Option.bind_some, Sum.elim_inl]

theorem p_heldIntS_loop : ∀ (n : Nat) (P : List Int) (k : Int), 0 ≤ k → k + n ≤ 4611686018427387904 → P.length + n ≤ 4611686018427387904 → l_laws_heldIntS_26 M (P ++ mkS k n) k P.length = some (.inl (k + n, ())) := by
  intro n
  induction n with
  | zero =>
    intro P k _ _ _
    apply el_laws_heldIntS_26
    simp [ql_laws_heldIntS_26, mkS]
  | succ n ih =>
    intro P k h0 hk hp
    rw [show mkS k (n + 1) = k :: mkS (k + 1) n from rfl]
    apply el_laws_heldIntS_26
    simp only [ql_laws_heldIntS_26]
    rw [if_pos (by simp [mkS_len]; omega), idx_mid, w64 (x := k + 1) (by omega) (by omega), inc_nat (by omega)]
    simp only [Option.bind_some]
    rw [if_neg (by simp)]
    have := ih (P ++ [k]) (k + 1) (by omega) (by omega) (by simp; omega)
    rw [List.append_assoc, List.length_append] at this
    simp only [List.cons_append, List.nil_append, List.length_cons, List.length_nil, Nat.zero_add] at this
    rw [this, show k + 1 + (n : Int) = k + ((n + 1 : Nat) : Int) by omega]
theorem p_heldIntS (k : Int) (n : Nat) (h0 : 0 ≤ k) (hk : k + n ≤ 4611686018427387904) : c_laws_heldIntS M (mkS k n) k = some ((k + n, ()), ()) := by
  apply e_laws_heldIntS
  have := p_heldIntS_loop n [] k h0 hk (by simp; omega)
  simp only [List.nil_append, List.length_nil] at this
  rw [show ((0 : Nat) : Int) = 0 from rfl] at this
  simp only [q_laws_heldIntS, this, Option.bind_some, Sum.elim_inl]

theorem p_markSign (s : TSign) (k : Int) (h0 : 0 ≤ k) (hk : k + s.1.length ≤ 4611686018427387904) : c_laws_markSign M s k = some ((k + s.1.length, ()), ((mkS k s.1.length, ()), ())) := by
  apply e_laws_markSign
  simp only [q_laws_markSign, p_markIntS s.1 k h0 hk, Option.bind_some]

end Go.Proofs.YtofkhmedmeihiaaPn.Ev
