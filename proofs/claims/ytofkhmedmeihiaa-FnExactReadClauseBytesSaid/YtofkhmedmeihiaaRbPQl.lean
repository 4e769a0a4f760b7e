/- Plain laws: marks in literals. No condition but sizes. -/
import Derived.Test.YtofkhmedmeihiaaRbPQ
namespace Go.Proofs.YtofkhmedmeihiaaRb.Ev
open Go
set_option autoImplicit false
set_option linter.unusedVariables false
set_option linter.unusedSimpArgs false

/-- How many marks literals take. -/
def totL : List TLit → Nat
  | [] => 0
  | x :: r => 1 + x.2.1.length + x.2.2.1.length + totL r
/-- Literals with marks. -/
def mkL (k : Int) : List TLit → List TLit
  | [] => []
  | x :: r => (((Int.tmod k 3) == 0), mkS (k + 1) x.2.1.length, mkS (k + 1 + x.2.1.length) x.2.2.1.length, ()) :: mkL (k + 1 + x.2.1.length + x.2.2.1.length) r
theorem mkL_len : ∀ (r : List TLit) (k : Int), (mkL k r).length = r.length
  | [], _ => rfl
  | x :: r, k => by simp [mkL, mkL_len r]
theorem totL_le : ∀ (r : List TLit), (∀ x ∈ r, smL x) → totL r ≤ 2097153 * r.length
  | [], _ => by simp [totL]
  | x :: r, h => by
    have h1 := h x (by simp)
    have h2 := totL_le r (fun y hy => h y (by simp [hy]))
    have h3 := h1.1
    have h4 := h1.2
    simp only [totL, List.length_cons]
    omega

theorem p_markLitS_loop : ∀ (R P : List TLit) (k : Int), 0 ≤ k → k + totL R ≤ 4611686018427387904 → P.length + R.length ≤ 4611686018427387904 → l_laws_markLitS_26 M (P ++ R) k P.length = some (.inl (P ++ mkL k R, k + totL R, ())) := by
  intro R
  induction R with
  | nil =>
    intro P k _ _ _
    apply el_laws_markLitS_26
    simp [ql_laws_markLitS_26, mkL, totL]
  | cons x R ih =>
    intro P k h0 hk hp
    simp only [List.length_cons, totL] at hk hp
    apply el_laws_markLitS_26
    simp only [ql_laws_markLitS_26]
    rw [if_pos (by simp; omega), if_neg (by omega), if_pos (by simp; omega), Int.toNat_natCast, get_mid, inc_nat (by omega), w64 (x := k + 1) (by omega) (by omega)]
    simp only [Option.bind_some]
    rw [set_mid, if_pos (by simp; omega), get_mid]
    simp only [Option.bind_some]
    rw [p_markIntS x.2.1 (k + 1) (by omega) (by omega)]
    simp only [Option.bind_some]
    rw [set_mid, if_pos (by simp; omega), get_mid]
    simp only [Option.bind_some]
    rw [p_markIntS x.2.2.1 (k + 1 + x.2.1.length) (by omega) (by omega)]
    simp only [Option.bind_some]
    rw [set_mid]
    have := ih (P ++ [(((Int.tmod k 3) == 0), mkS (k + 1) x.2.1.length, mkS (k + 1 + x.2.1.length) x.2.2.1.length, ())]) (k + 1 + x.2.1.length + x.2.2.1.length) (by omega) (by omega) (by simp; omega)
    rw [List.append_assoc, List.length_append] at this
    simp only [List.cons_append, List.nil_append, List.length_cons, List.length_nil, Nat.zero_add] at this
    rw [this]
    simp only [mkL, totL, List.append_assoc, List.cons_append, List.nil_append]
    rw [show k + 1 + (x.2.1.length : Int) + (x.2.2.1.length : Int) + (totL R : Int) = k + ((1 + x.2.1.length + x.2.2.1.length + totL R : Nat) : Int) by omega]
theorem p_markLitS (a : List TLit) (k : Int) (h0 : 0 ≤ k) (hk : k + totL a ≤ 4611686018427387904) (hl : a.length ≤ 4611686018427387904) : c_laws_markLitS M a k = some ((k + totL a, ()), (mkL k a, ())) := by
  apply e_laws_markLitS
  have := p_markLitS_loop a [] k h0 hk (by simp; omega)
  simp only [List.nil_append, List.length_nil] at this
  rw [show ((0 : Nat) : Int) = 0 from rfl] at this
  simp only [q_laws_markLitS, this, Option.bind_some, Sum.elim_inl]
theorem p_heldLitS_loop : ∀ (R P : List TLit) (k : Int), 0 ≤ k → k + totL R ≤ 4611686018427387904 → P.length + R.length ≤ 4611686018427387904 → l_laws_heldLitS_26 M (P ++ mkL k R) k P.length = some (.inl (k + totL R, ())) := by
  intro R
  induction R with
  | nil =>
    intro P k _ _ _
    apply el_laws_heldLitS_26
    simp [ql_laws_heldLitS_26, mkL, totL]
  | cons x R ih =>
    intro P k h0 hk hp
    simp only [List.length_cons, totL] at hk hp
    rw [show mkL k (x :: R) = (((Int.tmod k 3) == 0), mkS (k + 1) x.2.1.length, mkS (k + 1 + x.2.1.length) x.2.2.1.length, ()) :: mkL (k + 1 + x.2.1.length + x.2.2.1.length) R from rfl]
    apply el_laws_heldLitS_26
    simp only [ql_laws_heldLitS_26]
    rw [if_pos (by simp [mkL_len]; omega), idx_mid, inc_nat (by omega), w64 (x := k + 1) (by omega) (by omega)]
    simp only [Option.bind_some]
    rw [if_neg (by omega), if_neg (by simp), p_heldIntS (k + 1) x.2.1.length (by omega) (by omega)]
    simp only [Option.bind_some]
    rw [if_neg (by simp; omega), p_heldIntS (k + 1 + x.2.1.length) x.2.2.1.length (by omega) (by omega)]
    simp only [Option.bind_some]
    rw [if_neg (by simp; omega)]
    have := ih (P ++ [(((Int.tmod k 3) == 0), mkS (k + 1) x.2.1.length, mkS (k + 1 + x.2.1.length) x.2.2.1.length, ())]) (k + 1 + x.2.1.length + x.2.2.1.length) (by omega) (by omega) (by simp; omega)
    rw [List.append_assoc, List.length_append] at this
    simp only [List.cons_append, List.nil_append, List.length_cons, List.length_nil, Nat.zero_add] at this
    rw [this]
    simp only [totL]
    rw [show k + 1 + (x.2.1.length : Int) + (x.2.2.1.length : Int) + (totL R : Int) = k + ((1 + x.2.1.length + x.2.2.1.length + totL R : Nat) : Int) by omega]
theorem p_heldLitS (a : List TLit) (k : Int) (h0 : 0 ≤ k) (hk : k + totL a ≤ 4611686018427387904) (hl : a.length ≤ 4611686018427387904) : c_laws_heldLitS M (mkL k a) k = some ((k + totL a, ()), ()) := by
  apply e_laws_heldLitS
  have := p_heldLitS_loop a [] k h0 hk (by simp; omega)
  simp only [List.nil_append, List.length_nil] at this
  rw [show ((0 : Nat) : Int) = 0 from rfl] at this
  simp only [q_laws_heldLitS, this, Option.bind_some, Sum.elim_inl]

end Go.Proofs.YtofkhmedmeihiaaRb.Ev
