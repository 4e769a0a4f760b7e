/- Plain laws: marks in nodes of formulas. No condition but sizes. -/
import Derived.Test.YtofkhmedmeihiaaPnPQ
import Derived.Test.YtofkhmedmeihiaaPnPFe
namespace Go.Proofs.YtofkhmedmeihiaaPn.Ev
open Go
set_option autoImplicit false
set_option linter.unusedVariables false
set_option linter.unusedSimpArgs false

/-- How many marks nodes take. -/
def totF : List TForm → Nat
  | [] => 0
  | x :: r => 2 + x.2.2.1.length + x.2.2.2.1.length + totF r
/-- Nodes with marks. -/
def mkF (k : Int) : List TForm → List TForm
  | [] => []
  | x :: r => (k, k + 1, mkS (k + 2) x.2.2.1.length, mkS (k + 2 + x.2.2.1.length) x.2.2.2.1.length, ()) :: mkF (k + 2 + x.2.2.1.length + x.2.2.2.1.length) r
theorem mkF_len : ∀ (r : List TForm) (k : Int), (mkF k r).length = r.length
  | [], _ => rfl
  | x :: r, k => by simp [mkF, mkF_len r]
theorem totF_le : ∀ (r : List TForm), (∀ x ∈ r, smF x) → totF r ≤ 2097154 * r.length
  | [], _ => by simp [totF]
  | x :: r, h => by
    have h1 := h x (by simp)
    have h2 := totF_le r (fun y hy => h y (by simp [hy]))
    have h3 := h1.1
    have h4 := h1.2
    simp only [totF, List.length_cons]
    omega

theorem p_markFormS_loop : ∀ (R P : List TForm) (k : Int), 0 ≤ k → k + totF R ≤ 4611686018427387904 → P.length + R.length ≤ 4611686018427387904 → l_laws_markFormS_26 M (P ++ R) k P.length = some (.inl (P ++ mkF k R, k + totF R, ())) := by
  intro R
  induction R with
  | nil =>
    intro P k _ _ _
    apply el_laws_markFormS_26
    simp [ql_laws_markFormS_26, mkF, totF]
  | cons x R ih =>
    intro P k h0 hk hp
    simp only [List.length_cons, totF] at hk hp
    apply el_laws_markFormS_26
    simp only [ql_laws_markFormS_26]
    rw [if_pos (by simp; omega), if_pos (by simp; omega), Int.toNat_natCast, get_mid, inc_nat (by omega), w64 (x := k + 1) (by omega) (by omega), w64 (x := k + 1 + 1) (by omega) (by omega), show k + 1 + 1 = k + 2 by omega]
    simp only [Option.bind_some]
    rw [set_mid, if_pos (by simp; omega), get_mid]
    simp only [Option.bind_some]
    rw [set_mid, if_pos (by simp; omega), get_mid]
    simp only [Option.bind_some]
    rw [p_markIntS x.2.2.1 (k + 2) (by omega) (by omega)]
    simp only [Option.bind_some]
    rw [set_mid, if_pos (by simp; omega), get_mid]
    simp only [Option.bind_some]
    rw [p_markIntS x.2.2.2.1 (k + 2 + x.2.2.1.length) (by omega) (by omega)]
    simp only [Option.bind_some]
    rw [set_mid]
    have := ih (P ++ [(k, k + 1, mkS (k + 2) x.2.2.1.length, mkS (k + 2 + x.2.2.1.length) x.2.2.2.1.length, ())]) (k + 2 + x.2.2.1.length + x.2.2.2.1.length) (by omega) (by omega) (by simp; omega)
    rw [List.append_assoc, List.length_append] at this
    simp only [List.cons_append, List.nil_append, List.length_cons, List.length_nil, Nat.zero_add] at this
    rw [this]
    simp only [mkF, totF, List.append_assoc, List.cons_append, List.nil_append]
    rw [show k + 2 + (x.2.2.1.length : Int) + (x.2.2.2.1.length : Int) + (totF R : Int) = k + ((2 + x.2.2.1.length + x.2.2.2.1.length + totF R : Nat) : Int) by omega]
theorem p_markFormS (a : List TForm) (k : Int) (h0 : 0 ≤ k) (hk : k + totF a ≤ 4611686018427387904) (hl : a.length ≤ 4611686018427387904) : c_laws_markFormS M a k = some ((k + totF a, ()), (mkF k a, ())) := by
  apply e_laws_markFormS
  have := p_markFormS_loop a [] k h0 hk (by simp; omega)
  simp only [List.nil_append, List.length_nil] at this
  rw [show ((0 : Nat) : Int) = 0 from rfl] at this
  simp only [q_laws_markFormS, this, Option.bind_some, Sum.elim_inl]
theorem p_heldFormS_loop : ∀ (R P : List TForm) (k : Int), 0 ≤ k → k + totF R ≤ 4611686018427387904 → P.length + R.length ≤ 4611686018427387904 → l_laws_heldFormS_26 M (P ++ mkF k R) k P.length = some (.inl (k + totF R, ())) := by
  intro R
  induction R with
  | nil =>
    intro P k _ _ _
    apply el_laws_heldFormS_26
    simp [ql_laws_heldFormS_26, mkF, totF]
  | cons x R ih =>
    intro P k h0 hk hp
    simp only [List.length_cons, totF] at hk hp
    rw [show mkF k (x :: R) = (k, k + 1, mkS (k + 2) x.2.2.1.length, mkS (k + 2 + x.2.2.1.length) x.2.2.2.1.length, ()) :: mkF (k + 2 + x.2.2.1.length + x.2.2.2.1.length) R from rfl]
    apply el_laws_heldFormS_26
    simp only [ql_laws_heldFormS_26]
    rw [if_pos (by simp [mkF_len]; omega), idx_mid, inc_nat (by omega), w64 (x := k + 1) (by omega) (by omega), w64 (x := k + 1 + 1) (by omega) (by omega), show k + 1 + 1 = k + 2 by omega]
    simp only [Option.bind_some]
    rw [if_neg (by simp), if_neg (by simp), p_heldIntS (k + 2) x.2.2.1.length (by omega) (by omega)]
    simp only [Option.bind_some]
    rw [if_neg (by simp; omega), p_heldIntS (k + 2 + x.2.2.1.length) x.2.2.2.1.length (by omega) (by omega)]
    simp only [Option.bind_some]
    rw [if_neg (by simp; omega)]
    have := ih (P ++ [(k, k + 1, mkS (k + 2) x.2.2.1.length, mkS (k + 2 + x.2.2.1.length) x.2.2.2.1.length, ())]) (k + 2 + x.2.2.1.length + x.2.2.2.1.length) (by omega) (by omega) (by simp; omega)
    rw [List.append_assoc, List.length_append] at this
    simp only [List.cons_append, List.nil_append, List.length_cons, List.length_nil, Nat.zero_add] at this
    rw [this]
    simp only [totF]
    rw [show k + 2 + (x.2.2.1.length : Int) + (x.2.2.2.1.length : Int) + (totF R : Int) = k + ((2 + x.2.2.1.length + x.2.2.2.1.length + totF R : Nat) : Int) by omega]
theorem p_heldFormS (a : List TForm) (k : Int) (h0 : 0 ≤ k) (hk : k + totF a ≤ 4611686018427387904) (hl : a.length ≤ 4611686018427387904) : c_laws_heldFormS M (mkF k a) k = some ((k + totF a, ()), ()) := by
  apply e_laws_heldFormS
  have := p_heldFormS_loop a [] k h0 hk (by simp; omega)
  simp only [List.nil_append, List.length_nil] at this
  rw [show ((0 : Nat) : Int) = 0 from rfl] at this
  simp only [q_laws_heldFormS, this, Option.bind_some, Sum.elim_inl]

end Go.Proofs.YtofkhmedmeihiaaPn.Ev
