/- Plain laws: marks in rows of rows and in worlds. No condition but sizes. -/
import Derived.Test.YtejklhcalinhpaaOwPQ
import Derived.Test.YtejklhcalinhpaaOwPL
namespace Go.Proofs.YtejklhcalinhpaaOw.Ev
open Go
set_option autoImplicit false
set_option linter.unusedVariables false
set_option linter.unusedSimpArgs false

/-- How many numbers rows hold. -/
def totS : List (List Int) → Nat
  | [] => 0
  | x :: r => x.length + totS r
/-- Rows with marks. -/
def mkSS (k : Int) : List (List Int) → List (List Int)
  | [] => []
  | x :: r => mkS k x.length :: mkSS (k + x.length) r
theorem mkSS_len : ∀ (r : List (List Int)) (k : Int), (mkSS k r).length = r.length
  | [], _ => rfl
  | x :: r, k => by simp [mkSS, mkSS_len r]
theorem totS_le : ∀ (r : List (List Int)), (∀ x ∈ r, smS x) → totS r ≤ 1048576 * r.length
  | [], _ => by simp [totS]
  | x :: r, h => by
    have h1 : x.length ≤ 1048576 := h x (by simp)
    have h2 := totS_le r (fun y hy => h y (by simp [hy]))
    simp only [totS, List.length_cons]
    omega

theorem p_markIntSS_loop : ∀ (R P : List (List Int)) (k : Int), 0 ≤ k → k + totS R ≤ 4611686018427387904 → P.length + R.length ≤ 4611686018427387904 → l_laws_markIntSS_26 M (P ++ R) k P.length = some (.inl (P ++ mkSS k R, k + totS R, ())) := by
  intro R
  induction R with
  | nil =>
    intro P k _ _ _
    apply el_laws_markIntSS_26
    simp [ql_laws_markIntSS_26, mkSS, totS]
  | cons x R ih =>
    intro P k h0 hk hp
    simp only [List.length_cons, totS] at hk hp
    apply el_laws_markIntSS_26
    simp only [ql_laws_markIntSS_26]
    rw [if_pos (by simp; omega), if_pos (by simp; omega), Int.toNat_natCast, get_mid, inc_nat (by omega)]
    simp only [Option.bind_some]
    rw [p_markIntS x k h0 (by omega)]
    simp only [Option.bind_some]
    rw [set_mid]
    have := ih (P ++ [mkS k x.length]) (k + x.length) (by omega) (by omega) (by simp; omega)
    rw [List.append_assoc, List.length_append] at this
    simp only [List.cons_append, List.nil_append, List.length_cons, List.length_nil, Nat.zero_add] at this
    rw [this]
    simp only [mkSS, totS, List.append_assoc, List.cons_append, List.nil_append]
    rw [show k + (x.length : Int) + (totS R : Int) = k + ((x.length + totS R : Nat) : Int) by omega]
theorem p_markIntSS (a : List (List Int)) (k : Int) (h0 : 0 ≤ k) (hk : k + totS a ≤ 4611686018427387904) (hl : a.length ≤ 4611686018427387904) : c_laws_markIntSS M a k = some ((k + totS a, ()), (mkSS k a, ())) := by
  apply e_laws_markIntSS
  have := p_markIntSS_loop a [] k h0 hk (by simp; omega)
  simp only [List.nil_append, List.length_nil] at this
  rw [show ((0 : Nat) : Int) = 0 from rfl] at this
  simp only [q_laws_markIntSS, this, Option.bind_some, Sum.elim_inl]
theorem p_heldIntSS_loop : ∀ (R P : List (List Int)) (k : Int), 0 ≤ k → k + totS R ≤ 4611686018427387904 → P.length + R.length ≤ 4611686018427387904 → l_laws_heldIntSS_26 M (P ++ mkSS k R) k P.length = some (.inl (k + totS R, ())) := by
  intro R
  induction R with
  | nil =>
    intro P k _ _ _
    apply el_laws_heldIntSS_26
    simp [ql_laws_heldIntSS_26, mkSS, totS]
  | cons x R ih =>
    intro P k h0 hk hp
    simp only [List.length_cons, totS] at hk hp
    rw [show mkSS k (x :: R) = mkS k x.length :: mkSS (k + x.length) R from rfl]
    apply el_laws_heldIntSS_26
    simp only [ql_laws_heldIntSS_26]
    rw [if_pos (by simp [mkSS_len]; omega), idx_mid, inc_nat (by omega)]
    simp only [Option.bind_some]
    rw [p_heldIntS k x.length h0 (by omega)]
    simp only [Option.bind_some]
    rw [if_neg (by simp; omega)]
    have := ih (P ++ [mkS k x.length]) (k + x.length) (by omega) (by omega) (by simp; omega)
    rw [List.append_assoc, List.length_append] at this
    simp only [List.cons_append, List.nil_append, List.length_cons, List.length_nil, Nat.zero_add] at this
    rw [this]
    simp only [totS]
    rw [show k + (x.length : Int) + (totS R : Int) = k + ((x.length + totS R : Nat) : Int) by omega]
theorem p_heldIntSS (a : List (List Int)) (k : Int) (h0 : 0 ≤ k) (hk : k + totS a ≤ 4611686018427387904) (hl : a.length ≤ 4611686018427387904) : c_laws_heldIntSS M (mkSS k a) k = some ((k + totS a, ()), ()) := by
  apply e_laws_heldIntSS
  have := p_heldIntSS_loop a [] k h0 hk (by simp; omega)
  simp only [List.nil_append, List.length_nil] at this
  rw [show ((0 : Nat) : Int) = 0 from rfl] at this
  simp only [q_laws_heldIntSS, this, Option.bind_some, Sum.elim_inl]
theorem p_markWorld (w : TWorld) (k : Int) (h0 : 0 ≤ k) (hk : k + totS w.2.1 ≤ 4611686018427387904) (hl : w.2.1.length ≤ 4611686018427387904) : c_laws_markWorld M w k = some ((k + totS w.2.1, ()), ((w.1, mkSS k w.2.1, ()), ())) := by
  apply e_laws_markWorld
  simp only [q_laws_markWorld, p_markIntSS w.2.1 k h0 hk hl, Option.bind_some]
theorem p_heldWorld (w : TWorld) (k : Int) (h0 : 0 ≤ k) (hk : k + totS w.2.1 ≤ 4611686018427387904) (hl : w.2.1.length ≤ 4611686018427387904) : c_laws_heldWorld M (w.1, mkSS k w.2.1, ()) k = some ((k + totS w.2.1, ()), ()) := by
  apply e_laws_heldWorld
  simp only [q_laws_heldWorld, p_heldIntSS w.2.1 k h0 hk hl, Option.bind_some]
  rw [if_neg (by simp; omega)]

end Go.Proofs.YtejklhcalinhpaaOw.Ev
