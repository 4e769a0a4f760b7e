/- Texts laid together: SAf, PFe, PF, PQm, UAa; no condition but those that each theorem names. -/
import Derived.Test.YtpmjpijpjmphnaaGreatCfPDe
import Derived.Test.YtpmjpijpjmphnaaGreatCfQAb
/- Plain laws: marks in rows of clauses. No condition but sizes. -/
namespace Go.Proofs.YtpmjpijpjmphnaaGreatCf.Ev
open Go
set_option autoImplicit false
set_option linter.unusedVariables false
set_option linter.unusedSimpArgs false

/-- Marks in rows of clauses. -/
def totK : List (List TLit) → Nat
  | [] => 0
  | x :: r => totL x + totK r
def mkK (k : Int) : List (List TLit) → List (List TLit)
  | [] => []
  | x :: r => mkL k x :: mkK (k + totL x) r
theorem mkK_len : ∀ (r : List (List TLit)) (k : Int), (mkK k r).length = r.length
  | [], _ => rfl
  | x :: r, k => by simp [mkK, mkK_len r]
theorem totK_le : ∀ (r : List (List TLit)), (∀ c ∈ r, smK c) → totK r ≤ 2097153 * 16 * r.length
  | [], _ => by simp [totK]
  | x :: r, h => by
    have h1 := totL_le x (h x (by simp)).sm
    have h3 := (h x (by simp)).1
    have h2 := totK_le r (fun y hy => h y (by simp [hy]))
    simp only [totK, List.length_cons]
    omega
theorem p_markLitSS_loop : ∀ (R P : List (List TLit)) (k : Int), 0 ≤ k → k + totK R ≤ 4611686018427387904 → P.length + R.length ≤ 4611686018427387904 → (∀ c ∈ R, smK c) → l_laws_markLitSS_26 M (P ++ R) k P.length = some (.inl (P ++ mkK k R, k + totK R, ())) := by
  intro R
  induction R with
  | nil =>
    intro P k _ _ _ _
    apply el_laws_markLitSS_26
    simp [ql_laws_markLitSS_26, mkK, totK]
  | cons x R ih =>
    intro P k h0 hk hp hx
    have hx1 := (hx x (by simp)).1
    simp only [List.length_cons, totK] at hk hp
    apply el_laws_markLitSS_26
    simp only [ql_laws_markLitSS_26]
    rw [if_pos (by simp; omega), if_pos (by simp; omega), Int.toNat_natCast, get_mid, inc_nat (by omega)]
    simp only [Option.bind_some]
    rw [p_markLitS x k h0 (by omega) (by omega)]
    simp only [Option.bind_some]
    rw [set_mid]
    have := ih (P ++ [mkL k x]) (k + totL x) (by omega) (by omega) (by simp; omega) (fun c hc => hx c (by simp [hc]))
    rw [List.append_assoc, List.length_append] at this
    simp only [List.cons_append, List.nil_append, List.length_cons, List.length_nil, Nat.zero_add] at this
    rw [this]
    simp only [mkK, totK, List.append_assoc, List.cons_append, List.nil_append]
    rw [show k + (totL x : Int) + (totK R : Int) = k + ((totL x + totK R : Nat) : Int) by omega]
theorem p_markLitSS (a : List (List TLit)) (k : Int) (h0 : 0 ≤ k) (hk : k + totK a ≤ 4611686018427387904) (hl : a.length ≤ 4611686018427387904) (hx : ∀ c ∈ a, smK c) : c_laws_markLitSS M a k = some ((k + totK a, ()), (mkK k a, ())) := by
  apply e_laws_markLitSS
  have := p_markLitSS_loop a [] k h0 hk (by simp; omega) hx
  simp only [List.nil_append, List.length_nil] at this
  rw [show ((0 : Nat) : Int) = 0 from rfl] at this
  simp only [q_laws_markLitSS, this, Option.bind_some, Sum.elim_inl]
theorem p_heldLitSS_loop : ∀ (R P : List (List TLit)) (k : Int), 0 ≤ k → k + totK R ≤ 4611686018427387904 → P.length + R.length ≤ 4611686018427387904 → (∀ c ∈ R, smK c) → l_laws_heldLitSS_26 M (P ++ mkK k R) k P.length = some (.inl (k + totK R, ())) := by
  intro R
  induction R with
  | nil =>
    intro P k _ _ _ _
    apply el_laws_heldLitSS_26
    simp [ql_laws_heldLitSS_26, mkK, totK]
  | cons x R ih =>
    intro P k h0 hk hp hx
    have hx1 := (hx x (by simp)).1
    simp only [List.length_cons, totK] at hk hp
    rw [show mkK k (x :: R) = mkL k x :: mkK (k + totL x) R from rfl]
    apply el_laws_heldLitSS_26
    simp only [ql_laws_heldLitSS_26]
    rw [if_pos (by simp [mkK_len]; omega), idx_midQ, inc_nat (by omega)]
    simp only [Option.bind_some]
    rw [p_heldLitS x k h0 (by omega) (by omega)]
    simp only [Option.bind_some]
    rw [if_neg (by simp; omega)]
    have := ih (P ++ [mkL k x]) (k + totL x) (by omega) (by omega) (by simp; omega) (fun c hc => hx c (by simp [hc]))
    rw [List.append_assoc, List.length_append] at this
    simp only [List.cons_append, List.nil_append, List.length_cons, List.length_nil, Nat.zero_add] at this
    rw [this]
    simp only [totK]
    rw [show k + (totL x : Int) + (totK R : Int) = k + ((totL x + totK R : Nat) : Int) by omega]
theorem p_heldLitSS (a : List (List TLit)) (k : Int) (h0 : 0 ≤ k) (hk : k + totK a ≤ 4611686018427387904) (hl : a.length ≤ 4611686018427387904) (hx : ∀ c ∈ a, smK c) : c_laws_heldLitSS M (mkK k a) k = some ((k + totK a, ()), ()) := by
  apply e_laws_heldLitSS
  have := p_heldLitSS_loop a [] k h0 hk (by simp; omega) hx
  simp only [List.nil_append, List.length_nil] at this
  rw [show ((0 : Nat) : Int) = 0 from rfl] at this
  simp only [q_laws_heldLitSS, this, Option.bind_some, Sum.elim_inl]
theorem p_eqLitSS_loop (a : List (List TLit)) (ha : a.length ≤ 1048576) (hx : ∀ c ∈ a, smK c) : ∀ k i : Nat, i + k = a.length → l_laws_eqLitSS_58 M a a i = some (.inl ()) := by
  intro k
  induction k with
  | zero =>
    intro i hi
    obtain rfl : i = a.length := by omega
    apply el_laws_eqLitSS_58
    simp only [ql_laws_eqLitSS_58, Int.lt_irrefl, decide_false, Bool.false_eq_true, if_false]
  | succ k ih =>
    intro i hi
    apply el_laws_eqLitSS_58
    have h1 : i < a.length := by omega
    have h2 := hx _ (List.getElem_mem h1)
    simp only [ql_laws_eqLitSS_58]
    rw [if_pos (by simpa using h1), idx_lt h1, inc_nat (by omega)]
    simp only [Option.bind_some, p_eqLitS a[i] (by have := h2.1; omega) h2.sm, Bool.not_true, Bool.false_eq_true, if_false]
    exact ih (i + 1) (by omega)
theorem p_eqLitSS (a : List (List TLit)) (ha : a.length ≤ 1048576) (hx : ∀ c ∈ a, smK c) : c_laws_eqLitSS M a a = some ((true, ()), ()) := by
  apply e_laws_eqLitSS
  simp only [q_laws_eqLitSS, bne_self_eq_false, Bool.false_eq_true, if_false]
  have := p_eqLitSS_loop a ha hx a.length 0 (by omega)
  rw [show ((0 : Nat) : Int) = 0 from rfl] at this
  rw [this]
  rfl
end Go.Proofs.YtpmjpijpjmphnaaGreatCf.Ev

/- Plain laws: nodes of formulas, compared. No condition but sizes. -/
namespace Go.Proofs.YtpmjpijpjmphnaaGreatCf.Ev
open Go
set_option autoImplicit false
set_option linter.unusedVariables false
set_option linter.unusedSimpArgs false

theorem p_eqForm (x : TForm) (h : smF x) : c_laws_eqForm M x x = some ((true, ()), ()) := by
  apply e_laws_eqForm
  simp only [q_laws_eqForm, p_eqIntS x.2.2.1 (by have := h.1; omega), p_eqIntS x.2.2.2.1 (by have := h.2; omega), Option.bind_some]
  simp

theorem p_eqFormS_loop (a : List TForm) (ha : a.length ≤ 1048576) (hx : ∀ x ∈ a, smF x) : ∀ k i : Nat, i + k = a.length → l_laws_eqFormS_58 M a a i = some (.inl ()) := by
  intro k
  induction k with
  | zero =>
    intro i hi
    obtain rfl : i = a.length := by omega
    apply el_laws_eqFormS_58
    simp only [ql_laws_eqFormS_58, Int.lt_irrefl, decide_false, Bool.false_eq_true, if_false]
  | succ k ih =>
    intro i hi
    apply el_laws_eqFormS_58
    have h1 : i < a.length := by omega
    simp only [ql_laws_eqFormS_58]
    rw [if_pos (by simpa using h1), idx_lt h1, inc_nat (by omega)]
    simp only [Option.bind_some, form_eta, p_eqForm a[i] (hx _ (List.getElem_mem h1)), Bool.not_true, Bool.false_eq_true, if_false]
    exact ih (i + 1) (by omega)

theorem p_eqFormS (a : List TForm) (ha : a.length ≤ 1048576) (hx : ∀ x ∈ a, smF x) : c_laws_eqFormS M a a = some ((true, ()), ()) := by
  apply e_laws_eqFormS
  simp only [q_laws_eqFormS, bne_self_eq_false, Bool.false_eq_true, if_false]
  have := p_eqFormS_loop a ha hx a.length 0 (by omega)
  rw [show ((0 : Nat) : Int) = 0 from rfl] at this
  rw [this]
  rfl

end Go.Proofs.YtpmjpijpjmphnaaGreatCf.Ev

/- Plain laws: nodes of formulas, as the laws copy, compare and count them. No condition but sizes. -/
namespace Go.Proofs.YtpmjpijpjmphnaaGreatCf.Ev
open Go
set_option autoImplicit false
set_option linter.unusedVariables false
set_option linter.unusedSimpArgs false


theorem p_toForm (x : TForm) (h : smF x) : c_laws_toForm M x = some ((x, ()), ()) := by
  apply e_laws_toForm
  simp only [q_laws_toForm, p_toIntS x.2.2.1 (by have := h.1; omega), p_toIntS x.2.2.2.1 (by have := h.2; omega), Option.bind_some]

theorem p_toFormS_loop (a : List TForm) (ha : a.length ≤ 1048576) (hx : ∀ x ∈ a, smF x) : ∀ k i : Nat, i + k = a.length → ∀ o : List TForm, o.length = a.length → l_laws_toFormS_58 M a o i = some (.inl (o.take i ++ a.drop i, ())) := by
  intro k
  induction k with
  | zero =>
    intro i hi o ho
    obtain rfl : i = a.length := by omega
    apply el_laws_toFormS_58
    simp only [ql_laws_toFormS_58, Int.lt_irrefl, decide_false, Bool.false_eq_true, if_false, List.drop_length, List.append_nil]
    rw [← ho, List.take_length]
  | succ k ih =>
    intro i hi o ho
    apply el_laws_toFormS_58
    have h1 : i < a.length := by omega
    have h2 : i < o.length := by omega
    simp only [ql_laws_toFormS_58]
    rw [if_pos (by simpa using h1), idx_lt h1, inc_nat (by omega)]
    simp only [Option.bind_some, form_eta, p_toForm a[i] (hx _ (List.getElem_mem h1))]
    rw [if_pos (by omega)]
    simp only [Option.bind_some, Int.toNat_natCast, List.getElem?_eq_getElem h2]
    rw [ih (i + 1) (by omega) _ (by simpa using ho)]
    rw [List.take_set, List.take_succ_eq_append_getElem h2, List.set_append_right _ _ (by simp; omega), List.drop_eq_getElem_cons h1]
    simp [Nat.min_eq_left (Nat.le_of_lt h2)]

theorem p_toFormS (a : List TForm) (ha : a.length ≤ 1048576) (hx : ∀ x ∈ a, smF x) : c_laws_toFormS M a = some ((a, ()), ()) := by
  apply e_laws_toFormS
  simp only [q_laws_toFormS]
  rw [if_pos (by refine ⟨by omega, by omega, trivial⟩)]
  have := p_toFormS_loop a ha hx a.length 0 (by omega) (List.replicate a.length ((0 : Int), (0 : Int), [], [], ())) (by simp)
  simp only [Int.toNat_natCast]
  rw [show ((0 : Nat) : Int) = 0 from rfl] at this
  rw [this]
  simp


def wlF (x : TForm) : Prop := x.2.2.1.length ≤ 9223372036854775807 ∧ x.2.2.2.1.length ≤ 9223372036854775807
theorem p_szForm (x : TForm) (n : Int) (hn : 0 ≤ n) (hn' : n ≤ 1048576) (hx : wlF x) : ∃ r : Int, c_laws_szForm M x n = some ((r, ()), ()) ∧ r ≤ n ∧ (0 ≤ r → smF x) := by
  by_cases h1 : n - x.2.2.1.length < 0
  · refine ⟨-1, e_laws_szForm _ _ ?_, by omega, by omega⟩
    simp only [q_laws_szForm, p_szIntS x.2.2.1 n hn hn' hx.1, Option.bind_some, if_pos h1]
    rfl
  · by_cases h2 : n - x.2.2.1.length - x.2.2.2.1.length < 0
    · refine ⟨-1, e_laws_szForm _ _ ?_, by omega, by omega⟩
      simp only [q_laws_szForm, p_szIntS x.2.2.1 n hn hn' hx.1, Option.bind_some, if_neg h1, decide_eq_true_eq, p_szIntS x.2.2.2.1 (n - x.2.2.1.length) (by omega) (by omega) hx.2, if_pos h2]
      rfl
    · refine ⟨n - x.2.2.1.length - x.2.2.2.1.length, e_laws_szForm _ _ ?_, by omega, fun _ => ⟨by omega, by omega⟩⟩
      simp only [q_laws_szForm, p_szIntS x.2.2.1 n hn hn' hx.1, Option.bind_some, if_neg h1, decide_eq_true_eq, p_szIntS x.2.2.2.1 (n - x.2.2.1.length) (by omega) (by omega) hx.2, if_neg h2]

theorem p_szFormS_loop (a : List TForm) (ha : a.length ≤ 1048576) (hx : ∀ x ∈ a, wlF x) : ∀ (k i : Nat) (n : Int), i + k = a.length → 0 ≤ n → n ≤ 1048576 → (∀ x ∈ a.take i, smF x) →
    ∃ r, l_laws_szFormS_122 M a n i = some r ∧ (match r with | .inl y => 0 ≤ y.1 ∧ y.1 ≤ n ∧ ∀ x ∈ a, smF x | .inr y => y.1.1 = -1) := by
  intro k
  induction k with
  | zero =>
    intro i n hi h0 hn hs
    obtain rfl : i = a.length := by omega
    refine ⟨.inl (n, ()), el_laws_szFormS_122 _ _ _ (by simp [ql_laws_szFormS_122]), h0, Int.le_refl _, by simpa using hs⟩
  | succ k ih =>
    intro i n hi h0 hn hs
    have h1 : i < a.length := by omega
    obtain ⟨m, hm, hm1, hm2⟩ := p_szForm a[i] n h0 hn (hx _ (List.getElem_mem h1))
    by_cases hneg : m < 0
    · refine ⟨.inr ((-1, ()), ()), el_laws_szFormS_122 _ _ _ ?_, rfl⟩
      simp only [ql_laws_szFormS_122]
      rw [if_pos (by simpa using h1), idx_lt h1]
      simp only [Option.bind_some, form_eta, hm]
      rw [if_pos (by simpa using hneg)]
    · obtain ⟨r, hr, hp⟩ := ih (i + 1) m (by omega) (by omega) (by omega) (by
        intro x hx'
        rw [List.take_succ_eq_append_getElem h1] at hx'
        rcases List.mem_append.1 hx' with h | h
        · exact hs x h
        · rw [List.mem_singleton.1 h]; exact hm2 (by omega))
      refine ⟨r, el_laws_szFormS_122 _ _ _ ?_, ?_⟩
      · simp only [ql_laws_szFormS_122]
        rw [if_pos (by simpa using h1), idx_lt h1, inc_nat (by omega)]
        simp only [Option.bind_some, form_eta, hm]
        rw [if_neg (by simpa using hneg)]
        exact hr
      · cases r with
        | inl y => exact ⟨hp.1, by have := hp.2.1; omega, hp.2.2⟩
        | inr y => exact hp
theorem p_szFormS (a : List TForm) (n : Int) (hn : 0 ≤ n) (hn' : n ≤ 1048576) (ha : a.length ≤ 9223372036854775807) (hx : ∀ x ∈ a, wlF x) : ∃ r : Int, c_laws_szFormS M a n = some ((r, ()), ()) ∧ r ≤ n ∧ (0 ≤ r → a.length ≤ 1048576 ∧ ∀ x ∈ a, smF x) := by
  have hw : IntKind.i64.wrap (n - a.length) = n - a.length := w64 (by omega) (by omega)
  by_cases h1 : n - a.length < 0
  · refine ⟨-1, e_laws_szFormS _ _ ?_, by omega, by omega⟩
    simp only [q_laws_szFormS, hw]
    rw [if_pos (by simpa using h1)]
  · obtain ⟨r, hr, hp⟩ := p_szFormS_loop a (by omega) hx a.length 0 (n - a.length) (by omega) (by omega) (by omega) (by simp)
    rw [show ((0 : Nat) : Int) = 0 from rfl] at hr
    cases r with
    | inl y =>
      refine ⟨y.1, e_laws_szFormS _ _ ?_, by have := hp.2.1; omega, fun _ => ⟨by omega, hp.2.2⟩⟩
      simp only [q_laws_szFormS, hw]
      rw [if_neg (by simpa using h1), hr]
      rfl
    | inr y =>
      obtain ⟨⟨y, _⟩, _⟩ := y
      simp only at hp
      subst hp
      refine ⟨-1, e_laws_szFormS _ _ ?_, by omega, by omega⟩
      simp only [q_laws_szFormS, hw]
      rw [if_neg (by simpa using h1), hr]
      rfl

end Go.Proofs.YtpmjpijpjmphnaaGreatCf.Ev

/- Plain laws: marks laid into nodes of formulas. No condition but sizes. -/
namespace Go.Proofs.YtpmjpijpjmphnaaGreatCf.Ev
open Go
set_option autoImplicit false
set_option linter.unusedVariables false
set_option linter.unusedSimpArgs false

/-- How many marks nodes take. -/
def totF : List TForm → Nat
  | [] => 0
  | x :: r => 2 + x.2.2.1.length + x.2.2.2.1.length + totF r
/-- Nodes with marks. -/
def mkF (k : Int) : List TForm → List TForm
  | [] => []
  | x :: r => (k, k + 1, mkS (k + 2) x.2.2.1.length, mkS (k + 2 + x.2.2.1.length) x.2.2.2.1.length, ()) :: mkF (k + 2 + x.2.2.1.length + x.2.2.2.1.length) r
theorem mkF_len : ∀ (r : List TForm) (k : Int), (mkF k r).length = r.length
  | [], _ => rfl
  | x :: r, k => by simp [mkF, mkF_len r]
theorem totF_le : ∀ (r : List TForm), (∀ x ∈ r, smF x) → totF r ≤ 2097154 * r.length
  | [], _ => by simp [totF]
  | x :: r, h => by
    have h1 := h x (by simp)
    have h2 := totF_le r (fun y hy => h y (by simp [hy]))
    have h3 := h1.1
    have h4 := h1.2
    simp only [totF, List.length_cons]
    omega

theorem p_markFormS_loop : ∀ (R P : List TForm) (k : Int), 0 ≤ k → k + totF R ≤ 4611686018427387904 → P.length + R.length ≤ 4611686018427387904 → l_laws_markFormS_26 M (P ++ R) k P.length = some (.inl (P ++ mkF k R, k + totF R, ())) := by
  intro R
  induction R with
  | nil =>
    intro P k _ _ _
    apply el_laws_markFormS_26
    simp [ql_laws_markFormS_26, mkF, totF]
  | cons x R ih =>
    intro P k h0 hk hp
    simp only [List.length_cons, totF] at hk hp
    apply el_laws_markFormS_26
    simp only [ql_laws_markFormS_26]
    rw [if_pos (by simp; omega), if_pos (by simp; omega), Int.toNat_natCast, get_mid, inc_nat (by omega), w64 (x := k + 1) (by omega) (by omega), w64 (x := k + 1 + 1) (by omega) (by omega), show k + 1 + 1 = k + 2 by omega]
    simp only [Option.bind_some]
    rw [set_mid, if_pos (by simp; omega), get_mid]
    simp only [Option.bind_some]
    rw [set_mid, if_pos (by simp; omega), get_mid]
    simp only [Option.bind_some]
    rw [p_markIntS x.2.2.1 (k + 2) (by omega) (by omega)]
    simp only [Option.bind_some]
    rw [set_mid, if_pos (by simp; omega), get_mid]
    simp only [Option.bind_some]
    rw [p_markIntS x.2.2.2.1 (k + 2 + x.2.2.1.length) (by omega) (by omega)]
    simp only [Option.bind_some]
    rw [set_mid]
    have := ih (P ++ [(k, k + 1, mkS (k + 2) x.2.2.1.length, mkS (k + 2 + x.2.2.1.length) x.2.2.2.1.length, ())]) (k + 2 + x.2.2.1.length + x.2.2.2.1.length) (by omega) (by omega) (by simp; omega)
    rw [List.append_assoc, List.length_append] at this
    simp only [List.cons_append, List.nil_append, List.length_cons, List.length_nil, Nat.zero_add] at this
    rw [this]
    simp only [mkF, totF, List.append_assoc, List.cons_append, List.nil_append]
    rw [show k + 2 + (x.2.2.1.length : Int) + (x.2.2.2.1.length : Int) + (totF R : Int) = k + ((2 + x.2.2.1.length + x.2.2.2.1.length + totF R : Nat) : Int) by omega]
theorem p_markFormS (a : List TForm) (k : Int) (h0 : 0 ≤ k) (hk : k + totF a ≤ 4611686018427387904) (hl : a.length ≤ 4611686018427387904) : c_laws_markFormS M a k = some ((k + totF a, ()), (mkF k a, ())) := by
  apply e_laws_markFormS
  have := p_markFormS_loop a [] k h0 hk (by simp; omega)
  simp only [List.nil_append, List.length_nil] at this
  rw [show ((0 : Nat) : Int) = 0 from rfl] at this
  simp only [q_laws_markFormS, this, Option.bind_some, Sum.elim_inl]
end Go.Proofs.YtpmjpijpjmphnaaGreatCf.Ev

/- Plain laws: FnExactClausify. No condition but sizes. -/
namespace Go.Proofs.YtpmjpijpjmphnaaGreatCf.Ev
open Go
set_option autoImplicit false
set_option linter.unusedVariables false
set_option linter.unusedSimpArgs false

theorem p_Clausifys (s : TSign) (hs : s.1.length ≤ 1048576) (f : List TForm) (hl : f.length ≤ 1048576) (hx : ∀ x ∈ f, smF x) : ∃ r : (TSign × List (List TLit) × Bool × Unit) × Unit, c_spec_Clausify M s f = some r ∧ c_impl_Clausify M s f = some r ∧ r.1.1.1.length ≤ 1048576 ∧ r.1.2.1.length ≤ 144 ∧ ∀ c ∈ r.1.2.1, smK c := by
  obtain ⟨⟨⟨⟨a, ⟨⟩⟩, ⟨g, ⟨ok, ⟨⟩⟩⟩⟩, ⟨⟩⟩, h1, h2, h3, h4, h5⟩ := p_skolemForms s hs f hl hx
  simp only at h3 h4 h5
  cases ok with
  | false =>
    refine ⟨((([], ()), [], false, ()), ()), e_spec_Clausify _ _ ?_, e_impl_Clausify _ _ ?_, by simp, by simp, by simp⟩
    · simp only [q_spec_Clausify, sign_eta', h1, Option.bind_some]; rfl
    · simp only [q_impl_Clausify, sign_eta', h2, Option.bind_some]; rfl
  | true =>
    obtain ⟨⟨⟨L, ⟨fine, ⟨⟩⟩⟩, ⟨⟩⟩, k1, k2, k3, k4⟩ := p_ClausesOfs (a, ()) h3 g (by omega) h5
    simp only at k3 k4
    cases fine with
    | false =>
      refine ⟨((([], ()), [], false, ()), ()), e_spec_Clausify _ _ ?_, e_impl_Clausify _ _ ?_, by simp, by simp, by simp⟩
      · simp only [q_spec_Clausify, sign_eta', h1, k1, Option.bind_some]; rfl
      · simp only [q_impl_Clausify, sign_eta', h2, k2, Option.bind_some]; rfl
    | true =>
      refine ⟨(((a, ()), L, true, ()), ()), e_spec_Clausify _ _ ?_, e_impl_Clausify _ _ ?_, h3, k3, k4⟩
      · simp only [q_spec_Clausify, sign_eta', h1, k1, Option.bind_some]; rfl
      · simp only [q_impl_Clausify, sign_eta', h2, k2, Option.bind_some]; rfl

theorem p_FnExactClausify (s : TSign) (c : List TForm) (hs : s.1.length ≤ 9223372036854775807) (hc : c.length ≤ 9223372036854775807) (hx : ∀ x ∈ c, wlF x) : c_laws_FnExactClausify M s c = some ((true, ()), ()) := by
  obtain ⟨r1, e1, g1, k1⟩ := p_szSign s 1048576 (by omega) (by omega) hs
  by_cases h1 : r1 < 0
  · apply e_laws_FnExactClausify
    simp only [q_laws_FnExactClausify, sign_eta', e1, Option.bind_some]
    rw [if_pos (by simpa using h1)]
  · obtain ⟨r2, e2, g2, k2⟩ := p_szFormS c r1 (by omega) g1 hc hx
    by_cases h2 : r2 < 0
    · apply e_laws_FnExactClausify
      simp only [q_laws_FnExactClausify, sign_eta', e1, e2, Option.bind_some]
      rw [if_neg (by simpa using h1), if_pos (by simpa using h2)]
    · have hs' := k1 (by omega)
      obtain ⟨hc', hx'⟩ := k2 (by omega)
      obtain ⟨r, t1, t2, o0, o1, o2⟩ := p_Clausifys s hs' c hc' hx'
      have b1 := totF_le c hx'
      have b2 := totK_le r.1.2.1 o2
      have m1 := p_markSign s 1 (by omega) (by omega)
      have m2 := p_markFormS c (1 + s.1.length) (by omega) (by omega) (by omega)
      have m5 := p_markSign r.1.1 1 (by omega) (by omega)
      have m3 := p_markLitSS r.1.2.1 (1 + r.1.1.1.length) (by omega) (by omega) (by omega) o2
      have m6 := p_heldSign 1 r.1.1 (by omega) (by omega)
      have m4 := p_heldLitSS r.1.2.1 (1 + r.1.1.1.length) (by omega) (by omega) (by omega) o2
      apply e_laws_FnExactClausify
      simp only [q_laws_FnExactClausify, sign_eta', e1, e2, Option.bind_some, p_toSign s (by omega), p_toFormS c hc' hx', t1, t2, p_eqSign s (by omega), p_eqSign r.1.1 (by omega), p_eqFormS c hc' hx', p_eqLitSS r.1.2.1 (by omega) o2, m1, m2, m3, m4, m5, m6]
      rw [if_neg (by simpa using h1), if_neg (by simpa using h2)]
      simp
      rw [if_neg (by omega), if_neg (by omega), if_neg (by omega), if_neg (by omega), if_neg (by omega)]
end Go.Proofs.YtpmjpijpjmphnaaGreatCf.Ev
