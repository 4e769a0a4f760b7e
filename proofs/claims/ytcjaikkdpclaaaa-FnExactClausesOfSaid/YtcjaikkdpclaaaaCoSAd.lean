/- A text of its own: SAd; no condition but those that each theorem names. -/
import Derived.Test.YtcjaikkdpclaaaaCoPDe
/- Plain laws: FnExactClausesOf. No condition but sizes. -/
namespace Go.Proofs.YtcjaikkdpclaaaaCo.Ev
open Go
set_option autoImplicit false
set_option linter.unusedVariables false
set_option linter.unusedSimpArgs false

theorem p_copyLit (x : TLit) (h : x.2.1.length ≤ 40 ∧ x.2.2.1.length ≤ 40) : c_impl_copyLit M x = some ((x, ()), ()) := by
  apply e_impl_copyLit
  simp only [q_impl_copyLit]
  rw [if_pos (by omega), if_pos (by omega)]
theorem p_copyC_in (o : List (List TLit)) (l : List (List TLit)) (L i : Int) (c : List TLit) (hc : smK c) : ∀ k j : Nat, j + k = c.length → ∀ d : List TLit, d.length = j → l_impl_copyClauses_59802 M o d l L i c c.length j = some (.inl (o, d ++ c.drop j, l, L, i, ())) := by
  have h16 := hc.1
  intro k
  induction k with
  | zero =>
    intro j hj d hd
    obtain rfl : j = c.length := by omega
    apply el_impl_copyClauses_59802
    simp [ql_impl_copyClauses_59802]
  | succ k ih =>
    intro j hj d hd
    have h1 : j < c.length := by omega
    apply el_impl_copyClauses_59802
    simp only [ql_impl_copyClauses_59802]
    rw [if_pos (by simpa using h1), idx_lt h1, inc_nat (by omega)]
    simp only [Option.bind_some, lit_eta, p_copyLit _ (hc.2 _ (List.getElem_mem h1))]
    rw [if_pos (by simp; omega), ih (j + 1) (by omega) _ (by simp [hd]), List.drop_eq_getElem_cons h1, List.append_assoc]
    rfl
theorem p_copyC_loop (l : List (List TLit)) (hl : l.length ≤ 144) (hx : ∀ c ∈ l, smK c) : ∀ k i : Nat, i + k = l.length → ∀ o : List (List TLit), o.length = i → l_impl_copyClauses_58 M o l l.length i = some (.inl (o ++ l.drop i, ())) := by
  intro k
  induction k with
  | zero =>
    intro i hi o ho
    obtain rfl : i = l.length := by omega
    apply el_impl_copyClauses_58
    simp [ql_impl_copyClauses_58]
  | succ k ih =>
    intro i hi o ho
    have h1 : i < l.length := by omega
    apply el_impl_copyClauses_58
    simp only [ql_impl_copyClauses_58]
    rw [if_pos (by simpa using h1), idx_lt h1]
    have := p_copyC_in o l l.length i l[i] (hx _ (List.getElem_mem h1)) l[i].length 0 (by omega) [] rfl
    rw [show ((0 : Nat) : Int) = 0 from rfl, List.drop_zero, List.nil_append] at this
    simp only [Option.bind_some, this, Sum.elim_inl]
    rw [if_pos (by simp; omega), inc_nat (by omega), ih (i + 1) (by omega) _ (by simp [ho]), List.drop_eq_getElem_cons h1, List.append_assoc]
    rfl
theorem p_copyC (l : List (List TLit)) (hl : l.length ≤ 144) (hx : ∀ c ∈ l, smK c) : c_impl_copyClauses M l = some ((l, ()), ()) := by
  apply e_impl_copyClauses
  have := p_copyC_loop l hl hx l.length 0 (by omega) [] rfl
  rw [show ((0 : Nat) : Int) = 0 from rfl, List.drop_zero, List.nil_append] at this
  simp only [q_impl_copyClauses, this, Option.bind_some, Sum.elim_inl]
theorem p_ownC_loop (l : List (List TLit)) (hl : l.length ≤ 144) (hx : ∀ c ∈ l, smK c) : ∀ k i : Nat, i + k = l.length → ∀ o : List (List TLit), o.length = i → l_spec_ClausesOf_2042 M o l l.length i = some (.inl (o ++ l.drop i, ())) := by
  intro k
  induction k with
  | zero =>
    intro i hi o ho
    obtain rfl : i = l.length := by omega
    apply el_spec_ClausesOf_2042
    simp [ql_spec_ClausesOf_2042]
  | succ k ih =>
    intro i hi o ho
    have h1 : i < l.length := by omega
    apply el_spec_ClausesOf_2042
    simp only [ql_spec_ClausesOf_2042]
    rw [if_pos (by simpa using h1), if_pos (by omega), Int.toNat_natCast, List.getElem?_eq_getElem h1]
    simp only [Option.bind_some, p_l4Own _ (hx _ (List.getElem_mem h1))]
    rw [if_pos (by simp; omega), inc_nat (by omega), ih (i + 1) (by omega) _ (by simp [ho]), List.drop_eq_getElem_cons h1, List.append_assoc]
    rfl
theorem clz_no6 : ∀ (f : List TForm) (all : List Int), clz all f = true → ∀ x ∈ f, x.1 ≠ 6
  | [], _, _, x, hx => by cases hx
  | y :: r, all, h, x, hx => by
    by_cases h6 : y.1 = 6
    · rw [clz6 h6] at h; cases h
    · have hr : ∃ all', clz all' r = true := by
        by_cases h5 : y.1 = 5
        · by_cases hm : y.2.1 ∈ all
          · rw [clz5m h5 hm] at h; cases h
          · rw [clz5n h5 hm] at h; exact ⟨_, h⟩
        · rw [clzo h6 h5] at h; exact ⟨_, h⟩
      obtain ⟨all', hr⟩ := hr
      rcases List.mem_cons.1 hx with rfl | hx
      · exact h6
      · exact clz_no6 r all' hr x hx
theorem FT.nd {a : List Int} {h : List TForm} {t : Tree} (hf : FT a h t) : ∀ x ∈ h, ndOK a x = true := by
  induction hf with
  | leaf h _ => intro y hy; simp at hy; subst hy; exact h
  | un h _ _ ih =>
    intro y hy
    rcases List.mem_append.1 hy with hy | hy
    · exact ih y hy
    · simp at hy; subst hy; exact h
  | bin h _ _ _ ih1 ih2 =>
    intro y hy
    rcases List.mem_append.1 hy with hy | hy
    · rcases List.mem_append.1 hy with hy | hy
      · exact ih1 y hy
      · exact ih2 y hy
    · simp at hy; subst hy; exact h

theorem p_ClausesOfs (s : TSign) (hs : s.1.length ≤ 1048576) (f : List TForm) (hl : f.length ≤ 1048576) (hx : ∀ x ∈ f, smF x) : ∃ r : (List (List TLit) × Bool × Unit) × Unit, c_spec_ClausesOf M s f = some r ∧ c_impl_ClausesOf M s f = some r ∧ r.1.1.length ≤ 144 ∧ ∀ c ∈ r.1.1, smK c := by
  obtain ⟨t, ht, hgt⟩ := p_formula s hs f
  have hspec := p_spec_GoodForm s hs f hl hx
  cases hb : (gS s.1 && fOK s.1 f) with
  | false =>
    rw [hb] at ht hspec
    refine ⟨(([], false, ()), ()), e_spec_ClausesOf _ _ ?_, e_impl_ClausesOf _ _ ?_, by simp, by simp⟩
    · simp only [q_spec_ClausesOf, sign_eta', hspec, Option.bind_some]; rfl
    · simp only [q_impl_ClausesOf, sign_eta', ht, Option.bind_some]; rfl
  | true =>
    rw [hb] at ht hspec
    have hb' := hb
    simp only [Bool.and_eq_true] at hb'
    obtain ⟨hg, hfo⟩ := hb'
    have h15 : f.length ≤ 15 := by simp only [fOK, Bool.and_eq_true, decide_eq_true_eq] at hfo; exact hfo.1
    have hft := gT_FT (hgt hb)
    have hpos := hft.pos
    obtain ⟨q1, q2⟩ := p_psb hfo
    have c1 := p_clz_spec s f (by omega) f.length 0 (by omega) [] (by simp)
    have c2 := p_clz_impl f (by omega) hft.nd f.length 0 (by omega) []
    rw [show ((0 : Nat) : Int) = 0 from rfl, List.drop_zero] at c1 c2
    rw [show seenT [] = (false, false, false, false, false, false, ()) from rfl] at c2
    have hcl : c_impl_isClausal M f = some ((clz [] f && psb 0 f, ()), ()) := by
      apply e_impl_isClausal
      simp only [q_impl_isClausal, c2, Option.bind_some]
      cases clz [] f with
      | false => simp
      | true => rw [if_pos rfl]; simp only [Sum.elim_inl, q2, Option.bind_some, Bool.true_and]
    cases hz : clz [] f with
    | false =>
      rw [hz] at c1 hcl
      rw [if_neg (by simp)] at c1
      refine ⟨(([], false, ()), ()), e_spec_ClausesOf _ _ ?_, e_impl_ClausesOf _ _ ?_, by simp, by simp⟩
      · simp only [q_spec_ClausesOf, sign_eta', hspec, q1, c1, Option.bind_some]
        cases psb 0 f <;> rfl
      · simp only [q_impl_ClausesOf, sign_eta', ht, hcl, Option.bind_some]; rfl
    | true =>
      rw [hz] at c1 hcl
      rw [if_pos rfl] at c1
      cases hp : psb 0 f with
      | false =>
        rw [hp] at q1 hcl
        refine ⟨(([], false, ()), ()), e_spec_ClausesOf _ _ ?_, e_impl_ClausesOf _ _ ?_, by simp, by simp⟩
        · simp only [q_spec_ClausesOf, sign_eta', hspec, q1, Option.bind_some]; rfl
        · simp only [q_impl_ClausesOf, sign_eta', ht, hcl, Option.bind_some]; rfl
      | true =>
        rw [hp] at q1 hcl
        obtain ⟨⟨k1, k2, k3⟩, e1, e2⟩ := p_clauses (a := s.1) (by omega) hg hft (clz_no6 f [] hz) ⟨0, hp⟩
        have e3 := e2 [] [] (by simp; omega)
        simp only [List.nil_append, List.append_nil, List.length_nil, Int.natCast_zero, Int.zero_add, sign_eta'] at e1 e3
        have ow := p_ownC_loop (clT s.1 t).1 k1 k2 (clT s.1 t).1.length 0 (by omega) [] rfl
        rw [show ((0 : Nat) : Int) = 0 from rfl, List.drop_zero, List.nil_append] at ow
        refine ⟨if (clT s.1 t).2 = true then (((clT s.1 t).1, true, ()), ()) else (([], false, ()), ()), e_spec_ClausesOf _ _ ?_, e_impl_ClausesOf _ _ ?_, ?_, ?_⟩
        · simp only [q_spec_ClausesOf, sign_eta', hspec, q1, c1, Option.bind_some, Sum.elim_inl]
          rw [if_neg (by simp), if_neg (by simp), w64 (by omega) (by omega), e3]
          simp only [Option.bind_some]
          cases (clT s.1 t).2 with
          | false => rfl
          | true => rw [if_neg (by simp), ow]; rfl
        · simp only [q_impl_ClausesOf, sign_eta', ht, hcl, Option.bind_some]
          rw [if_neg (by simp), if_neg (by simp), e1]
          simp only [Option.bind_some]
          cases (clT s.1 t).2 with
          | false => rfl
          | true => rw [if_neg (by simp), p_copyC _ k1 k2]; rfl
        · split
          · exact k1
          · simp
        · split
          · exact k2
          · simp

/-- Marks in rows of clauses. -/
def totK : List (List TLit) → Nat
  | [] => 0
  | x :: r => totL x + totK r
def mkK (k : Int) : List (List TLit) → List (List TLit)
  | [] => []
  | x :: r => mkL k x :: mkK (k + totL x) r
theorem mkK_len : ∀ (r : List (List TLit)) (k : Int), (mkK k r).length = r.length
  | [], _ => rfl
  | x :: r, k => by simp [mkK, mkK_len r]
theorem totK_le : ∀ (r : List (List TLit)), (∀ c ∈ r, smK c) → totK r ≤ 2097153 * 16 * r.length
  | [], _ => by simp [totK]
  | x :: r, h => by
    have h1 := totL_le x (h x (by simp)).sm
    have h3 := (h x (by simp)).1
    have h2 := totK_le r (fun y hy => h y (by simp [hy]))
    simp only [totK, List.length_cons]
    omega
theorem p_markLitSS_loop : ∀ (R P : List (List TLit)) (k : Int), 0 ≤ k → k + totK R ≤ 4611686018427387904 → P.length + R.length ≤ 4611686018427387904 → (∀ c ∈ R, smK c) → l_laws_markLitSS_26 M (P ++ R) k P.length = some (.inl (P ++ mkK k R, k + totK R, ())) := by
  intro R
  induction R with
  | nil =>
    intro P k _ _ _ _
    apply el_laws_markLitSS_26
    simp [ql_laws_markLitSS_26, mkK, totK]
  | cons x R ih =>
    intro P k h0 hk hp hx
    have hx1 := (hx x (by simp)).1
    simp only [List.length_cons, totK] at hk hp
    apply el_laws_markLitSS_26
    simp only [ql_laws_markLitSS_26]
    rw [if_pos (by simp; omega), if_pos (by simp; omega), Int.toNat_natCast, get_mid, inc_nat (by omega)]
    simp only [Option.bind_some]
    rw [p_markLitS x k h0 (by omega) (by omega)]
    simp only [Option.bind_some]
    rw [set_mid]
    have := ih (P ++ [mkL k x]) (k + totL x) (by omega) (by omega) (by simp; omega) (fun c hc => hx c (by simp [hc]))
    rw [List.append_assoc, List.length_append] at this
    simp only [List.cons_append, List.nil_append, List.length_cons, List.length_nil, Nat.zero_add] at this
    rw [this]
    simp only [mkK, totK, List.append_assoc, List.cons_append, List.nil_append]
    rw [show k + (totL x : Int) + (totK R : Int) = k + ((totL x + totK R : Nat) : Int) by omega]
theorem p_markLitSS (a : List (List TLit)) (k : Int) (h0 : 0 ≤ k) (hk : k + totK a ≤ 4611686018427387904) (hl : a.length ≤ 4611686018427387904) (hx : ∀ c ∈ a, smK c) : c_laws_markLitSS M a k = some ((k + totK a, ()), (mkK k a, ())) := by
  apply e_laws_markLitSS
  have := p_markLitSS_loop a [] k h0 hk (by simp; omega) hx
  simp only [List.nil_append, List.length_nil] at this
  rw [show ((0 : Nat) : Int) = 0 from rfl] at this
  simp only [q_laws_markLitSS, this, Option.bind_some, Sum.elim_inl]
theorem p_heldLitSS_loop : ∀ (R P : List (List TLit)) (k : Int), 0 ≤ k → k + totK R ≤ 4611686018427387904 → P.length + R.length ≤ 4611686018427387904 → (∀ c ∈ R, smK c) → l_laws_heldLitSS_26 M (P ++ mkK k R) k P.length = some (.inl (k + totK R, ())) := by
  intro R
  induction R with
  | nil =>
    intro P k _ _ _ _
    apply el_laws_heldLitSS_26
    simp [ql_laws_heldLitSS_26, mkK, totK]
  | cons x R ih =>
    intro P k h0 hk hp hx
    have hx1 := (hx x (by simp)).1
    simp only [List.length_cons, totK] at hk hp
    rw [show mkK k (x :: R) = mkL k x :: mkK (k + totL x) R from rfl]
    apply el_laws_heldLitSS_26
    simp only [ql_laws_heldLitSS_26]
    rw [if_pos (by simp [mkK_len]; omega), idx_midQ, inc_nat (by omega)]
    simp only [Option.bind_some]
    rw [p_heldLitS x k h0 (by omega) (by omega)]
    simp only [Option.bind_some]
    rw [if_neg (by simp; omega)]
    have := ih (P ++ [mkL k x]) (k + totL x) (by omega) (by omega) (by simp; omega) (fun c hc => hx c (by simp [hc]))
    rw [List.append_assoc, List.length_append] at this
    simp only [List.cons_append, List.nil_append, List.length_cons, List.length_nil, Nat.zero_add] at this
    rw [this]
    simp only [totK]
    rw [show k + (totL x : Int) + (totK R : Int) = k + ((totL x + totK R : Nat) : Int) by omega]
theorem p_heldLitSS (a : List (List TLit)) (k : Int) (h0 : 0 ≤ k) (hk : k + totK a ≤ 4611686018427387904) (hl : a.length ≤ 4611686018427387904) (hx : ∀ c ∈ a, smK c) : c_laws_heldLitSS M (mkK k a) k = some ((k + totK a, ()), ()) := by
  apply e_laws_heldLitSS
  have := p_heldLitSS_loop a [] k h0 hk (by simp; omega) hx
  simp only [List.nil_append, List.length_nil] at this
  rw [show ((0 : Nat) : Int) = 0 from rfl] at this
  simp only [q_laws_heldLitSS, this, Option.bind_some, Sum.elim_inl]
theorem p_eqLitSS_loop (a : List (List TLit)) (ha : a.length ≤ 1048576) (hx : ∀ c ∈ a, smK c) : ∀ k i : Nat, i + k = a.length → l_laws_eqLitSS_58 M a a i = some (.inl ()) := by
  intro k
  induction k with
  | zero =>
    intro i hi
    obtain rfl : i = a.length := by omega
    apply el_laws_eqLitSS_58
    simp only [ql_laws_eqLitSS_58, Int.lt_irrefl, decide_false, Bool.false_eq_true, if_false]
  | succ k ih =>
    intro i hi
    apply el_laws_eqLitSS_58
    have h1 : i < a.length := by omega
    have h2 := hx _ (List.getElem_mem h1)
    simp only [ql_laws_eqLitSS_58]
    rw [if_pos (by simpa using h1), idx_lt h1, inc_nat (by omega)]
    simp only [Option.bind_some, p_eqLitS a[i] (by have := h2.1; omega) h2.sm, Bool.not_true, Bool.false_eq_true, if_false]
    exact ih (i + 1) (by omega)
theorem p_eqLitSS (a : List (List TLit)) (ha : a.length ≤ 1048576) (hx : ∀ c ∈ a, smK c) : c_laws_eqLitSS M a a = some ((true, ()), ()) := by
  apply e_laws_eqLitSS
  simp only [q_laws_eqLitSS, bne_self_eq_false, Bool.false_eq_true, if_false]
  have := p_eqLitSS_loop a ha hx a.length 0 (by omega)
  rw [show ((0 : Nat) : Int) = 0 from rfl] at this
  rw [this]
  rfl

theorem p_FnExactClausesOf (s : TSign) (c : List TForm) (hs : s.1.length ≤ 9223372036854775807) (hc : c.length ≤ 9223372036854775807) (hx : ∀ x ∈ c, wlF x) : c_laws_FnExactClausesOf M s c = some ((true, ()), ()) := by
  obtain ⟨r1, e1, g1, k1⟩ := p_szSign s 1048576 (by omega) (by omega) hs
  by_cases h1 : r1 < 0
  · apply e_laws_FnExactClausesOf
    simp only [q_laws_FnExactClausesOf, sign_eta', e1, Option.bind_some]
    rw [if_pos (by simpa using h1)]
  · obtain ⟨r2, e2, g2, k2⟩ := p_szFormS c r1 (by omega) g1 hc hx
    by_cases h2 : r2 < 0
    · apply e_laws_FnExactClausesOf
      simp only [q_laws_FnExactClausesOf, sign_eta', e1, e2, Option.bind_some]
      rw [if_neg (by simpa using h1), if_pos (by simpa using h2)]
    · have hs' := k1 (by omega)
      obtain ⟨hc', hx'⟩ := k2 (by omega)
      obtain ⟨r, t1, t2, o1, o2⟩ := p_ClausesOfs s hs' c hc' hx'
      have b1 := totF_le c hx'
      have b2 := totK_le r.1.1 o2
      have m1 := p_markSign s 1 (by omega) (by omega)
      have m2 := p_markFormS c (1 + s.1.length) (by omega) (by omega) (by omega)
      have m3 := p_markLitSS r.1.1 1 (by omega) (by omega) (by omega) o2
      have m4 := p_heldLitSS r.1.1 1 (by omega) (by omega) (by omega) o2
      apply e_laws_FnExactClausesOf
      simp only [q_laws_FnExactClausesOf, sign_eta', e1, e2, Option.bind_some, p_toSign s (by omega), p_toFormS c hc' hx', t1, t2, p_eqSign s (by omega), p_eqFormS c hc' hx', p_eqLitSS r.1.1 (by omega) o2, m1, m2, m3, m4]
      rw [if_neg (by simpa using h1), if_neg (by simpa using h2)]
      simp
      rw [if_neg (by omega), if_neg (by omega), if_neg (by omega)]
end Go.Proofs.YtcjaikkdpclaaaaCo.Ev
