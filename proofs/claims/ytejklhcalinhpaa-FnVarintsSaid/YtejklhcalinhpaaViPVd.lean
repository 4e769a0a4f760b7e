/- Plain laws: what is drawn; FnVarints answers true. No condition but that the bytes are bytes and fit in memory. -/
import Derived.Test.YtejklhcalinhpaaViPVc
namespace Go.Proofs.YtejklhcalinhpaaVi.Ev
open Go
set_option autoImplicit false
set_option linter.unusedVariables false
set_option linter.unusedSimpArgs false

abbrev TCur := List Int × Int × Int × Unit
theorem cur_eta (c : TCur) : (c.1, c.2.1, c.2.2.1, ()) = c := rfl
/-- A reader of choices over some bytes, no further than a place. -/
def Cu (code : List Int) (j : Int) (c : TCur) : Prop := c.1 = code ∧ 0 ≤ c.2.1 ∧ c.2.1 ≤ j
def isBytes (code : List Int) : Prop := code.length ≤ 1048576 ∧ ∀ b ∈ code, 0 ≤ b ∧ b ≤ 255

theorem and255 (x : Int) : 0 ≤ bitsI .and .u64 x 255 ∧ bitsI .and .u64 x 255 ≤ 255 := by
  have h : (BitVec.ofInt 64 x &&& BitVec.ofInt 64 255).toNat ≤ 255 := by
    rw [BitVec.toNat_and]
    exact Nat.le_trans Nat.and_le_right (by decide)
  have e : bitsI .and .u64 x 255 = IntKind.u64.wrap (((BitVec.ofInt 64 x &&& BitVec.ofInt 64 255).toNat : Nat) : Int) := rfl
  rw [e, wu64 (by omega) (by omega)]
  omega

theorem p_next {code : List Int} (hb : isBytes code) {j : Int} (hj : j ≤ 1000000000) {c : TCur} (hc : Cu code j c) : ∃ x c', c_spec_l1Cur_next M c = some ((x, ()), (c', ())) ∧ 0 ≤ x ∧ x ≤ 255 ∧ Cu code (j + 1) c' := by
  obtain ⟨h1, h2, h3⟩ := hc
  have hin : IntKind.i64.wrap (c.2.1 + 1) = c.2.1 + 1 := w64 (by omega) (by omega)
  have tail : ∀ (x0 : Int), 0 ≤ x0 → x0 ≤ 255 → (∃ r : (Int × Unit) × (TCur × Unit), (if (decide ((IntKind.i64.wrap (c.2.1 + (1 : Int))) ≤ (List.length c.1 : Int))) = true then (some ((x0, ()), ((c.1, (IntKind.i64.wrap (c.2.1 + (1 : Int))), (IntKind.u64.wrap ((IntKind.u64.wrap ((IntKind.u64.wrap (c.2.2.1 * (6364136223846793005 : Int))) + (IntKind.u64.wrap x0))) + (1442695040888963407 : Int))), ()), ()))) else (if (40 : Int) < 0 then none else (some (((IntKind.i64.wrap (bitsI .and .u64 (shrI .u64 (IntKind.u64.wrap ((IntKind.u64.wrap ((IntKind.u64.wrap (c.2.2.1 * (6364136223846793005 : Int))) + (IntKind.u64.wrap x0))) + (1442695040888963407 : Int))) (40 : Int)) (255 : Int))), ()), ((c.1, (IntKind.i64.wrap (c.2.1 + (1 : Int))), (IntKind.u64.wrap ((IntKind.u64.wrap ((IntKind.u64.wrap (c.2.2.1 * (6364136223846793005 : Int))) + (IntKind.u64.wrap x0))) + (1442695040888963407 : Int))), ()), ()))))) = some r ∧ 0 ≤ r.1.1 ∧ r.1.1 ≤ 255 ∧ Cu code (j + 1) r.2.1) := by
    intro x0 g0 g1
    rw [hin]
    by_cases hq : c.2.1 + 1 ≤ (List.length c.1 : Int)
    · rw [if_pos (by simpa using hq)]
      exact ⟨_, rfl, g0, g1, h1, by show 0 ≤ c.2.1 + 1; omega, by show c.2.1 + 1 ≤ j + 1; omega⟩
    · rw [if_neg (by simpa using hq), if_neg (by omega)]
      have ha := and255 (shrI .u64 (IntKind.u64.wrap ((IntKind.u64.wrap ((IntKind.u64.wrap (c.2.2.1 * (6364136223846793005 : Int))) + (IntKind.u64.wrap x0))) + (1442695040888963407 : Int))) (40 : Int))
      refine ⟨_, rfl, ?_, ?_, h1, by show 0 ≤ c.2.1 + 1; omega, by show c.2.1 + 1 ≤ j + 1; omega⟩
      · show 0 ≤ IntKind.i64.wrap _
        rw [w64 (by omega) (by omega)]; exact ha.1
      · show IntKind.i64.wrap _ ≤ 255
        rw [w64 (by omega) (by omega)]; exact ha.2
  by_cases hl : c.2.1 < (List.length c.1 : Int)
  · obtain ⟨m, hm⟩ : ∃ m : Nat, c.2.1 = (m : Int) := ⟨c.2.1.toNat, by omega⟩
    have hml : m < c.1.length := by omega
    have hbb := hb.2 (c.1[m]) (by rw [← h1]; exact List.getElem_mem hml)
    obtain ⟨r, r1, r2, r3, r4⟩ := tail c.1[m] hbb.1 hbb.2
    refine ⟨r.1.1, r.2.1, e_spec_l1Cur_next _ ?_, r2, r3, r4⟩
    simp only [q_spec_l1Cur_next]
    have hix : idx c.1 c.2.1 = some c.1[m] := by rw [hm, idx_lt hml]
    rw [if_pos (by simpa using hl), hix]
    simp only [Option.bind_some]
    rw [w64 (x := c.1[m]) (by omega) (by omega)]
    simp only [Option.bind_some, Sum.elim_inl]
    exact r1
  · obtain ⟨r, r1, r2, r3, r4⟩ := tail 0 (by omega) (by omega)
    refine ⟨r.1.1, r.2.1, e_spec_l1Cur_next _ ?_, r2, r3, r4⟩
    simp only [q_spec_l1Cur_next]
    rw [if_neg (by simpa using hl)]
    simp only [Option.bind_some, Sum.elim_inl]
    exact r1

theorem p_pick {code : List Int} (hb : isBytes code) {j : Int} (hj : j ≤ 100000000) {c : TCur} (hc : Cu code j c) (n : Int) (hn : n ≤ 1000000000) : ∃ x c', c_spec_l1Cur_pick M c n = some ((x, ()), (c', ())) ∧ 0 ≤ x ∧ (x < n ∨ x = 0) ∧ Cu code (j + 2) c' := by
  by_cases h1 : n ≤ 1
  · refine ⟨0, c, e_spec_l1Cur_pick _ _ ?_, by omega, .inr rfl, hc.1, hc.2.1, by have := hc.2.2; omega⟩
    simp only [q_spec_l1Cur_pick]
    rw [if_pos (by simpa using h1)]
  · obtain ⟨x, c', n1, n2, n3, n4⟩ := p_next hb (by omega) hc
    by_cases h2 : n > 200
    · obtain ⟨y, c'', m1, m2, m3, m4⟩ := p_next hb (by omega) n4
      have hw : IntKind.i64.wrap (IntKind.i64.wrap (x * 256) + y) = x * 256 + y := by rw [w64 (x := x * 256) (by omega) (by omega), w64 (by omega) (by omega)]
      refine ⟨Int.tmod (x * 256 + y) n, c'', e_spec_l1Cur_pick _ _ ?_, Int.tmod_nonneg _ (by omega), .inl (Int.tmod_lt_of_pos _ (by omega)), m4.1, m4.2.1, by have := m4.2.2; omega⟩
      simp only [q_spec_l1Cur_pick]
      rw [if_neg (by simpa using h1), cur_eta, n1]
      simp only [Option.bind_some]
      rw [if_pos (by simpa using h2), cur_eta, m1]
      simp only [Option.bind_some, Sum.elim_inl]
      rw [if_neg (by omega), hw]
    · refine ⟨Int.tmod x n, c', e_spec_l1Cur_pick _ _ ?_, Int.tmod_nonneg _ (by omega), .inl (Int.tmod_lt_of_pos _ (by omega)), n4.1, n4.2.1, by have := n4.2.2; omega⟩
      simp only [q_spec_l1Cur_pick]
      rw [if_neg (by simpa using h1), cur_eta, n1]
      simp only [Option.bind_some]
      rw [if_neg (by simpa using h2)]
      simp only [Option.bind_some, Sum.elim_inl]
      rw [if_neg (by omega)]

theorem p_one {code : List Int} (hb : isBytes code) {j : Int} (hj : j ≤ 100000000) {c : TCur} (hc : Cu code j c) (n : Int) (hn : n ≤ 1000000000) : ∃ x c', c_spec_l1Cur_one M c n = some ((x, ()), (c', ())) ∧ Cu code (j + 2) c' := by
  obtain ⟨x, c', n1, _, _, n4⟩ := p_pick hb hj hc n hn
  refine ⟨x == 0, c', e_spec_l1Cur_one _ _ ?_, n4⟩
  simp only [q_spec_l1Cur_one, cur_eta, n1, Option.bind_some]
theorem p_among {code : List Int} (hb : isBytes code) {j : Int} (hj : j ≤ 100000000) {c : TCur} (hc : Cu code j c) (l : List Int) (hl : l.length ≤ 1000000) (hl0 : 0 < l.length) : ∃ x c', c_spec_l1Cur_among M c l = some ((x, ()), (c', ())) ∧ x ∈ l ∧ Cu code (j + 2) c' := by
  obtain ⟨x, c', n1, n2, n3, n4⟩ := p_pick hb hj hc l.length (by omega)
  obtain ⟨m, rfl⟩ : ∃ m : Nat, x = (m : Int) := ⟨x.toNat, by omega⟩
  have hm : m < l.length := by omega
  refine ⟨l[m], c', e_spec_l1Cur_among _ _ ?_, List.getElem_mem hm, n4⟩
  simp only [q_spec_l1Cur_among, cur_eta, n1, Option.bind_some]
  rw [idx_lt hm]
  rfl
theorem p_number {code : List Int} (hb : isBytes code) {j : Int} (hj : j ≤ 100000000) {c : TCur} (hc : Cu code j c) : ∃ x c', c_spec_l1Cur_number M c = some ((x, ()), (c', ())) ∧ -300 ≤ x ∧ x ≤ 1073741824 ∧ Cu code (j + 2) c' := by
  obtain ⟨x, c', n1, n2, n3⟩ := p_among hb hj hc [0, 1, 5, 127, 128, 300, 16383, 16384, 70000, 1073741823, 1073741824, -1, -7, -300] (by simp) (by simp)
  have hx : -300 ≤ x ∧ x ≤ 1073741824 := by
    simp at n2
    omega
  refine ⟨x, c', e_spec_l1Cur_number _ ?_, hx.1, hx.2, n3⟩
  simp only [q_spec_l1Cur_number, cur_eta, n1, Option.bind_some]

theorem cu0 (code : List Int) : Cu code 0 (code, 0, 0, ()) := ⟨rfl, Int.le_refl _, Int.le_refl _⟩
theorem p_DrawVarintOf {code : List Int} (hb : isBytes code) : ∃ x, c_spec_DrawVarintOf M code = some ((x, ()), ()) ∧ -300 ≤ x ∧ x ≤ 1073741824 := by
  obtain ⟨x, c', n1, n2, n3, _⟩ := p_number hb (by omega) (cu0 code)
  refine ⟨x, e_spec_DrawVarintOf _ ?_, n2, n3⟩
  simp only [q_spec_DrawVarintOf, n1, Option.bind_some]

theorem p_bytes_loop {code : List Int} (hb : isBytes code) : ∀ (k : Nat) (j : Int) (c : TCur) (out : List Int), k + out.length ≤ 1000 → j + k ≤ 100000000 → Cu code j c → ∃ c' o, l_spec_l1Cur_bytes_58 M c out k = some (.inl (c', o, ())) ∧ o.length = out.length + k ∧ Cu code (j + k) c' := by
  intro k
  induction k with
  | zero =>
    intro j c out _ _ hc
    refine ⟨c, out, el_spec_l1Cur_bytes_58 _ _ _ ?_, by omega, by simpa using hc⟩
    simp [ql_spec_l1Cur_bytes_58, cur_eta]
  | succ k ih =>
    intro j c out hk hj hc
    obtain ⟨x, c', n1, _, _, n4⟩ := p_next hb (by omega) hc
    obtain ⟨c'', o, m1, m2, m3⟩ := ih (j + 1) c' (out ++ [IntKind.u8.wrap x]) (by simp; omega) (by omega) n4
    refine ⟨c'', o, el_spec_l1Cur_bytes_58 _ _ _ ?_, by rw [m2]; simp; omega, m3.1, m3.2.1, by have := m3.2.2; omega⟩
    simp only [ql_spec_l1Cur_bytes_58]
    rw [if_pos (by simp <;> omega), cur_eta, n1]
    simp only [Option.bind_some]
    rw [if_pos (by simp; omega), w64 (x := ((k + 1 : Nat) : Int) - 1) (by omega) (by omega), show ((k + 1 : Nat) : Int) - 1 = (k : Int) by omega, cur_eta]
    exact m1
theorem p_bytes {code : List Int} (hb : isBytes code) {j : Int} (hj : j ≤ 1000000) {c : TCur} (hc : Cu code j c) : ∃ (s : List UInt8) (c' : TCur), c_spec_l1Cur_bytes M c = some ((s, ()), (c', ())) ∧ s.length ≤ 8 ∧ Cu code (j + 10) c' := by
  obtain ⟨x, c', n1, n2, n3, n4⟩ := p_pick hb (by omega) hc 8 (by omega)
  obtain ⟨k, rfl⟩ : ∃ m : Nat, x = (m : Int) := ⟨x.toNat, by omega⟩
  obtain ⟨c'', o, m1, m2, m3⟩ := p_bytes_loop hb k (j + 2) c' [] (by simp; omega) (by omega) n4
  refine ⟨bytesStr o, c'', e_spec_l1Cur_bytes _ ?_, by rw [bytesStr_len, m2]; simp; omega, m3.1, m3.2.1, by have := m3.2.2; omega⟩
  simp only [q_spec_l1Cur_bytes, cur_eta, n1, Option.bind_some, m1, Sum.elim_inl]

theorem p_list_loop {code : List Int} (hb : isBytes code) : ∀ (k : Nat) (j : Int) (c : TCur) (out : List Int), k + out.length ≤ 1000 → j + 6 * k ≤ 1000000 → Cu code j c → ∃ c' o, l_spec_l1Cur_list_58 M c out k = some (.inl (c', o, ())) ∧ o.length = out.length + k ∧ Cu code (j + 6 * k) c' := by
  intro k
  induction k with
  | zero =>
    intro j c out _ _ hc
    refine ⟨c, out, el_spec_l1Cur_list_58 _ _ _ ?_, by omega, by simpa using hc⟩
    simp [ql_spec_l1Cur_list_58, cur_eta]
  | succ k ih =>
    intro j c out hk hj hc
    obtain ⟨x, c1, n1, x1, x2, n4⟩ := p_number hb (by omega) hc
    obtain ⟨b, c2, o1, o2⟩ := p_one hb (by omega) n4 2 (by omega)
    have hw : IntKind.i64.wrap (((k + 1 : Nat) : Int) - 1) = (k : Int) := by rw [w64 (by omega) (by omega)]; omega
    cases b with
    | false =>
      obtain ⟨c'', o, m1, m2, m3⟩ := ih (j + 6) c2 (out ++ [x]) (by simp; omega) (by omega) ⟨o2.1, o2.2.1, by have := o2.2.2; omega⟩
      refine ⟨c'', o, el_spec_l1Cur_list_58 _ _ _ ?_, by rw [m2]; simp; omega, m3.1, m3.2.1, by have := m3.2.2; omega⟩
      simp only [ql_spec_l1Cur_list_58]
      rw [if_pos (by simp <;> omega)]
      simp only [cur_eta, n1, Option.bind_some, o1, Bool.false_eq_true, if_false, Sum.elim_inl, hw]
      rw [if_pos (by simp; omega)]
      exact m1
    | true =>
      obtain ⟨y, c3, p1, p2, p3, p4⟩ := p_pick hb (by omega) o2 20 (by omega)
      obtain ⟨c'', o, m1, m2, m3⟩ := ih (j + 6) c3 (out ++ [IntKind.i64.wrap (y - 5)]) (by simp; omega) (by omega) ⟨p4.1, p4.2.1, by have := p4.2.2; omega⟩
      refine ⟨c'', o, el_spec_l1Cur_list_58 _ _ _ ?_, by rw [m2]; simp; omega, m3.1, m3.2.1, by have := m3.2.2; omega⟩
      simp only [ql_spec_l1Cur_list_58]
      rw [if_pos (by simp <;> omega)]
      simp only [cur_eta, n1, Option.bind_some, o1, if_true, p1, Sum.elim_inl, hw]
      rw [if_pos (by simp; omega)]
      exact m1
theorem p_list {code : List Int} (hb : isBytes code) {j : Int} (hj : j ≤ 100000) {c : TCur} (hc : Cu code j c) : ∃ (l : List Int) (c' : TCur), c_spec_l1Cur_list M c = some ((l, ()), (c', ())) ∧ l.length ≤ 1000 ∧ Cu code (j + 100) c' := by
  obtain ⟨x, c', n1, n2, n3, n4⟩ := p_pick hb (by omega) hc 6 (by omega)
  obtain ⟨k, rfl⟩ : ∃ m : Nat, x = (m : Int) := ⟨x.toNat, by omega⟩
  obtain ⟨c2, o, m1, m2, m3⟩ := p_list_loop hb k (j + 2) c' [] (by simp; omega) (by omega) n4
  obtain ⟨b, c3, o1, o2⟩ := p_one hb (by omega) m3 30 (by omega)
  cases b with
  | false =>
    refine ⟨o, c3, e_spec_l1Cur_list _ ?_, by rw [m2]; simp; omega, o2.1, o2.2.1, by have := o2.2.2; omega⟩
    simp only [q_spec_l1Cur_list, cur_eta, n1, Option.bind_some, m1, Sum.elim_inl, o1, Bool.false_eq_true, if_false]
  | true =>
    obtain ⟨y, c4, p1, p2, p3, p4⟩ := p_pick hb (by omega) o2 2 (by omega)
    have hw : IntKind.i64.wrap (200 + y) = 200 + y := w64 (by omega) (by omega)
    refine ⟨List.replicate (200 + y).toNat 0, c4, e_spec_l1Cur_list _ ?_, by simp; omega, p4.1, p4.2.1, by have := p4.2.2; omega⟩
    simp only [q_spec_l1Cur_list, cur_eta, n1, Option.bind_some, m1, Sum.elim_inl, o1, if_true, p1, hw]
    rw [if_pos ⟨by omega, by omega, trivial⟩]
    rfl
theorem p_DrawListBytes {code : List Int} (hb : isBytes code) : ∃ l : List Int, c_spec_DrawListBytes M code = some ((l, ()), ()) ∧ l.length ≤ 1000 := by
  obtain ⟨l, c', n1, n2, _⟩ := p_list hb (by omega) (cu0 code)
  refine ⟨l, e_spec_DrawListBytes _ ?_, n2⟩
  simp only [q_spec_DrawListBytes, n1, Option.bind_some]

theorem p_DrawReadVarint {code : List Int} (hb : isBytes code) : ∃ (s : List UInt8) (m : Nat), c_spec_DrawReadVarint M code = some ((s, (m : Int), ()), ()) ∧ s.length ≤ 1000 ∧ m ≤ s.length := by
  obtain ⟨s, c1, n1, n2, n3⟩ := p_bytes hb (by omega) (cu0 code)
  have hw : IntKind.i64.wrap ((s.length : Int) + 1) = (s.length : Int) + 1 := w64 (by omega) (by omega)
  obtain ⟨x, c2, p1, p2, p3, p4⟩ := p_pick hb (by omega) n3 ((s.length : Int) + 1) (by omega)
  obtain ⟨m, rfl⟩ : ∃ m : Nat, x = (m : Int) := ⟨x.toNat, by omega⟩
  obtain ⟨v, c3, v1, v2, v3, v4⟩ := p_number hb (by omega) p4
  have hm : m ≤ s.length := by omega
  cases hv : vOK v with
  | false =>
    refine ⟨s, m, e_spec_DrawReadVarint _ ?_, by omega, hm⟩
    simp only [q_spec_DrawReadVarint, n1, Option.bind_some, cur_eta, hw, p1, v1, p_spec_VarintOf, hv, Bool.false_eq_true, if_false]
  | true =>
    obtain ⟨b, c4, o1, o2⟩ := p_one hb (by omega) v4 2 (by omega)
    have hl : (vOf v).length ≤ 5 := by
      have := vOK_iff.1 hv
      rw [vOf, if_pos hv]
      exact enc_len 4 _ (by omega)
    cases b with
    | false =>
      refine ⟨s, m, e_spec_DrawReadVarint _ ?_, by omega, hm⟩
      simp only [q_spec_DrawReadVarint, n1, Option.bind_some, cur_eta, hw, p1, v1, p_spec_VarintOf, hv, if_true, o1, Bool.false_eq_true, if_false]
    | true =>
      refine ⟨s.take m ++ vOf v ++ s.drop m, m, e_spec_DrawReadVarint _ ?_, by simp; omega, by simp; omega⟩
      simp only [q_spec_DrawReadVarint, n1, Option.bind_some, cur_eta, hw, p1, v1, p_spec_VarintOf, hv, if_true, o1, Int.toNat_natCast, Int.toNat_zero, List.drop_zero, List.take_length]
      rw [if_pos (by omega), if_pos (by simp; omega), if_pos (by omega), if_pos (by simp; omega)]

theorem p_spoilt_loop {code : List Int} (hb : isBytes code) (w : List UInt8) (hw0 : 0 < w.length) (hw1 : w.length ≤ 1000) : ∀ (k : Nat) (j : Int) (c : TCur) (t : List UInt8), k ≤ 1000 → t.length + k ≤ 1000000 → j + 6 * k ≤ 1000000 → Cu code j c → ∃ c' t', l_spec_l1Cur_spoilt_26 M c t w k = some (.inl (c', t', ())) ∧ t'.length ≤ t.length + k ∧ Cu code (j + 6 * k) c' := by
  intro k
  induction k with
  | zero =>
    intro j c t _ _ _ hc
    refine ⟨c, t, el_spec_l1Cur_spoilt_26 _ _ _ _ ?_, by omega, by simpa using hc⟩
    simp [ql_spec_l1Cur_spoilt_26, cur_eta]
  | succ k ih =>
    intro j c t hk ht hj hc
    by_cases ht0 : 0 < t.length
    · obtain ⟨x, c1, n1, n2, n3, n4⟩ := p_pick hb (by omega) hc t.length (by omega)
      obtain ⟨i, rfl⟩ : ∃ m : Nat, x = (m : Int) := ⟨x.toNat, by omega⟩
      have hi : i < t.length := by omega
      obtain ⟨y, c2, m1, m2, m3, m4⟩ := p_pick hb (by omega) n4 w.length (by omega)
      obtain ⟨q, rfl⟩ : ∃ m : Nat, y = (m : Int) := ⟨y.toNat, by omega⟩
      have hq : q < w.length := by omega
      obtain ⟨z, c3, p1, p2, p3, p4⟩ := p_pick hb (by omega) m4 3 (by omega)
      have hwk : IntKind.i64.wrap (((k + 1 : Nat) : Int) - 1) = (k : Int) := by rw [w64 (by omega) (by omega)]; omega
      have hwi : IntKind.i64.wrap ((i : Int) + 1) = ((i + 1 : Nat) : Int) := inc_nat (by omega)
      have hwz : bytesStr [((w[q]).toNat : Int)] = [w[q]] := by simp [bytesStr]
      have fin : ∀ t' : List UInt8, t'.length ≤ t.length + 1 → ∃ c' t'', l_spec_l1Cur_spoilt_26 M c3 t' w k = some (.inl (c', t'', ())) ∧ t''.length ≤ t.length + (k + 1) ∧ Cu code (j + 6 * ((k + 1 : Nat) : Int)) c' := by
        intro t' ht'
        obtain ⟨c', t'', g1, g2, g3⟩ := ih (j + 6) c3 t' (by omega) (by omega) (by omega) ⟨p4.1, p4.2.1, by have := p4.2.2; omega⟩
        exact ⟨c', t'', g1, by omega, g3.1, g3.2.1, by have := g3.2.2; omega⟩
      by_cases z0 : z = 0
      · obtain ⟨c', t'', g1, g2, g3⟩ := fin (t.take i ++ [w[q]] ++ t.drop i) (by simp; omega)
        refine ⟨c', t'', el_spec_l1Cur_spoilt_26 _ _ _ _ ?_, g2, g3⟩
        simp only [ql_spec_l1Cur_spoilt_26]
        rw [if_pos (by simp <;> omega), if_pos (by simpa using ht0)]
        simp only [cur_eta, n1, Option.bind_some, m1, idx_lt hq, p1, z0, beq_self_eq_true, if_true, Int.toNat_natCast, Int.toNat_zero, List.drop_zero, List.take_length, hwz]
        rw [if_pos (by omega), if_pos (by simp; omega), if_pos (by omega), if_pos (by simp; omega)]
        simp only [Option.bind_some, Sum.elim_inl, cur_eta, hwk]
        exact g1
      · by_cases z1 : z = 1
        · obtain ⟨c', t'', g1, g2, g3⟩ := fin (t.take i ++ [w[q]] ++ t.drop (i + 1)) (by simp; omega)
          refine ⟨c', t'', el_spec_l1Cur_spoilt_26 _ _ _ _ ?_, g2, g3⟩
          simp only [ql_spec_l1Cur_spoilt_26]
          rw [if_pos (by simp <;> omega), if_pos (by simpa using ht0)]
          simp only [cur_eta, n1, Option.bind_some, m1, idx_lt hq, p1]
          rw [if_neg (by simpa using z0), if_pos (by simpa using z1)]
          simp only [Int.toNat_natCast, Int.toNat_zero, List.drop_zero, List.take_length, hwz, hwi]
          rw [if_pos (by omega), if_pos (by simp; omega), if_pos (by omega), if_pos (by simp; omega)]
          simp only [Option.bind_some, Sum.elim_inl, cur_eta, hwk]
          exact g1
        · obtain ⟨c', t'', g1, g2, g3⟩ := fin (t.take i ++ t.drop (i + 1)) (by simp; omega)
          refine ⟨c', t'', el_spec_l1Cur_spoilt_26 _ _ _ _ ?_, g2, g3⟩
          simp only [ql_spec_l1Cur_spoilt_26]
          rw [if_pos (by simp <;> omega), if_pos (by simpa using ht0)]
          simp only [cur_eta, n1, Option.bind_some, m1, idx_lt hq, p1]
          rw [if_neg (by simpa using z0), if_neg (by simpa using z1)]
          simp only [Int.toNat_natCast, Int.toNat_zero, List.drop_zero, List.take_length, hwz, hwi]
          rw [if_pos (by omega), if_pos (by omega), if_pos (by simp; omega)]
          simp only [Option.bind_some, Sum.elim_inl, cur_eta, hwk]
          exact g1
    · refine ⟨c, t, el_spec_l1Cur_spoilt_26 _ _ _ _ ?_, by omega, hc.1, hc.2.1, by have := hc.2.2; omega⟩
      simp only [ql_spec_l1Cur_spoilt_26]
      rw [if_pos (by simp <;> omega), if_neg (by simpa using ht0), cur_eta]
theorem p_spoilt {code : List Int} (hb : isBytes code) {j : Int} (hj : j ≤ 100000) {c : TCur} (hc : Cu code j c) (t w : List UInt8) (hw0 : 0 < w.length) (hw1 : w.length ≤ 1000) (ht : t.length ≤ 100000) : ∃ (t' : List UInt8) (c' : TCur), c_spec_l1Cur_spoilt M c t w = some ((t', ()), (c', ())) ∧ t'.length ≤ t.length + 2 ∧ Cu code (j + 20) c' := by
  obtain ⟨x, c1, n1, n2, n3, n4⟩ := p_pick hb (by omega) hc 2 (by omega)
  obtain ⟨m, rfl⟩ : ∃ m : Nat, x = (m : Int) := ⟨x.toNat, by omega⟩
  have hw : IntKind.i64.wrap (1 + (m : Int)) = ((m + 1 : Nat) : Int) := by rw [w64 (by omega) (by omega)]; omega
  obtain ⟨c', t', g1, g2, g3⟩ := p_spoilt_loop hb w hw0 hw1 (m + 1) (j + 2) c1 t (by omega) (by omega) (by omega) n4
  refine ⟨t', c', e_spec_l1Cur_spoilt _ _ _ ?_, by omega, g3.1, g3.2.1, by have := g3.2.2; omega⟩
  simp only [q_spec_l1Cur_spoilt, cur_eta, n1, Option.bind_some, hw, g1, Sum.elim_inl]

theorem LB_len (l : List Int) (h : LOK l = true) : (LB l).length ≤ 1005 := by
  simp only [LOK, Bool.and_eq_true, decide_eq_true_eq] at h
  have h1 := enc_len 4 l.length (by omega)
  have h2 := lb_len l 0 h.2
  simp only [LB, List.length_append]
  omega

theorem p_DrawReadList {code : List Int} (hb : isBytes code) : ∃ (s : List UInt8) (m : Nat), c_spec_DrawReadList M code = some ((s, (m : Int), ()), ()) ∧ s.length ≤ 10000 ∧ m ≤ 1 := by
  obtain ⟨l, c1, n1, n2, n3⟩ := p_list hb (by omega) (cu0 code)
  have hLB := p_spec_ListBytes l (by omega)
  generalize hs0 : (if LOK l = true then LB l else []) = s0 at hLB
  have hs0l : s0.length ≤ 1005 := by
    rw [← hs0]
    split
    · rename_i h; exact LB_len l h
    · simp
  obtain ⟨b, c2, o1, o2⟩ := p_one hb (by omega) n3 4 (by omega)
  have fin : ∀ (s1 : List UInt8) (c3 : TCur) (j : Int), s1.length ≤ 1100 → j ≤ 1000 → Cu code j c3 → ∃ (s : List UInt8) (m : Nat), ((c_spec_l1Cur_bytes M c3).bind fun r6 => (if List.length s1 + List.length r6.1.1 ≤ 4611686018427387904 then ((c_spec_l1Cur_pick M (r6.2.1.1, r6.2.1.2.1, r6.2.1.2.2.1, ()) (20 : Int)).bind fun r7 => (if (19 : Int) = 0 then none else (some (((s1 ++ r6.1.1), (IntKind.i64.wrap (Int.tdiv r7.1.1 (19 : Int))), ()), ())))) else none)) = some ((s, (m : Int), ()), ()) ∧ s.length ≤ 10000 ∧ m ≤ 1 := by
    intro s1 c3 j hs1 hj hc3
    obtain ⟨s2, c4, b1, b2, b3⟩ := p_bytes hb (by omega) hc3
    obtain ⟨x, c5, p1, p2, p3, p4⟩ := p_pick hb (by omega) b3 20 (by omega)
    obtain ⟨m, rfl⟩ : ∃ m : Nat, x = (m : Int) := ⟨x.toNat, by omega⟩
    refine ⟨s1 ++ s2, m / 19, ?_, by simp; omega, by omega⟩
    rw [b1]
    simp only [Option.bind_some]
    rw [if_pos (by omega), cur_eta, p1]
    simp only [Option.bind_some]
    have e : Int.tdiv (m : Int) 19 = ((m / 19 : Nat) : Int) := rfl
    rw [if_neg (by omega), e, w64 (by omega) (by omega)]
  cases b with
  | false =>
    obtain ⟨s, m, g1, g2, g3⟩ := fin s0 c2 200 (by omega) (by omega) ⟨o2.1, o2.2.1, by have := o2.2.2; omega⟩
    refine ⟨s, m, e_spec_DrawReadList _ ?_, g2, g3⟩
    simp only [q_spec_DrawReadList, n1, Option.bind_some, hLB, cur_eta, o1, Bool.false_eq_true, if_false, Sum.elim_inl]
    exact g1
  | true =>
    obtain ⟨t, c3, t1, t2, t3⟩ := p_spoilt hb (by omega) o2 s0 [0, 129, 5] (by simp) (by simp) (by omega)
    obtain ⟨s, m, g1, g2, g3⟩ := fin t c3 300 (by omega) (by omega) ⟨t3.1, t3.2.1, by have := t3.2.2; omega⟩
    refine ⟨s, m, e_spec_DrawReadList _ ?_, g2, g3⟩
    simp only [q_spec_DrawReadList, n1, Option.bind_some, hLB, cur_eta, o1, if_true, t1, Sum.elim_inl]
    exact g1

/-! ### The law -/
theorem p_spec_ReadVarint (s : List UInt8) (hs : s.length ≤ 100000) (m : Nat) (hm : m ≤ s.length) : c_spec_ReadVarint M s m = c_impl_ReadVarint M s m := by
  rw [p_ReadVarint s hs m (by omega)]
  have hT : c_spec_l10Text M s = some ((true, ()), ()) := e_spec_l10Text _ (by simp only [q_spec_l10Text]; simp; omega)
  apply e_spec_ReadVarint
  simp only [q_spec_ReadVarint, hT, Option.bind_some, p_l1In, p_l10Read s hs m hm]
  rw [if_neg (by simp), if_neg (by simp; omega)]
theorem p_spec_ReadList (s : List UInt8) (hs : s.length ≤ 100000) (m : Nat) (hm : m ≤ 1000000) : c_spec_ReadList M s m = some (ansL (rA s m)) := by
  have hT : c_spec_l10Text M s = some ((true, ()), ()) := e_spec_l10Text _ (by simp only [q_spec_l10Text]; simp; omega)
  apply e_spec_ReadList
  simp only [q_spec_ReadList, hT, Option.bind_some, p_l1In]
  rw [if_neg (by simp)]
  by_cases h : m ≤ s.length
  · rw [if_neg (by simp; omega), p_l10ReadList s hs m h]
    rfl
  · rw [if_pos (by simp; omega)]
    have : rA s m = none := by
      simp only [rA, rV]
      rw [List.drop_eq_nil_of_le (by omega)]
      rfl
    rw [this]; rfl

theorem rL_len (s : List UInt8) : ∀ (m at0 : Nat) (last : Int) (l : List Int) (r : List Int) (p : Nat), rL s m at0 last l = some (r, p) → r.length = l.length + m := by
  intro m
  induction m with
  | zero =>
    intro at0 last l r p h
    simp only [rL, Option.some.injEq, Prod.mk.injEq] at h
    rw [← h.1]; rfl
  | succ m ih =>
    intro at0 last l r p h
    simp only [rL] at h
    split at h
    · cases h
    · split at h
      · cases h
      · split at h
        · have := ih _ _ _ _ _ h
          simp at this; omega
        · cases h
theorem rA_len {s : List UInt8} {at0 : Nat} : (ansL (rA s at0)).1.1.length ≤ 1000 := by
  cases h : rA s at0 with
  | none => simp [ansL]
  | some x =>
    obtain ⟨l, p⟩ := x
    simp only [rA] at h
    split at h
    · cases h
    · split at h
      · cases h
      · have := rL_len s _ _ _ _ _ _ h
        simp [ansL] at this ⊢; omega

theorem p_FnVarints (a b : List Int) (ha : ∀ x ∈ a, 0 ≤ x ∧ x ≤ 255) (hb : ∀ x ∈ b, 0 ≤ x ∧ x ≤ 255) (la : a.length ≤ 9223372036854775807) (lb0 : b.length ≤ 9223372036854775807) : c_laws_FnVarints M a b = some ((true, ()), ()) := by
  have hbig : ∃ g : Bool, c_laws_big M a b = some ((g, ()), ()) ∧ (g = false → a.length ≤ 1048576 ∧ b.length ≤ 1048576) := by
    by_cases h1 : (a.length : Int) > 1048576
    · exact ⟨true, e_laws_big _ _ (by simp only [q_laws_big]; rw [if_pos (by simpa using h1)]), by simp⟩
    · refine ⟨decide ((b.length : Int) > 1048576 - a.length), e_laws_big _ _ ?_, fun h => by simp at h; omega⟩
      simp only [q_laws_big]
      rw [if_neg (by simpa using h1), w64 (by omega) (by omega)]
  obtain ⟨g, g1, g2⟩ := hbig
  cases g with
  | true =>
    apply e_laws_FnVarints
    simp only [q_laws_FnVarints, g1, Option.bind_some, if_true]
  | false =>
    obtain ⟨la', lb'⟩ := g2 rfl
    have hba : isBytes a := ⟨la', ha⟩
    have hbb : isBytes b := ⟨lb', hb⟩
    obtain ⟨n, n1, n2, n3⟩ := p_DrawVarintOf hba
    obtain ⟨l, l1, l2⟩ := p_DrawListBytes hbb
    obtain ⟨s, m, s1, s2, s3⟩ := p_DrawReadVarint hbb
    obtain ⟨t, k, t1, t2, t3⟩ := p_DrawReadList hbb
    obtain ⟨u, u1, u2, u3⟩ := p_DrawVarintOf hbb
    have u1' : c_spec_DrawUnZig M b = some ((u, ()), ()) := e_spec_DrawUnZig _ (by simp only [q_spec_DrawUnZig, u1, Option.bind_some])
    have hR1 := p_spec_ReadVarint s (by omega) m s3
    have hR2 := p_ReadVarint s (by omega) m (by omega)
    rw [hR2] at hR1
    have hL1 := p_spec_ReadList t (by omega) k (by omega)
    have hL2 := p_impl_ReadList t (by omega) k (by omega)
    have hsame := p_sameInts (ansL (rA t k)).1.1 (by have := rA_len (s := t) (at0 := k); omega)
    have hLs := p_spec_ListBytes l (by omega)
    have hLi := p_impl_ListBytes l (by omega)
    have hsl := p_sameInts l (by omega)
    have hV : vOK n = true → c_impl_ReadVarint M ([97, 98] ++ vOf n ++ [99]) 2 = some ((n, 2 + ((vOf n).length : Int), true, ()), ()) := by
      intro hv
      have hn := vOK_iff.1 hv
      have hvo : vOf n = enc n.toNat := by rw [vOf, if_pos hv]
      have hl5 := enc_len 4 n.toNat (by omega)
      have h1 := p_ReadVarint ([97, 98] ++ vOf n ++ [99]) (by rw [hvo]; simp; omega) 2 (by omega)
      have h2 := rV_enc (s := [97, 98] ++ vOf n ++ [99]) (pre := [97, 98]) (post := [99]) (n := n.toNat) (by omega) (by rw [hvo]; simp)
      rw [show ([97, 98] : List UInt8).length = 2 from rfl] at h2
      rw [h2] at h1
      rw [show ((2 : Nat) : Int) = 2 from rfl] at h1
      rw [h1, hvo]
      simp only [ans]
      rw [show ((n.toNat : Nat) : Int) = n by omega, show ((2 + (enc n.toNat).length : Nat) : Int) = 2 + ((enc n.toNat).length : Int) by omega]
    have hvl : (vOf n).length ≤ 5 := by
      by_cases hv : vOK n = true
      · have := vOK_iff.1 hv
        rw [vOf, if_pos hv]
        exact enc_len 4 _ (by omega)
      · rw [vOf, if_neg hv]; simp
    have hZ : zOK n = true → c_impl_UnZig M (zig n : Int) = some ((n, true, ()), ()) := by
      intro hz
      have h1 := zig_le hz
      have h2 : uOK (zig n : Int) = true := uOK_iff.2 ⟨by omega, by omega⟩
      have := p_impl_UnZig (zig n : Int)
      rw [h2, if_pos rfl, Int.toNat_natCast, unz_zig] at this
      exact this
    have hB : LOK l = true → c_impl_ReadList M (LB l ++ [122]) 0 = some ((l, ((LB l).length : Int), true, ()), ()) := by
      intro ho
      have h1 := LB_len l ho
      have h2 := p_impl_ReadList (LB l ++ [122]) (by simp; omega) 0 (by omega)
      rw [rA_LB l [122] ho] at h2
      exact h2
    have hw2 : IntKind.i64.wrap (2 + ((vOf n).length : Int)) = 2 + ((vOf n).length : Int) := w64 (by omega) (by omega)
    have T3 : ∀ q14 : List Int × Unit, q14.1 = b → ((c_spec_DrawReadVarint M q14.1).bind fun r17 => ((c_impl_ReadVarint M r17.1.1 r17.1.2.1).bind fun r18 => ((c_spec_ReadVarint M r17.1.1 r17.1.2.1).bind fun r19 => ((c_spec_DrawReadList M q14.1).bind fun r20 => ((c_impl_ReadList M r20.1.1 r20.1.2.1).bind fun r21 => ((c_spec_ReadList M r20.1.1 r20.1.2.1).bind fun r22 => ((c_spec_DrawUnZig M q14.1).bind fun r23 => ((c_impl_UnZig M r23.1.1).bind fun r24 => ((c_spec_UnZig M r23.1.1).bind fun r25 => (if (r18.1.2.2.1 == r19.1.2.2.1) = true then (if (r18.1.1 == r19.1.1) = true then (if (r18.1.2.1 == r19.1.2.1) = true then (if (r21.1.2.2.1 == r22.1.2.2.1) = true then ((c_laws_sameInts M r21.1.1 r22.1.1).bind fun r26 => (if r26.1.1 = true then (if (r21.1.2.1 == r22.1.2.1) = true then (if (r24.1.2.1 == r25.1.2.1) = true then (some (((r24.1.1 == r25.1.1), ()), ())) else (some ((false, ()), ()))) else (some ((false, ()), ()))) else (some ((false, ()), ())))) else (some ((false, ()), ()))) else (some ((false, ()), ()))) else (some ((false, ()), ()))) else (some ((false, ()), ())))))))))))) = some ((true, ()), ()) := by
      intro q14 hq
      simp only [hq, s1, Option.bind_some, hR2, hR1, t1, hL2, hL1, u1', p_impl_UnZig u, p_spec_UnZig u, beq_self_eq_true, if_true, hsame]
    have T2 : ∀ q9 : List Int × Unit, q9.1 = b → ((c_spec_DrawListBytes M q9.1).bind fun r11 => ((c_impl_ListBytes M r11.1.1).bind fun r12 => ((c_spec_ListBytes M r11.1.1).bind fun r13 => (if (!(r12.1.2.1 == r13.1.2.1)) = true then (some ((false, ()), ())) else (if (!(r12.1.1 == r13.1.1)) = true then (some ((false, ()), ())) else (((if r12.1.2.1 = true then (if List.length r12.1.1 + List.length ([122] : List UInt8) ≤ 4611686018427387904 then ((c_impl_ReadList M (r12.1.1 ++ ([122] : List UInt8)) (0 : Int)).bind fun r15 => (if (!r15.1.2.2.1) = true then ((some ((false, ()), ())).map .inr) else ((c_laws_sameInts M r15.1.1 r11.1.1).bind fun r16 => (if (!r16.1.1) = true then ((some ((false, ()), ())).map .inr) else (if (r15.1.2.1 != (List.length r12.1.1 : Int)) = true then ((some ((false, ()), ())).map .inr) else (some (.inl (q9.1, ())))))))) else none) else (some (.inl (q9.1, ())))) : Option (((List Int) × Unit) ⊕ (Bool × Unit) × (Unit))).bind (Sum.elim (fun q14 => ((c_spec_DrawReadVarint M q14.1).bind fun r17 => ((c_impl_ReadVarint M r17.1.1 r17.1.2.1).bind fun r18 => ((c_spec_ReadVarint M r17.1.1 r17.1.2.1).bind fun r19 => ((c_spec_DrawReadList M q14.1).bind fun r20 => ((c_impl_ReadList M r20.1.1 r20.1.2.1).bind fun r21 => ((c_spec_ReadList M r20.1.1 r20.1.2.1).bind fun r22 => ((c_spec_DrawUnZig M q14.1).bind fun r23 => ((c_impl_UnZig M r23.1.1).bind fun r24 => ((c_spec_UnZig M r23.1.1).bind fun r25 => (if (r18.1.2.2.1 == r19.1.2.2.1) = true then (if (r18.1.1 == r19.1.1) = true then (if (r18.1.2.1 == r19.1.2.1) = true then (if (r21.1.2.2.1 == r22.1.2.2.1) = true then ((c_laws_sameInts M r21.1.1 r22.1.1).bind fun r26 => (if r26.1.1 = true then (if (r21.1.2.1 == r22.1.2.1) = true then (if (r24.1.2.1 == r25.1.2.1) = true then (some (((r24.1.1 == r25.1.1), ()), ())) else (some ((false, ()), ()))) else (some ((false, ()), ()))) else (some ((false, ()), ())))) else (some ((false, ()), ()))) else (some ((false, ()), ()))) else (some ((false, ()), ()))) else (some ((false, ()), ()))))))))))))) (fun r => some r)))))))) = some ((true, ()), ()) := by
      intro q9 hq
      cases ho : LOK l with
      | false =>
        have hLs' : c_spec_ListBytes M l = some (([], false, ()), ()) := by rw [hLs, ho]; rfl
        have hLi' : c_impl_ListBytes M l = some (([], false, ()), ()) := by rw [hLi, ho]; rfl
        rw [hq, l1]
        simp only [Option.bind_some]
        rw [hLi', hLs']
        simp only [Option.bind_some, beq_self_eq_true, Bool.not_true, Bool.false_eq_true, if_false, Sum.elim_inl]
        exact T3 (b, ()) rfl
      | true =>
        have hLs' : c_spec_ListBytes M l = some ((LB l, true, ()), ()) := by rw [hLs, ho]; rfl
        have hLi' : c_impl_ListBytes M l = some ((LB l, true, ()), ()) := by rw [hLi, ho]; rfl
        have hLBl := LB_len l ho
        rw [hq, l1]
        simp only [Option.bind_some]
        rw [hLi', hLs']
        simp only [Option.bind_some, beq_self_eq_true, Bool.not_true, Bool.false_eq_true, if_false, if_true, hB ho, hsl, bne_self_eq_false]
        rw [if_pos (by simp; omega)]
        simp only [Option.bind_some, Sum.elim_inl]
        exact T3 (b, ()) rfl
    have T1 : ∀ q7 : List Int × Int × Int × Bool × Unit, q7 = (b, n, (if zOK n = true then (zig n : Int) else 0), zOK n, ()) → (((if q7.2.2.2.1 = true then ((c_impl_UnZig M q7.2.2.1).bind fun r10 => (if (!r10.1.2.1) = true then ((some ((false, ()), ())).map .inr) else (if (r10.1.1 != q7.2.1) = true then ((some ((false, ()), ())).map .inr) else (some (.inl (q7.1, ())))))) else (some (.inl (q7.1, ())))) : Option (((List Int) × Unit) ⊕ (Bool × Unit) × (Unit))).bind (Sum.elim (fun q9 => ((c_spec_DrawListBytes M q9.1).bind fun r11 => ((c_impl_ListBytes M r11.1.1).bind fun r12 => ((c_spec_ListBytes M r11.1.1).bind fun r13 => (if (!(r12.1.2.1 == r13.1.2.1)) = true then (some ((false, ()), ())) else (if (!(r12.1.1 == r13.1.1)) = true then (some ((false, ()), ())) else (((if r12.1.2.1 = true then (if List.length r12.1.1 + List.length ([122] : List UInt8) ≤ 4611686018427387904 then ((c_impl_ReadList M (r12.1.1 ++ ([122] : List UInt8)) (0 : Int)).bind fun r15 => (if (!r15.1.2.2.1) = true then ((some ((false, ()), ())).map .inr) else ((c_laws_sameInts M r15.1.1 r11.1.1).bind fun r16 => (if (!r16.1.1) = true then ((some ((false, ()), ())).map .inr) else (if (r15.1.2.1 != (List.length r12.1.1 : Int)) = true then ((some ((false, ()), ())).map .inr) else (some (.inl (q9.1, ())))))))) else none) else (some (.inl (q9.1, ())))) : Option (((List Int) × Unit) ⊕ (Bool × Unit) × (Unit))).bind (Sum.elim (fun q14 => ((c_spec_DrawReadVarint M q14.1).bind fun r17 => ((c_impl_ReadVarint M r17.1.1 r17.1.2.1).bind fun r18 => ((c_spec_ReadVarint M r17.1.1 r17.1.2.1).bind fun r19 => ((c_spec_DrawReadList M q14.1).bind fun r20 => ((c_impl_ReadList M r20.1.1 r20.1.2.1).bind fun r21 => ((c_spec_ReadList M r20.1.1 r20.1.2.1).bind fun r22 => ((c_spec_DrawUnZig M q14.1).bind fun r23 => ((c_impl_UnZig M r23.1.1).bind fun r24 => ((c_spec_UnZig M r23.1.1).bind fun r25 => (if (r18.1.2.2.1 == r19.1.2.2.1) = true then (if (r18.1.1 == r19.1.1) = true then (if (r18.1.2.1 == r19.1.2.1) = true then (if (r21.1.2.2.1 == r22.1.2.2.1) = true then ((c_laws_sameInts M r21.1.1 r22.1.1).bind fun r26 => (if r26.1.1 = true then (if (r21.1.2.1 == r22.1.2.1) = true then (if (r24.1.2.1 == r25.1.2.1) = true then (some (((r24.1.1 == r25.1.1), ()), ())) else (some ((false, ()), ()))) else (some ((false, ()), ()))) else (some ((false, ()), ())))) else (some ((false, ()), ()))) else (some ((false, ()), ()))) else (some ((false, ()), ()))) else (some ((false, ()), ()))))))))))))) (fun r => some r))))))))) (fun r => some r))) = some ((true, ()), ()) := by
      intro q7 hq
      subst hq
      cases hz : zOK n with
      | false =>
        simp only [Bool.false_eq_true, if_false, Option.bind_some, Sum.elim_inl]
        exact T2 (b, ()) rfl
      | true =>
        simp only [if_true, hZ hz, Option.bind_some, Bool.not_true, bne_self_eq_false, Bool.false_eq_true, if_false, Sum.elim_inl]
        exact T2 (b, ()) rfl
    apply e_laws_FnVarints
    simp only [q_laws_FnVarints, g1, Option.bind_some, Bool.false_eq_true, if_false, n1, p_impl_VarintOf, p_spec_VarintOf, p_impl_ZigOf, p_spec_ZigOf, beq_self_eq_true, Bool.not_true, bne_self_eq_false]
    cases hv : vOK n with
    | false =>
      simp only [Bool.false_eq_true, if_false, Option.bind_some, Sum.elim_inl]
      exact T1 _ rfl
    | true =>
      simp only [if_true, hV hv]
      rw [if_pos (by simp; omega), if_pos (by simp; omega)]
      simp only [Option.bind_some, Bool.not_true, hw2, bne_self_eq_false, Bool.false_eq_true, if_false, Sum.elim_inl]
      exact T1 _ rfl

end Go.Proofs.YtejklhcalinhpaaVi.Ev
