/- Plain laws: what is drawn. No condition but that the bytes are bytes and fit in memory. -/
import Derived.Test.YtffdfjilpleljaaCuPCa
namespace Go.Proofs.YtffdfjilpleljaaCu.Ev
open Go
set_option autoImplicit false
set_option linter.unusedVariables false
set_option linter.unusedSimpArgs false

theorem wu64 {x : Int} (h : 0 ≤ x) (k : x < 18446744073709551616) : IntKind.u64.wrap x = x := by
  simp only [IntKind.wrap, IntKind.bits, IntKind.signed, Bool.false_and, Bool.false_eq_true, if_false]
  omega
theorem bytesStr_str (x : List UInt8) : bytesStr (strBytes x) = x := by
  induction x with
  | nil => rfl
  | cons b r ih => simp only [strBytes, bytesStr, List.map_cons] at ih ⊢; rw [ih]; simp
theorem strBytes_len (x : List UInt8) : (strBytes x).length = x.length := by simp [strBytes]

abbrev TCur := List Int × Int × Int × Unit
theorem cur_eta (c : TCur) : (c.1, c.2.1, c.2.2.1, ()) = c := rfl
/-- A reader of choices over some bytes, no further than a place. -/
def Cu (code : List Int) (j : Int) (c : TCur) : Prop := c.1 = code ∧ 0 ≤ c.2.1 ∧ c.2.1 ≤ j
def isBytes (code : List Int) : Prop := code.length ≤ 1048576 ∧ ∀ b ∈ code, 0 ≤ b ∧ b ≤ 255

theorem and255 (x : Int) : 0 ≤ bitsI .and .u64 x 255 ∧ bitsI .and .u64 x 255 ≤ 255 := by
  have h : (BitVec.ofInt 64 x &&& BitVec.ofInt 64 255).toNat ≤ 255 := by
    rw [BitVec.toNat_and]
    exact Nat.le_trans Nat.and_le_right (by decide)
  have e : bitsI .and .u64 x 255 = IntKind.u64.wrap (((BitVec.ofInt 64 x &&& BitVec.ofInt 64 255).toNat : Nat) : Int) := rfl
  rw [e, wu64 (by omega) (by omega)]
  omega

theorem p_next {code : List Int} (hb : isBytes code) {j : Int} (hj : j ≤ 1000000000) {c : TCur} (hc : Cu code j c) : ∃ x c', c_spec_l1Cur_next M c = some ((x, ()), (c', ())) ∧ 0 ≤ x ∧ x ≤ 255 ∧ Cu code (j + 1) c' := by
  obtain ⟨h1, h2, h3⟩ := hc
  have hin : IntKind.i64.wrap (c.2.1 + 1) = c.2.1 + 1 := w64 (by omega) (by omega)
  have tail : ∀ (x0 : Int), 0 ≤ x0 → x0 ≤ 255 → (∃ r : (Int × Unit) × (TCur × Unit), (if (decide ((IntKind.i64.wrap (c.2.1 + (1 : Int))) ≤ (List.length c.1 : Int))) = true then (some ((x0, ()), ((c.1, (IntKind.i64.wrap (c.2.1 + (1 : Int))), (IntKind.u64.wrap ((IntKind.u64.wrap ((IntKind.u64.wrap (c.2.2.1 * (6364136223846793005 : Int))) + (IntKind.u64.wrap x0))) + (1442695040888963407 : Int))), ()), ()))) else (if (40 : Int) < 0 then none else (some (((IntKind.i64.wrap (bitsI .and .u64 (shrI .u64 (IntKind.u64.wrap ((IntKind.u64.wrap ((IntKind.u64.wrap (c.2.2.1 * (6364136223846793005 : Int))) + (IntKind.u64.wrap x0))) + (1442695040888963407 : Int))) (40 : Int)) (255 : Int))), ()), ((c.1, (IntKind.i64.wrap (c.2.1 + (1 : Int))), (IntKind.u64.wrap ((IntKind.u64.wrap ((IntKind.u64.wrap (c.2.2.1 * (6364136223846793005 : Int))) + (IntKind.u64.wrap x0))) + (1442695040888963407 : Int))), ()), ()))))) = some r ∧ 0 ≤ r.1.1 ∧ r.1.1 ≤ 255 ∧ Cu code (j + 1) r.2.1) := by
    intro x0 g0 g1
    rw [hin]
    by_cases hq : c.2.1 + 1 ≤ (List.length c.1 : Int)
    · rw [if_pos (by simpa using hq)]
      exact ⟨_, rfl, g0, g1, h1, by show 0 ≤ c.2.1 + 1; omega, by show c.2.1 + 1 ≤ j + 1; omega⟩
    · rw [if_neg (by simpa using hq), if_neg (by omega)]
      have ha := and255 (shrI .u64 (IntKind.u64.wrap ((IntKind.u64.wrap ((IntKind.u64.wrap (c.2.2.1 * (6364136223846793005 : Int))) + (IntKind.u64.wrap x0))) + (1442695040888963407 : Int))) (40 : Int))
      refine ⟨_, rfl, ?_, ?_, h1, by show 0 ≤ c.2.1 + 1; omega, by show c.2.1 + 1 ≤ j + 1; omega⟩
      · show 0 ≤ IntKind.i64.wrap _
        rw [w64 (by omega) (by omega)]; exact ha.1
      · show IntKind.i64.wrap _ ≤ 255
        rw [w64 (by omega) (by omega)]; exact ha.2
  by_cases hl : c.2.1 < (List.length c.1 : Int)
  · obtain ⟨m, hm⟩ : ∃ m : Nat, c.2.1 = (m : Int) := ⟨c.2.1.toNat, by omega⟩
    have hml : m < c.1.length := by omega
    have hbb := hb.2 (c.1[m]) (by rw [← h1]; exact List.getElem_mem hml)
    obtain ⟨r, r1, r2, r3, r4⟩ := tail c.1[m] hbb.1 hbb.2
    refine ⟨r.1.1, r.2.1, e_spec_l1Cur_next _ ?_, r2, r3, r4⟩
    simp only [q_spec_l1Cur_next]
    have hix : idx c.1 c.2.1 = some c.1[m] := by rw [hm, idx_lt hml]
    rw [if_pos (by simpa using hl), hix]
    simp only [Option.bind_some]
    rw [w64 (x := c.1[m]) (by omega) (by omega)]
    simp only [Option.bind_some, Sum.elim_inl]
    exact r1
  · obtain ⟨r, r1, r2, r3, r4⟩ := tail 0 (by omega) (by omega)
    refine ⟨r.1.1, r.2.1, e_spec_l1Cur_next _ ?_, r2, r3, r4⟩
    simp only [q_spec_l1Cur_next]
    rw [if_neg (by simpa using hl)]
    simp only [Option.bind_some, Sum.elim_inl]
    exact r1

theorem p_pick {code : List Int} (hb : isBytes code) {j : Int} (hj : j ≤ 100000000) {c : TCur} (hc : Cu code j c) (n : Int) (hn : n ≤ 1000000000) : ∃ x c', c_spec_l1Cur_pick M c n = some ((x, ()), (c', ())) ∧ 0 ≤ x ∧ (x < n ∨ x = 0) ∧ Cu code (j + 2) c' := by
  by_cases h1 : n ≤ 1
  · refine ⟨0, c, e_spec_l1Cur_pick _ _ ?_, by omega, .inr rfl, hc.1, hc.2.1, by have := hc.2.2; omega⟩
    simp only [q_spec_l1Cur_pick]
    rw [if_pos (by simpa using h1)]
  · obtain ⟨x, c', n1, n2, n3, n4⟩ := p_next hb (by omega) hc
    by_cases h2 : n > 200
    · obtain ⟨y, c'', m1, m2, m3, m4⟩ := p_next hb (by omega) n4
      have hw : IntKind.i64.wrap (IntKind.i64.wrap (x * 256) + y) = x * 256 + y := by rw [w64 (x := x * 256) (by omega) (by omega), w64 (by omega) (by omega)]
      refine ⟨Int.tmod (x * 256 + y) n, c'', e_spec_l1Cur_pick _ _ ?_, Int.tmod_nonneg _ (by omega), .inl (Int.tmod_lt_of_pos _ (by omega)), m4.1, m4.2.1, by have := m4.2.2; omega⟩
      simp only [q_spec_l1Cur_pick]
      rw [if_neg (by simpa using h1), cur_eta, n1]
      simp only [Option.bind_some]
      rw [if_pos (by simpa using h2), cur_eta, m1]
      simp only [Option.bind_some, Sum.elim_inl]
      rw [if_neg (by omega), hw]
    · refine ⟨Int.tmod x n, c', e_spec_l1Cur_pick _ _ ?_, Int.tmod_nonneg _ (by omega), .inl (Int.tmod_lt_of_pos _ (by omega)), n4.1, n4.2.1, by have := n4.2.2; omega⟩
      simp only [q_spec_l1Cur_pick]
      rw [if_neg (by simpa using h1), cur_eta, n1]
      simp only [Option.bind_some]
      rw [if_neg (by simpa using h2)]
      simp only [Option.bind_some, Sum.elim_inl]
      rw [if_neg (by omega)]

theorem p_one {code : List Int} (hb : isBytes code) {j : Int} (hj : j ≤ 100000000) {c : TCur} (hc : Cu code j c) (n : Int) (hn : n ≤ 1000000000) : ∃ x c', c_spec_l1Cur_one M c n = some ((x, ()), (c', ())) ∧ Cu code (j + 2) c' := by
  obtain ⟨x, c', n1, _, _, n4⟩ := p_pick hb hj hc n hn
  refine ⟨x == 0, c', e_spec_l1Cur_one _ _ ?_, n4⟩
  simp only [q_spec_l1Cur_one, cur_eta, n1, Option.bind_some]
theorem p_among {code : List Int} (hb : isBytes code) {j : Int} (hj : j ≤ 100000000) {c : TCur} (hc : Cu code j c) (l : List Int) (hl : l.length ≤ 1000000) (hl0 : 0 < l.length) : ∃ x c', c_spec_l1Cur_among M c l = some ((x, ()), (c', ())) ∧ x ∈ l ∧ Cu code (j + 2) c' := by
  obtain ⟨x, c', n1, n2, n3, n4⟩ := p_pick hb hj hc l.length (by omega)
  obtain ⟨m, rfl⟩ : ∃ m : Nat, x = (m : Int) := ⟨x.toNat, by omega⟩
  have hm : m < l.length := by omega
  refine ⟨l[m], c', e_spec_l1Cur_among _ _ ?_, List.getElem_mem hm, n4⟩
  simp only [q_spec_l1Cur_among, cur_eta, n1, Option.bind_some]
  rw [idx_lt hm]
  rfl
theorem cu0 (code : List Int) : Cu code 0 (code, 0, 0, ()) := ⟨rfl, Int.le_refl _, Int.le_refl _⟩

theorem p_spoilt_loop {code : List Int} (hb : isBytes code) (w : List UInt8) (hw0 : 0 < w.length) (hw1 : w.length ≤ 1000) : ∀ (k : Nat) (j : Int) (c : TCur) (t : List UInt8), k ≤ 1000 → t.length + k ≤ 1000000 → j + 6 * k ≤ 1000000 → Cu code j c → ∃ c' t', l_spec_l1Cur_spoilt_26 M c t w k = some (.inl (c', t', ())) ∧ t'.length ≤ t.length + k ∧ Cu code (j + 6 * k) c' := by
  intro k
  induction k with
  | zero =>
    intro j c t _ _ _ hc
    refine ⟨c, t, el_spec_l1Cur_spoilt_26 _ _ _ _ ?_, by omega, by simpa using hc⟩
    simp [ql_spec_l1Cur_spoilt_26, cur_eta]
  | succ k ih =>
    intro j c t hk ht hj hc
    by_cases ht0 : 0 < t.length
    · obtain ⟨x, c1, n1, n2, n3, n4⟩ := p_pick hb (by omega) hc t.length (by omega)
      obtain ⟨i, rfl⟩ : ∃ m : Nat, x = (m : Int) := ⟨x.toNat, by omega⟩
      have hi : i < t.length := by omega
      obtain ⟨y, c2, m1, m2, m3, m4⟩ := p_pick hb (by omega) n4 w.length (by omega)
      obtain ⟨q, rfl⟩ : ∃ m : Nat, y = (m : Int) := ⟨y.toNat, by omega⟩
      have hq : q < w.length := by omega
      obtain ⟨z, c3, p1, p2, p3, p4⟩ := p_pick hb (by omega) m4 3 (by omega)
      have hwk : IntKind.i64.wrap (((k + 1 : Nat) : Int) - 1) = (k : Int) := by rw [w64 (by omega) (by omega)]; omega
      have hwi : IntKind.i64.wrap ((i : Int) + 1) = ((i + 1 : Nat) : Int) := inc_nat (by omega)
      have hwz : bytesStr [((w[q]).toNat : Int)] = [w[q]] := by simp [bytesStr]
      have fin : ∀ t' : List UInt8, t'.length ≤ t.length + 1 → ∃ c' t'', l_spec_l1Cur_spoilt_26 M c3 t' w k = some (.inl (c', t'', ())) ∧ t''.length ≤ t.length + (k + 1) ∧ Cu code (j + 6 * ((k + 1 : Nat) : Int)) c' := by
        intro t' ht'
        obtain ⟨c', t'', g1, g2, g3⟩ := ih (j + 6) c3 t' (by omega) (by omega) (by omega) ⟨p4.1, p4.2.1, by have := p4.2.2; omega⟩
        exact ⟨c', t'', g1, by omega, g3.1, g3.2.1, by have := g3.2.2; omega⟩
      by_cases z0 : z = 0
      · obtain ⟨c', t'', g1, g2, g3⟩ := fin (t.take i ++ [w[q]] ++ t.drop i) (by simp; omega)
        refine ⟨c', t'', el_spec_l1Cur_spoilt_26 _ _ _ _ ?_, g2, g3⟩
        simp only [ql_spec_l1Cur_spoilt_26]
        rw [if_pos (by simp <;> omega), if_pos (by simpa using ht0)]
        simp only [cur_eta, n1, Option.bind_some, m1, idx_lt hq, p1, z0, beq_self_eq_true, if_true, Int.toNat_natCast, Int.toNat_zero, List.drop_zero, List.take_length, hwz]
        rw [if_pos (by omega), if_pos (by simp; omega), if_pos (by omega), if_pos (by simp; omega)]
        simp only [Option.bind_some, Sum.elim_inl, cur_eta, hwk]
        exact g1
      · by_cases z1 : z = 1
        · obtain ⟨c', t'', g1, g2, g3⟩ := fin (t.take i ++ [w[q]] ++ t.drop (i + 1)) (by simp; omega)
          refine ⟨c', t'', el_spec_l1Cur_spoilt_26 _ _ _ _ ?_, g2, g3⟩
          simp only [ql_spec_l1Cur_spoilt_26]
          rw [if_pos (by simp <;> omega), if_pos (by simpa using ht0)]
          simp only [cur_eta, n1, Option.bind_some, m1, idx_lt hq, p1]
          rw [if_neg (by simpa using z0), if_pos (by simpa using z1)]
          simp only [Int.toNat_natCast, Int.toNat_zero, List.drop_zero, List.take_length, hwz, hwi]
          rw [if_pos (by omega), if_pos (by simp; omega), if_pos (by omega), if_pos (by simp; omega)]
          simp only [Option.bind_some, Sum.elim_inl, cur_eta, hwk]
          exact g1
        · obtain ⟨c', t'', g1, g2, g3⟩ := fin (t.take i ++ t.drop (i + 1)) (by simp; omega)
          refine ⟨c', t'', el_spec_l1Cur_spoilt_26 _ _ _ _ ?_, g2, g3⟩
          simp only [ql_spec_l1Cur_spoilt_26]
          rw [if_pos (by simp <;> omega), if_pos (by simpa using ht0)]
          simp only [cur_eta, n1, Option.bind_some, m1, idx_lt hq, p1]
          rw [if_neg (by simpa using z0), if_neg (by simpa using z1)]
          simp only [Int.toNat_natCast, Int.toNat_zero, List.drop_zero, List.take_length, hwz, hwi]
          rw [if_pos (by omega), if_pos (by omega), if_pos (by simp; omega)]
          simp only [Option.bind_some, Sum.elim_inl, cur_eta, hwk]
          exact g1
    · refine ⟨c, t, el_spec_l1Cur_spoilt_26 _ _ _ _ ?_, by omega, hc.1, hc.2.1, by have := hc.2.2; omega⟩
      simp only [ql_spec_l1Cur_spoilt_26]
      rw [if_pos (by simp <;> omega), if_neg (by simpa using ht0), cur_eta]
theorem p_spoilt {code : List Int} (hb : isBytes code) {j : Int} (hj : j ≤ 100000) {c : TCur} (hc : Cu code j c) (t w : List UInt8) (hw0 : 0 < w.length) (hw1 : w.length ≤ 1000) (ht : t.length ≤ 100000) : ∃ (t' : List UInt8) (c' : TCur), c_spec_l1Cur_spoilt M c t w = some ((t', ()), (c', ())) ∧ t'.length ≤ t.length + 2 ∧ Cu code (j + 20) c' := by
  obtain ⟨x, c1, n1, n2, n3, n4⟩ := p_pick hb (by omega) hc 2 (by omega)
  obtain ⟨m, rfl⟩ : ∃ m : Nat, x = (m : Int) := ⟨x.toNat, by omega⟩
  have hw : IntKind.i64.wrap (1 + (m : Int)) = ((m + 1 : Nat) : Int) := by rw [w64 (by omega) (by omega)]; omega
  obtain ⟨c', t', g1, g2, g3⟩ := p_spoilt_loop hb w hw0 hw1 (m + 1) (j + 2) c1 t (by omega) (by omega) (by omega) n4
  refine ⟨t', c', e_spec_l1Cur_spoilt _ _ _ ?_, by omega, g3.1, g3.2.1, by have := g3.2.2; omega⟩
  simp only [q_spec_l1Cur_spoilt, cur_eta, n1, Option.bind_some, hw, g1, Sum.elim_inl]

end Go.Proofs.YtffdfjilpleljaaCu.Ev
