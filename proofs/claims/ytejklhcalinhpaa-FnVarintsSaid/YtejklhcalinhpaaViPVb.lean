/- Plain laws: reading numbers: both programs read the same; reading inverts writing. No condition but sizes. -/
import Derived.Test.YtejklhcalinhpaaViPVa
namespace Go.Proofs.YtejklhcalinhpaaVi.Ev
open Go
set_option autoImplicit false
set_option linter.unusedVariables false
set_option linter.unusedSimpArgs false

/-- What a reader answers. -/
def ans (at0 : Nat) : Option (Nat × Nat) → (Int × Int × Bool × Unit) × Unit
  | none => ((0, 0, false, ()), ())
  | some (v, c) => (((v : Int), ((at0 + c : Nat) : Int), true, ()), ())

theorem p_ReadVarint_loop (s : List UInt8) (hs : s.length ≤ 100000) (at0 : Nat) (ha : at0 ≤ 1000000000) : ∀ (j k n : Nat), k + j = 5 → n < 128 ^ k → ∃ r, l_impl_ReadVarint_122 M s at0 n k = some r ∧ Sum.elim (fun _ => ((0, 0, false, ()), ())) id r = ans at0 (rd k n (s.drop (at0 + k))) := by
  intro j
  induction j with
  | zero =>
    intro k n hk hn
    obtain rfl : k = 5 := by omega
    refine ⟨.inl (), el_impl_ReadVarint_122 _ _ _ _ ?_, by rw [rd_five]; rfl⟩
    simp [ql_impl_ReadVarint_122]
  | succ j ih =>
    intro k n hk hn
    have hk5 : k < 5 := by omega
    have hn35 : n < 34359738368 := Nat.lt_of_lt_of_le hn (by
      have : 128 ^ k ≤ 128 ^ 5 := Nat.pow_le_pow_right (by omega) (by omega)
      omega)
    have e0 : IntKind.i64.wrap ((at0 : Int) + (k : Int)) = ((at0 + k : Nat) : Int) := by rw [w64 (by omega) (by omega)]; omega
    by_cases hlt : at0 + k < s.length
    · have hb := (s[at0 + k]).toNat_lt
      have e1 : IntKind.i64.wrap (((s[at0 + k]).toNat : Nat) : Int) = ((s[at0 + k]).toNat : Int) := w64 (by omega) (by omega)
      have e2 : IntKind.i64.wrap ((7 : Int) * (k : Int)) = 7 * (k : Int) := w64 (by omega) (by omega)
      have e3 : Int.tmod ((s[at0 + k]).toNat : Int) 128 = (((s[at0 + k]).toNat % 128 : Nat) : Int) := rfl
      obtain ⟨e4, e5⟩ := shl7 (b := (s[at0 + k]).toNat % 128) (k := k) (by omega) hk5
      have e6 : IntKind.i64.wrap ((n : Int) + (((s[at0 + k]).toNat % 128 * 128 ^ k : Nat) : Int)) = ((n + (s[at0 + k]).toNat % 128 * 128 ^ k : Nat) : Int) := by rw [w64 (by omega) (by omega)]; omega
      have e7 : IntKind.i64.wrap (((at0 + k : Nat) : Int) + 1) = ((at0 + (k + 1) : Nat) : Int) := by rw [inc_nat (by omega)]; congr 1
      rw [List.drop_eq_getElem_cons hlt]
      simp only [rd]
      rw [if_neg (by omega)]
      generalize hv : n + (s[at0 + k]).toNat % 128 * 128 ^ k = V at *
      have pre : ∀ r, (if (((s[at0 + k]).toNat : Int) < 128) then (if 0 < k then (if (s[at0 + k]).toNat = 0 then (some (Sum.inr (((0 : Int), (0 : Int), false, ()), ()))) else (if (V : Int) > 1073741823 then (some (Sum.inr (((0 : Int), (0 : Int), false, ()), ()))) else (some (Sum.inr (((V : Int), ((at0 + (k + 1) : Nat) : Int), true, ()), ()))))) else (if (V : Int) > 1073741823 then (some (Sum.inr (((0 : Int), (0 : Int), false, ()), ()))) else (some (Sum.inr (((V : Int), ((at0 + (k + 1) : Nat) : Int), true, ()), ()))))) else l_impl_ReadVarint_122 M s at0 V ((k + 1 : Nat) : Int)) = some r → l_impl_ReadVarint_122 M s at0 n k = some r := by
        intro r hr
        apply el_impl_ReadVarint_122
        simp only [ql_impl_ReadVarint_122]
        rw [if_pos (by simp; omega), e0, if_pos (by simp; omega), idx_lt hlt]
        simp only [Option.bind_some]
        rw [if_neg (by omega), e2, if_neg (by omega), e1, e3, e4, e6, e7, inc_nat (by omega)]
        rw [← hr]
        by_cases c1 : ((s[at0 + k]).toNat : Int) < 128
        · rw [if_pos (by simpa using c1), if_pos c1]
          by_cases c2 : 0 < k
          · rw [if_pos (by simp; omega), if_pos c2]
            by_cases c3 : (s[at0 + k]).toNat = 0
            · rw [if_pos (by simp [c3]), if_pos c3]
            · rw [if_neg (by simp; omega), if_neg c3]
              by_cases c4 : (V : Int) > 1073741823
              · rw [if_pos (by simpa using c4), if_pos c4]
              · rw [if_neg (by simpa using c4), if_neg c4]
          · rw [if_neg (by simp; omega), if_neg c2]
            by_cases c4 : (V : Int) > 1073741823
            · rw [if_pos (by simpa using c4), if_pos c4]
            · rw [if_neg (by simpa using c4), if_neg c4]
        · rw [if_neg (by simpa using c1), if_neg c1]
      by_cases c1 : (s[at0 + k]).toNat < 128
      · rw [if_pos c1]
        by_cases c2 : (0 < k ∧ (s[at0 + k]).toNat = 0) ∨ 1073741823 < V
        · rw [if_pos c2]
          refine ⟨.inr ((0, 0, false, ()), ()), pre _ ?_, rfl⟩
          rw [if_pos (by omega)]
          by_cases c3 : 0 < k
          · rw [if_pos c3]
            by_cases c4 : (s[at0 + k]).toNat = 0
            · rw [if_pos c4]
            · rw [if_neg c4, if_pos (by omega)]
          · rw [if_neg c3, if_pos (by omega)]
        · rw [if_neg c2]
          refine ⟨.inr (((V : Int), ((at0 + (k + 1) : Nat) : Int), true, ()), ()), pre _ ?_, rfl⟩
          rw [if_pos (by omega)]
          by_cases c3 : 0 < k
          · rw [if_pos c3, if_neg (fun h => c2 (.inl ⟨c3, h⟩)), if_neg (by omega)]
          · rw [if_neg c3, if_neg (by omega)]
      · rw [if_neg c1]
        obtain ⟨r, r1, r2⟩ := ih (k + 1) V (by omega) (by
          rw [← hv, Nat.pow_succ]
          have : (s[at0 + k]).toNat % 128 * 128 ^ k ≤ 127 * 128 ^ k := Nat.mul_le_mul_right _ (by omega)
          omega)
        refine ⟨r, pre _ ?_, by rw [r2]; rw [Nat.add_assoc]⟩
        rw [if_neg (by omega)]
        exact r1
    · refine ⟨.inl (), el_impl_ReadVarint_122 _ _ _ _ ?_, by rw [List.drop_eq_nil_of_le (by omega)]; rfl⟩
      simp only [ql_impl_ReadVarint_122]
      rw [if_pos (by simp; omega), e0, if_neg (by simp; omega)]

/-- What is read at a place. -/
def rV (s : List UInt8) (at0 : Nat) : Option (Nat × Nat) := rd 0 0 (s.drop at0)
theorem p_ReadVarint (s : List UInt8) (hs : s.length ≤ 100000) (at0 : Nat) (ha : at0 ≤ 1000000000) : c_impl_ReadVarint M s at0 = some (ans at0 (rV s at0)) := by
  obtain ⟨r, r1, r2⟩ := p_ReadVarint_loop s hs at0 ha 5 0 0 (by omega) (by simp)
  rw [show ((0 : Nat) : Int) = 0 from rfl] at r1
  apply e_impl_ReadVarint
  simp only [q_impl_ReadVarint]
  rw [if_neg (by simp; omega), if_neg (by simp <;> omega), r1]
  rw [Nat.add_zero] at r2
  rw [rV, ← r2]
  cases r <;> rfl

theorem rd_le : ∀ (s : List UInt8) (k n v c : Nat), rd k n s = some (v, c) → v ≤ 1073741823 ∧ k < c ∧ c ≤ k + s.length
  | [], _, _, _, _, h => by simp [rd] at h
  | b :: r, k, n, v, c, h => by
    simp only [rd] at h
    split at h
    · cases h
    · split at h
      · split at h
        · cases h
        · rename_i hc
          simp only [Option.some.injEq, Prod.mk.injEq] at h
          obtain ⟨rfl, rfl⟩ := h
          simp; omega
      · have := rd_le r _ _ _ _ h
        simp; omega
theorem rV_le {s : List UInt8} {at0 v c : Nat} (h : rV s at0 = some (v, c)) : v ≤ 1073741823 ∧ at0 + c ≤ s.length := by
  have := rd_le _ _ _ _ _ h
  simp at this
  omega

/-- The reference's reader. -/
theorem p_l10Read_loop (s : List UInt8) (hs : s.length ≤ 100000) (at0 : Nat) (ha : at0 ≤ s.length) : ∀ (j k : Nat) (p : List UInt8), k + j = 5 → at0 + k ≤ s.length → (s.take (at0 + k)).drop at0 = p → (∀ c ∈ p, 128 ≤ c.toNat) → ∃ r, l_spec_l10Read_58 M s at0 (vf p) k = some r ∧ Sum.elim (fun _ => ((0, 0, false, ()), ())) id r = ans at0 (rd k (vf p) (s.drop (at0 + k))) := by
  intro j
  induction j with
  | zero =>
    intro k p hk hle hp hc
    obtain rfl : k = 5 := by omega
    refine ⟨.inl (), el_spec_l10Read_58 _ _ _ _ ?_, by rw [rd_five]; rfl⟩
    simp [ql_spec_l10Read_58]
  | succ j ih =>
    intro k p hk hle hp hc
    have hk5 : k < 5 := by omega
    have hpl : p.length = k := by rw [← hp, List.length_drop, List.length_take]; omega
    have hn := vf_lt p
    rw [hpl] at hn
    have hn35 : vf p < 34359738368 := Nat.lt_of_lt_of_le hn (by
      have : 128 ^ k ≤ 128 ^ 5 := Nat.pow_le_pow_right (by omega) (by omega)
      omega)
    have e0 : IntKind.i64.wrap ((at0 : Int) + (k : Int)) = ((at0 + k : Nat) : Int) := by rw [w64 (by omega) (by omega)]; omega
    by_cases hlt : at0 + k < s.length
    · have hb := (s[at0 + k]).toNat_lt
      have hp1 : (s.take (at0 + (k + 1))).drop at0 = p ++ [s[at0 + k]] := by
        rw [show at0 + (k + 1) = at0 + k + 1 by omega, List.take_succ_eq_append_getElem hlt, List.drop_append_of_le_length (by rw [List.length_take]; omega), hp]
      have e1 : IntKind.i64.wrap (((s[at0 + k]).toNat : Nat) : Int) = ((s[at0 + k]).toNat : Int) := w64 (by omega) (by omega)
      have e2 : IntKind.i64.wrap ((7 : Int) * (k : Int)) = 7 * (k : Int) := w64 (by omega) (by omega)
      have e2' : IntKind.u64.wrap (7 * (k : Int)) = 7 * (k : Int) := wu64 (by omega) (by omega)
      have e3 : Int.tmod ((s[at0 + k]).toNat : Int) 128 = (((s[at0 + k]).toNat % 128 : Nat) : Int) := rfl
      obtain ⟨e4, e5⟩ := shl7 (b := (s[at0 + k]).toNat % 128) (k := k) (by omega) hk5
      have e6 : IntKind.i64.wrap ((vf p : Int) + (((s[at0 + k]).toNat % 128 * 128 ^ k : Nat) : Int)) = ((vf p + (s[at0 + k]).toNat % 128 * 128 ^ k : Nat) : Int) := by rw [w64 (by omega) (by omega)]; omega
      have e7 : IntKind.i64.wrap (((at0 + k : Nat) : Int) + 1) = ((at0 + (k + 1) : Nat) : Int) := by rw [inc_nat (by omega)]; congr 1
      have hV : vf p + (s[at0 + k]).toNat % 128 * 128 ^ k = vf (p ++ [s[at0 + k]]) := by rw [vf_app, hpl]
      have hVb := vf_lt (p ++ [s[at0 + k]])
      have hVb2 : vf (p ++ [s[at0 + k]]) < 34359738368 := Nat.lt_of_lt_of_le hVb (by
        have : 128 ^ (p ++ [s[at0 + k]]).length ≤ 128 ^ 5 := Nat.pow_le_pow_right (by omega) (by simp; omega)
        omega)
      rw [List.drop_eq_getElem_cons hlt]
      simp only [rd]
      rw [if_neg (by omega), hV]
      rw [hV] at e6
      by_cases c1 : (s[at0 + k]).toNat < 128
      · rw [if_pos c1]
        have hiff := enc_vf_iff hc c1
        have henc := p_l10Varint (vf (p ++ [s[at0 + k]])) (by omega)
        have pre : ∀ r, (if (vf (p ++ [s[at0 + k]]) : Int) > 1073741823 then (some (Sum.inr (((0 : Int), (0 : Int), false, ()), ()))) else (if (!(enc (vf (p ++ [s[at0 + k]])) == p ++ [s[at0 + k]])) = true then (some (Sum.inr (((0 : Int), (0 : Int), false, ()), ()))) else (some (Sum.inr (((vf (p ++ [s[at0 + k]]) : Int), ((at0 + (k + 1) : Nat) : Int), true, ()), ()))))) = some r → l_spec_l10Read_58 M s at0 (vf p) k = some r := by
          intro r hr
          apply el_spec_l10Read_58
          simp only [ql_spec_l10Read_58]
          rw [if_pos (by simp; omega), e0, if_pos (by simp; omega), idx_lt hlt]
          simp only [Option.bind_some]
          rw [if_neg (by omega), e2, e2', if_neg (by omega), e1, if_pos (by simp; omega), e3, e4, e6, e7, henc]
          simp only [Option.bind_some]
          rw [← hr, Int.toNat_natCast, Int.toNat_natCast, hp1]
          by_cases c4 : (vf (p ++ [s[at0 + k]]) : Int) > 1073741823
          · rw [if_pos (by simpa using c4), if_pos c4]
          · rw [if_neg (by simpa using c4), if_neg c4, if_pos (by omega)]
        by_cases c2 : 1073741823 < vf (p ++ [s[at0 + k]])
        · rw [if_pos (.inr c2)]
          refine ⟨.inr ((0, 0, false, ()), ()), pre _ ?_, rfl⟩
          rw [if_pos (by omega)]
        · by_cases c3 : 0 < k ∧ (s[at0 + k]).toNat = 0
          · rw [if_pos (.inl c3)]
            refine ⟨.inr ((0, 0, false, ()), ()), pre _ ?_, rfl⟩
            have hne : enc (vf (p ++ [s[at0 + k]])) ≠ p ++ [s[at0 + k]] := fun h => by
              rcases hiff.1 h with h | h
              · rw [h] at hpl; simp at hpl; omega
              · exact h c3.2
            rw [if_neg (by omega), if_pos (by simpa using hne)]
          · rw [if_neg (fun h => h.elim c3 c2)]
            refine ⟨.inr (((vf (p ++ [s[at0 + k]]) : Int), ((at0 + (k + 1) : Nat) : Int), true, ()), ()), pre _ ?_, rfl⟩
            have he : enc (vf (p ++ [s[at0 + k]])) = p ++ [s[at0 + k]] := hiff.2 (by
              by_cases hk0 : k = 0
              · exact .inl (List.length_eq_zero_iff.1 (by omega))
              · exact .inr fun h => c3 ⟨by omega, h⟩)
            rw [if_neg (by omega), if_neg (by simp [he])]
      · rw [if_neg c1]
        obtain ⟨r, r1, r2⟩ := ih (k + 1) (p ++ [s[at0 + k]]) (by omega) (by omega) hp1 (fun c hcm => by
          rcases List.mem_append.1 hcm with h | h
          · exact hc c h
          · rw [List.mem_singleton.1 h]; omega)
        refine ⟨r, el_spec_l10Read_58 _ _ _ _ ?_, by rw [r2]; rw [Nat.add_assoc]⟩
        simp only [ql_spec_l10Read_58]
        rw [if_pos (by simp; omega), e0, if_pos (by simp; omega), idx_lt hlt]
        simp only [Option.bind_some]
        rw [if_neg (by omega), e2, e2', if_neg (by omega), e1, if_neg (by simp; omega), e3, e4, e6, inc_nat (by omega)]
        exact r1
    · refine ⟨.inl (), el_spec_l10Read_58 _ _ _ _ ?_, by rw [List.drop_eq_nil_of_le (by omega)]; rfl⟩
      simp only [ql_spec_l10Read_58]
      rw [if_pos (by simp; omega), e0, if_neg (by simp; omega)]
theorem p_l10Read (s : List UInt8) (hs : s.length ≤ 100000) (at0 : Nat) (ha : at0 ≤ s.length) : c_spec_l10Read M s at0 = some (ans at0 (rV s at0)) := by
  obtain ⟨r, r1, r2⟩ := p_l10Read_loop s hs at0 ha 5 0 [] (by omega) (by omega) (by simp) (by simp)
  simp only [vf] at r1 r2
  rw [show ((0 : Nat) : Int) = 0 from rfl] at r1
  apply e_spec_l10Read
  simp only [q_spec_l10Read, r1]
  rw [Nat.add_zero] at r2
  rw [rV, ← r2]
  cases r <;> rfl

/-- A number is read back. -/
theorem rd_enc : ∀ (N n k m : Nat) (r : List UInt8), n ≤ N → k + (enc n).length ≤ 5 → m + n * 128 ^ k ≤ 1073741823 → (0 < k → 0 < n) → rd k m (enc n ++ r) = some (m + n * 128 ^ k, k + (enc n).length) := by
  intro N
  induction N with
  | zero =>
    intro n k m r hn hk hm h0
    obtain rfl : n = 0 := by omega
    obtain rfl : k = 0 := by omega
    rw [enc_lt (by omega)]
    simp [rd]
    omega
  | succ N ih =>
    intro n k m r hn hk hm h0
    by_cases h : n < 128
    · rw [enc_lt h] at hk ⊢
      simp only [List.length_cons, List.length_nil] at hk ⊢
      have e : (UInt8.ofNat n).toNat = n := by simp; omega
      simp only [List.cons_append, List.nil_append, rd, e]
      rw [if_neg (by omega), if_pos h, Nat.mod_eq_of_lt h, if_neg (by omega)]
    · rw [enc_ge h] at hk ⊢
      simp only [List.length_cons] at hk ⊢
      have e : (UInt8.ofNat (n % 128 + 128)).toNat = n % 128 + 128 := by simp; omega
      have hpow : n % 128 * 128 ^ k + n / 128 * 128 ^ (k + 1) = n * 128 ^ k := by
        rw [Nat.pow_succ, Nat.mul_comm (128 ^ k) 128, ← Nat.mul_assoc, ← Nat.add_mul]
        congr 1; omega
      simp only [List.cons_append, rd, e]
      rw [if_neg (by omega), if_neg (by omega), show (n % 128 + 128) % 128 = n % 128 by omega, ih (n / 128) (k + 1) _ r (by omega) (by omega) (by omega) (by omega)]
      congr 2
      · omega
      · omega
theorem rV_enc {s pre post : List UInt8} {n : Nat} (hn : n ≤ 1073741823) (hs : s = pre ++ (enc n ++ post)) : rV s pre.length = some (n, (enc n).length) := by
  subst hs
  have hl := enc_len 4 n (by omega)
  rw [rV, List.drop_left, rd_enc n n 0 0 post (Nat.le_refl _) (by omega) (by simpa using hn) (by omega)]
  simp

/-! ### Signed numbers -/
def zig (n : Int) : Nat := if n < 0 then (-2 * n - 1).toNat else (2 * n).toNat
def unz (z : Nat) : Int := if z % 2 = 1 then -(((z + 1) / 2 : Nat) : Int) else ((z / 2 : Nat) : Int)
theorem unz_zig (n : Int) : unz (zig n) = n := by
  unfold unz zig
  split <;> split <;> omega
def zOK (n : Int) : Bool := decide (-536870911 ≤ n) && decide (n ≤ 536870911)
theorem zOK_iff {n : Int} : zOK n = true ↔ -536870911 ≤ n ∧ n ≤ 536870911 := by simp [zOK]
theorem zig_le {n : Int} (h : zOK n = true) : zig n ≤ 1073741822 := by
  have := zOK_iff.1 h
  unfold zig; split <;> omega
theorem zig_neg {n : Int} (h : n < 0) : (zig n : Int) = -2 * n - 1 := by
  unfold zig
  rw [if_pos h]
  omega
theorem zig_pos {n : Int} (h : ¬ n < 0) : (zig n : Int) = 2 * n := by
  unfold zig
  rw [if_neg h]
  omega
theorem p_l10Zig (n : Int) (h0 : -4000000000000000000 ≤ n) (h1 : n ≤ 4000000000000000000) : c_spec_l10Zig M n = some (((zig n : Int), ()), ()) := by
  apply e_spec_l10Zig
  simp only [q_spec_l10Zig, decide_eq_true_eq]
  by_cases h : n < 0
  · rw [if_pos h, zig_neg h, w64 (x := -2 * n) (by omega) (by omega), w64 (x := -2 * n - 1) (by omega) (by omega)]
  · rw [if_neg h, zig_pos h, w64 (x := 2 * n) (by omega) (by omega)]
theorem p_spec_ZigOf (n : Int) : c_spec_ZigOf M n = some ((if zOK n = true then (zig n : Int) else 0, zOK n, ()), ()) := by
  apply e_spec_ZigOf
  simp only [q_spec_ZigOf, p_l1In, Option.bind_some]
  cases h : zOK n with
  | false =>
    have h' : (decide (-536870911 ≤ n) && decide (n ≤ 536870911)) = false := h
    rw [h']; rfl
  | true =>
    have h' : (decide (-536870911 ≤ n) && decide (n ≤ 536870911)) = true := h
    have hn := zOK_iff.1 h
    rw [h', p_l10Zig n (by omega) (by omega)]; rfl
theorem p_impl_ZigOf (n : Int) : c_impl_ZigOf M n = some ((if zOK n = true then (zig n : Int) else 0, zOK n, ()), ()) := by
  apply e_impl_ZigOf
  simp only [q_impl_ZigOf, decide_eq_true_eq]
  by_cases h : zOK n = true
  · have hn := zOK_iff.1 h
    rw [if_neg (by omega), if_neg (by omega), h, if_pos rfl]
    by_cases h2 : n < 0
    · rw [if_pos h2, zig_neg h2, w64 (x := -2 * n) (by omega) (by omega), w64 (x := -2 * n - 1) (by omega) (by omega)]
    · rw [if_neg h2, zig_pos h2, w64 (x := 2 * n) (by omega) (by omega)]
  · have hn : ¬ (-536870911 ≤ n ∧ n ≤ 536870911) := fun h' => h (zOK_iff.2 h')
    rw [Bool.not_eq_true] at h
    rw [h]
    by_cases h2 : n < -536870911
    · rw [if_pos h2]; rfl
    · rw [if_neg h2, if_pos (by omega)]; rfl
theorem p_l10UnZig (z : Nat) (h : z ≤ 4611686018427387904) : c_spec_l10UnZig M z = some ((unz z, ()), ()) := by
  apply e_spec_l10UnZig
  simp only [q_spec_l10UnZig]
  have e1 : Int.tmod (z : Int) 2 = ((z % 2 : Nat) : Int) := rfl
  have e2 : Int.tdiv (z : Int) 2 = ((z / 2 : Nat) : Int) := rfl
  rw [if_neg (by omega), e1, e2]
  unfold unz
  by_cases h2 : z % 2 = 1
  · have e3 : Int.tdiv (0 - ((z : Int) + 1)) 2 = -(((z + 1) / 2 : Nat) : Int) := by
      rw [Int.zero_sub, Int.neg_tdiv]; rfl
    rw [if_pos (by rw [h2]; rfl), if_neg (by omega), w64 (x := (z : Int) + 1) (by omega) (by omega), w64 (x := 0 - ((z : Int) + 1)) (by omega) (by omega), e3, w64 (by omega) (by omega), if_pos h2]
  · rw [if_neg (by simp; omega), if_neg (by omega), w64 (by omega) (by omega), if_neg h2]
def uOK (z : Int) : Bool := decide (0 ≤ z) && decide (z ≤ 1073741822)
theorem uOK_iff {z : Int} : uOK z = true ↔ 0 ≤ z ∧ z ≤ 1073741822 := by simp [uOK]
theorem p_spec_UnZig (z : Int) : c_spec_UnZig M z = some ((if uOK z = true then unz z.toNat else 0, uOK z, ()), ()) := by
  apply e_spec_UnZig
  simp only [q_spec_UnZig, p_l1In, Option.bind_some]
  cases h : uOK z with
  | false =>
    have h' : (decide (0 ≤ z) && decide (z ≤ 1073741822)) = false := h
    rw [h']; rfl
  | true =>
    have h' : (decide (0 ≤ z) && decide (z ≤ 1073741822)) = true := h
    have hn := uOK_iff.1 h
    have := p_l10UnZig z.toNat (by omega)
    rw [show ((z.toNat : Nat) : Int) = z by omega] at this
    rw [h', this]; rfl
theorem p_impl_UnZig (z : Int) : c_impl_UnZig M z = some ((if uOK z = true then unz z.toNat else 0, uOK z, ()), ()) := by
  apply e_impl_UnZig
  simp only [q_impl_UnZig, decide_eq_true_eq]
  by_cases h : uOK z = true
  · have hn := uOK_iff.1 h
    rw [if_neg (by omega), if_neg (by omega), h, if_pos rfl]
    obtain ⟨m, rfl⟩ : ∃ m : Nat, z = (m : Int) := ⟨z.toNat, by omega⟩
    rw [Int.toNat_natCast]
    have e1 : Int.tmod (m : Int) 2 = ((m % 2 : Nat) : Int) := rfl
    have e2 : Int.tdiv (m : Int) 2 = ((m / 2 : Nat) : Int) := rfl
    rw [if_neg (by omega), e1, e2]
    unfold unz
    by_cases h2 : m % 2 = 1
    · have e3 : Int.tdiv (0 - ((m : Int) + 1)) 2 = -(((m + 1) / 2 : Nat) : Int) := by
        rw [Int.zero_sub, Int.neg_tdiv]; rfl
      rw [if_pos (by rw [h2]; rfl), if_neg (by omega), w64 (x := (m : Int) + 1) (by omega) (by omega), w64 (x := 0 - ((m : Int) + 1)) (by omega) (by omega), e3, w64 (by omega) (by omega), if_pos h2]
    · rw [if_neg (by simp; omega), if_neg (by omega), w64 (by omega) (by omega), if_neg h2]
  · have hn : ¬ (0 ≤ z ∧ z ≤ 1073741822) := fun h' => h (uOK_iff.2 h')
    rw [Bool.not_eq_true] at h
    rw [h]
    by_cases h2 : z < 0
    · rw [if_pos h2]; rfl
    · rw [if_neg h2, if_pos (by omega)]; rfl

end Go.Proofs.YtejklhcalinhpaaVi.Ev
