/- Plain laws: numbers and lists in bytes, read: both programs alike. No condition but sizes. -/
import Derived.Test.YtofkhmedmeihiaaRbPBa
import Derived.Test.YtofkhmedmeihiaaRbPAb
namespace Go.Proofs.YtofkhmedmeihiaaRb.Ev
open Go
set_option autoImplicit false
set_option linter.unusedVariables false
set_option linter.unusedSimpArgs false

/-- The bytes of a number. -/
def enc (n : Nat) : List UInt8 := if h : n < 128 then [UInt8.ofNat n] else UInt8.ofNat (n % 128 + 128) :: enc (n / 128)
termination_by n
decreasing_by omega

theorem enc_lt {n : Nat} (h : n < 128) : enc n = [UInt8.ofNat n] := by rw [enc, dif_pos h]

theorem enc_ge {n : Nat} (h : ¬ n < 128) : enc n = UInt8.ofNat (n % 128 + 128) :: enc (n / 128) := by rw [enc, dif_neg h]

theorem enc_len : ∀ (j n : Nat), n < 128 ^ (j + 1) → (enc n).length ≤ j + 1 := by
  intro j
  induction j with
  | zero => intro n h; rw [enc_lt (by simpa using h)]; simp
  | succ j ih =>
    intro n h
    by_cases hn : n < 128
    · rw [enc_lt hn]; simp
    · rw [enc_ge hn]
      have := ih (n / 128) (by rw [Nat.div_lt_iff_lt_mul (by omega)]; rw [Nat.pow_succ] at h; exact h)
      simp; omega

theorem enc_pos (n : Nat) : 0 < (enc n).length := by
  by_cases hn : n < 128
  · rw [enc_lt hn]; simp
  · rw [enc_ge hn]; simp

theorem p_l10Varint_loop : ∀ (N n : Nat) (out : List UInt8), n ≤ N → out.length + n ≤ 4398046511104 → ∃ m : Nat, ∃ o : List UInt8, l_spec_l10Varint_28 M n out = some (.inl ((m : Int), o, ())) ∧ m < 128 ∧ o ++ [UInt8.ofNat m] = out ++ enc n ∧ o.length ≤ out.length + n := by
  intro N
  induction N with
  | zero =>
    intro n out hn _
    obtain rfl : n = 0 := by omega
    refine ⟨0, out, el_spec_l10Varint_28 _ _ ?_, by omega, by rw [enc_lt (by omega)], by omega⟩
    simp [ql_spec_l10Varint_28]
  | succ N ih =>
    intro n out hn hb
    by_cases h : n < 128
    · refine ⟨n, out, el_spec_l10Varint_28 _ _ ?_, h, by rw [enc_lt h], by omega⟩
      simp only [ql_spec_l10Varint_28]
      rw [if_neg (by simp; omega)]
    · obtain ⟨m, o, h1, h2, h3, h4⟩ := ih (n / 128) (out ++ [UInt8.ofNat (n % 128 + 128)]) (by omega) (by simp; omega)
      refine ⟨m, o, el_spec_l10Varint_28 _ _ ?_, h2, by rw [h3, enc_ge h]; simp, by simp at h4; omega⟩
      simp only [ql_spec_l10Varint_28]
      have e1 : Int.tmod (n : Int) 128 = ((n % 128 : Nat) : Int) := rfl
      have e2 : Int.tdiv (n : Int) 128 = ((n / 128 : Nat) : Int) := rfl
      rw [if_pos (by simp; omega), if_neg (by omega), e1, e2, w64 (x := ((n % 128 : Nat) : Int) + 128) (by omega) (by omega), w8 (by omega) (by omega), w64 (by omega) (by omega), show ((n % 128 : Nat) : Int) + 128 = ((n % 128 + 128 : Nat) : Int) by omega, bytesStr_one, if_pos (by simp; omega), if_neg (by omega)]
      exact h1

theorem p_l10Varint (n : Nat) (h : n ≤ 1099511627776) : c_spec_l10Varint M n = some ((enc n, ()), ()) := by
  obtain ⟨m, o, h1, h2, h3, h4⟩ := p_l10Varint_loop n n [] (by omega) (by simp; omega)
  apply e_spec_l10Varint
  simp only [q_spec_l10Varint, h1, Option.bind_some, Sum.elim_inl]
  rw [w8 (by omega) (by omega), bytesStr_one, if_pos (by simp at h4 ⊢; omega), h3]
  simp

/-! ### Reading -/
/-- The number that some bytes stand for, lowest first. -/
def vf : List UInt8 → Nat
  | [] => 0
  | b :: r => b.toNat % 128 + 128 * vf r

theorem vf_app : ∀ (p : List UInt8) (b : UInt8), vf (p ++ [b]) = vf p + b.toNat % 128 * 128 ^ p.length
  | [], b => by simp [vf]
  | c :: p, b => by
    simp only [List.cons_append, vf, vf_app p b, List.length_cons, Nat.pow_succ]
    rw [Nat.mul_add, Nat.add_assoc, Nat.add_left_cancel_iff, Nat.add_left_cancel_iff, Nat.mul_comm (128 ^ p.length) 128, ← Nat.mul_assoc, ← Nat.mul_assoc, Nat.mul_comm 128 (b.toNat % 128)]

theorem vf_lt : ∀ (p : List UInt8), vf p < 128 ^ p.length
  | [] => by simp [vf]
  | c :: p => by
    have := vf_lt p
    have h2 := Nat.mod_lt c.toNat (show 128 > 0 by omega)
    simp only [vf, List.length_cons, Nat.pow_succ]
    omega

theorem u8_ofNat (b : UInt8) : UInt8.ofNat b.toNat = b := by simp

theorem vf_pos : ∀ (p : List UInt8) (b : UInt8), b.toNat % 128 ≠ 0 → vf (p ++ [b]) ≠ 0
  | [], b, h => by simp [vf]; omega
  | c :: p, b, h => by
    have := vf_pos p b h
    simp only [List.cons_append, vf]
    omega

theorem enc_vf : ∀ (p : List UInt8) (b : UInt8), (∀ c ∈ p, 128 ≤ c.toNat) → b.toNat < 128 → (p = [] ∨ b.toNat ≠ 0) → enc (vf (p ++ [b])) = p ++ [b]
  | [], b, _, hb, _ => by
    have : vf ([] ++ [b]) = b.toNat := by simp [vf]; omega
    rw [this, enc_lt hb, u8_ofNat]; rfl
  | c :: p, b, hp, hb, h => by
    have hc := hp c (by simp)
    have hc2 := c.toNat_lt
    have hb0 : b.toNat ≠ 0 := h.resolve_left (by simp)
    have h1 := vf_pos p b (by omega)
    have ih := enc_vf p b (fun d hd => hp d (by simp [hd])) hb (.inr hb0)
    have hv : vf (c :: p ++ [b]) = c.toNat % 128 + 128 * vf (p ++ [b]) := rfl
    rw [hv, enc_ge (by omega), show (c.toNat % 128 + 128 * vf (p ++ [b])) / 128 = vf (p ++ [b]) by omega, ih, show (c.toNat % 128 + 128 * vf (p ++ [b])) % 128 + 128 = c.toNat by omega, u8_ofNat]
    rfl

theorem enc_last : ∀ (N n : Nat), n ≤ N → (enc n).getLast? = some 0 → n = 0 := by
  intro N
  induction N with
  | zero => intro n h _; omega
  | succ N ih =>
    intro n hn h
    by_cases h1 : n < 128
    · rw [enc_lt h1] at h
      simp only [List.getLast?_singleton, Option.some.injEq] at h
      have := congrArg UInt8.toNat h
      simp at this
      omega
    · rw [enc_ge h1, List.getLast?_cons] at h
      have hne : enc (n / 128) ≠ [] := List.length_pos_iff.1 (enc_pos _)
      have := ih (n / 128) (by omega) (by rw [← h]; rw [List.getLast?_eq_some_getLast hne]; simp [List.getLast?_eq_some_getLast hne])
      omega

theorem enc_vf_iff {p : List UInt8} {b : UInt8} (hp : ∀ c ∈ p, 128 ≤ c.toNat) (hb : b.toNat < 128) : enc (vf (p ++ [b])) = p ++ [b] ↔ (p = [] ∨ b.toNat ≠ 0) := by
  refine ⟨fun h => ?_, enc_vf p b hp hb⟩
  by_cases hp0 : p = []
  · exact .inl hp0
  · refine .inr fun hb0 => ?_
    have hb1 : b = 0 := UInt8.toNat_inj.1 (by simpa using hb0)
    have h1 : (enc (vf (p ++ [b]))).getLast? = some 0 := by rw [h, hb1]; simp
    have h2 := enc_last _ _ (Nat.le_refl _) h1
    rw [h2, enc_lt (by omega)] at h
    cases p with
    | nil => exact hp0 rfl
    | cons c p => simp at h

/-- What is read from a place on, some bytes being read. -/
def rd : Nat → Nat → List UInt8 → Option (Nat × Nat)
  | _, _, [] => none
  | k, n, b :: r => if 5 ≤ k then none else
    if b.toNat < 128 then (if (0 < k ∧ b.toNat = 0) ∨ 1073741823 < n + b.toNat % 128 * 128 ^ k then none else some (n + b.toNat % 128 * 128 ^ k, k + 1))
    else rd (k + 1) (n + b.toNat % 128 * 128 ^ k) r

theorem rd_five {n : Nat} (s : List UInt8) : rd 5 n s = none := by cases s <;> simp [rd]

theorem shl7 {b k : Nat} (hb : b < 128) (hk : k < 5) : shlI .i64 (b : Int) (7 * (k : Int)) = ((b * 128 ^ k : Nat) : Int) ∧ b * 128 ^ k < 34359738368 := by
  have : k = 0 ∨ k = 1 ∨ k = 2 ∨ k = 3 ∨ k = 4 := by omega
  rcases this with rfl | rfl | rfl | rfl | rfl
  · constructor
    · simp only [shlI]; simp; rw [w64 (by omega) (by omega)]
    · simp; omega
  · constructor
    · simp only [shlI]
      rw [show (min ((7 * ((1 : Nat) : Int)).toNat) IntKind.i64.bits) = 7 from rfl, w64 (by omega) (by omega)]; simp
    · omega
  · constructor
    · simp only [shlI]
      rw [show (min ((7 * ((2 : Nat) : Int)).toNat) IntKind.i64.bits) = 14 from rfl, w64 (by omega) (by omega)]; simp
    · omega
  · constructor
    · simp only [shlI]
      rw [show (min ((7 * ((3 : Nat) : Int)).toNat) IntKind.i64.bits) = 21 from rfl, w64 (by omega) (by omega)]; simp
    · omega
  · constructor
    · simp only [shlI]
      rw [show (min ((7 * ((4 : Nat) : Int)).toNat) IntKind.i64.bits) = 28 from rfl, w64 (by omega) (by omega)]; simp
    · omega

/-- What a reader answers. -/
def ans (at0 : Nat) : Option (Nat × Nat) → (Int × Int × Bool × Unit) × Unit
  | none => ((0, 0, false, ()), ())
  | some (v, c) => (((v : Int), ((at0 + c : Nat) : Int), true, ()), ())

theorem p_ReadVarint_loop (s : List UInt8) (hs : s.length ≤ 100000) (at0 : Nat) (ha : at0 ≤ 1000000000) : ∀ (j k n : Nat), k + j = 5 → n < 128 ^ k → ∃ r, l_impl_ReadVarint_122 M s at0 n k = some r ∧ Sum.elim (fun _ => ((0, 0, false, ()), ())) id r = ans at0 (rd k n (s.drop (at0 + k))) := by
  intro j
  induction j with
  | zero =>
    intro k n hk hn
    obtain rfl : k = 5 := by omega
    refine ⟨.inl (), el_impl_ReadVarint_122 _ _ _ _ ?_, by rw [rd_five]; rfl⟩
    simp [ql_impl_ReadVarint_122]
  | succ j ih =>
    intro k n hk hn
    have hk5 : k < 5 := by omega
    have hn35 : n < 34359738368 := Nat.lt_of_lt_of_le hn (by
      have : 128 ^ k ≤ 128 ^ 5 := Nat.pow_le_pow_right (by omega) (by omega)
      omega)
    have e0 : IntKind.i64.wrap ((at0 : Int) + (k : Int)) = ((at0 + k : Nat) : Int) := by rw [w64 (by omega) (by omega)]; omega
    by_cases hlt : at0 + k < s.length
    · have hb := (s[at0 + k]).toNat_lt
      have e1 : IntKind.i64.wrap (((s[at0 + k]).toNat : Nat) : Int) = ((s[at0 + k]).toNat : Int) := w64 (by omega) (by omega)
      have e2 : IntKind.i64.wrap ((7 : Int) * (k : Int)) = 7 * (k : Int) := w64 (by omega) (by omega)
      have e3 : Int.tmod ((s[at0 + k]).toNat : Int) 128 = (((s[at0 + k]).toNat % 128 : Nat) : Int) := rfl
      obtain ⟨e4, e5⟩ := shl7 (b := (s[at0 + k]).toNat % 128) (k := k) (by omega) hk5
      have e6 : IntKind.i64.wrap ((n : Int) + (((s[at0 + k]).toNat % 128 * 128 ^ k : Nat) : Int)) = ((n + (s[at0 + k]).toNat % 128 * 128 ^ k : Nat) : Int) := by rw [w64 (by omega) (by omega)]; omega
      have e7 : IntKind.i64.wrap (((at0 + k : Nat) : Int) + 1) = ((at0 + (k + 1) : Nat) : Int) := by rw [inc_nat (by omega)]; congr 1
      rw [List.drop_eq_getElem_cons hlt]
      simp only [rd]
      rw [if_neg (by omega)]
      generalize hv : n + (s[at0 + k]).toNat % 128 * 128 ^ k = V at *
      have pre : ∀ r, (if (((s[at0 + k]).toNat : Int) < 128) then (if 0 < k then (if (s[at0 + k]).toNat = 0 then (some (Sum.inr (((0 : Int), (0 : Int), false, ()), ()))) else (if (V : Int) > 1073741823 then (some (Sum.inr (((0 : Int), (0 : Int), false, ()), ()))) else (some (Sum.inr (((V : Int), ((at0 + (k + 1) : Nat) : Int), true, ()), ()))))) else (if (V : Int) > 1073741823 then (some (Sum.inr (((0 : Int), (0 : Int), false, ()), ()))) else (some (Sum.inr (((V : Int), ((at0 + (k + 1) : Nat) : Int), true, ()), ()))))) else l_impl_ReadVarint_122 M s at0 V ((k + 1 : Nat) : Int)) = some r → l_impl_ReadVarint_122 M s at0 n k = some r := by
        intro r hr
        apply el_impl_ReadVarint_122
        simp only [ql_impl_ReadVarint_122]
        rw [if_pos (by simp; omega), e0, if_pos (by simp; omega), idx_lt hlt]
        simp only [Option.bind_some]
        rw [if_neg (by omega), e2, if_neg (by omega), e1, e3, e4, e6, e7, inc_nat (by omega)]
        rw [← hr]
        by_cases c1 : ((s[at0 + k]).toNat : Int) < 128
        · rw [if_pos (by simpa using c1), if_pos c1]
          by_cases c2 : 0 < k
          · rw [if_pos (by simp; omega), if_pos c2]
            by_cases c3 : (s[at0 + k]).toNat = 0
            · rw [if_pos (by simp [c3]), if_pos c3]
            · rw [if_neg (by simp; omega), if_neg c3]
              by_cases c4 : (V : Int) > 1073741823
              · rw [if_pos (by simpa using c4), if_pos c4]
              · rw [if_neg (by simpa using c4), if_neg c4]
          · rw [if_neg (by simp; omega), if_neg c2]
            by_cases c4 : (V : Int) > 1073741823
            · rw [if_pos (by simpa using c4), if_pos c4]
            · rw [if_neg (by simpa using c4), if_neg c4]
        · rw [if_neg (by simpa using c1), if_neg c1]
      by_cases c1 : (s[at0 + k]).toNat < 128
      · rw [if_pos c1]
        by_cases c2 : (0 < k ∧ (s[at0 + k]).toNat = 0) ∨ 1073741823 < V
        · rw [if_pos c2]
          refine ⟨.inr ((0, 0, false, ()), ()), pre _ ?_, rfl⟩
          rw [if_pos (by omega)]
          by_cases c3 : 0 < k
          · rw [if_pos c3]
            by_cases c4 : (s[at0 + k]).toNat = 0
            · rw [if_pos c4]
            · rw [if_neg c4, if_pos (by omega)]
          · rw [if_neg c3, if_pos (by omega)]
        · rw [if_neg c2]
          refine ⟨.inr (((V : Int), ((at0 + (k + 1) : Nat) : Int), true, ()), ()), pre _ ?_, rfl⟩
          rw [if_pos (by omega)]
          by_cases c3 : 0 < k
          · rw [if_pos c3, if_neg (fun h => c2 (.inl ⟨c3, h⟩)), if_neg (by omega)]
          · rw [if_neg c3, if_neg (by omega)]
      · rw [if_neg c1]
        obtain ⟨r, r1, r2⟩ := ih (k + 1) V (by omega) (by
          rw [← hv, Nat.pow_succ]
          have : (s[at0 + k]).toNat % 128 * 128 ^ k ≤ 127 * 128 ^ k := Nat.mul_le_mul_right _ (by omega)
          omega)
        refine ⟨r, pre _ ?_, by rw [r2]; rw [Nat.add_assoc]⟩
        rw [if_neg (by omega)]
        exact r1
    · refine ⟨.inl (), el_impl_ReadVarint_122 _ _ _ _ ?_, by rw [List.drop_eq_nil_of_le (by omega)]; rfl⟩
      simp only [ql_impl_ReadVarint_122]
      rw [if_pos (by simp; omega), e0, if_neg (by simp; omega)]

/-- What is read at a place. -/
def rV (s : List UInt8) (at0 : Nat) : Option (Nat × Nat) := rd 0 0 (s.drop at0)

theorem p_ReadVarint (s : List UInt8) (hs : s.length ≤ 100000) (at0 : Nat) (ha : at0 ≤ 1000000000) : c_impl_ReadVarint M s at0 = some (ans at0 (rV s at0)) := by
  obtain ⟨r, r1, r2⟩ := p_ReadVarint_loop s hs at0 ha 5 0 0 (by omega) (by simp)
  rw [show ((0 : Nat) : Int) = 0 from rfl] at r1
  apply e_impl_ReadVarint
  simp only [q_impl_ReadVarint]
  rw [if_neg (by simp; omega), if_neg (by simp <;> omega), r1]
  rw [Nat.add_zero] at r2
  rw [rV, ← r2]
  cases r <;> rfl

theorem rd_le : ∀ (s : List UInt8) (k n v c : Nat), rd k n s = some (v, c) → v ≤ 1073741823 ∧ k < c ∧ c ≤ k + s.length
  | [], _, _, _, _, h => by simp [rd] at h
  | b :: r, k, n, v, c, h => by
    simp only [rd] at h
    split at h
    · cases h
    · split at h
      · split at h
        · cases h
        · rename_i hc
          simp only [Option.some.injEq, Prod.mk.injEq] at h
          obtain ⟨rfl, rfl⟩ := h
          simp; omega
      · have := rd_le r _ _ _ _ h
        simp; omega

theorem rV_le {s : List UInt8} {at0 v c : Nat} (h : rV s at0 = some (v, c)) : v ≤ 1073741823 ∧ at0 + c ≤ s.length := by
  have := rd_le _ _ _ _ _ h
  simp at this
  omega

/-- The reference's reader. -/
theorem p_l10Read_loop (s : List UInt8) (hs : s.length ≤ 100000) (at0 : Nat) (ha : at0 ≤ s.length) : ∀ (j k : Nat) (p : List UInt8), k + j = 5 → at0 + k ≤ s.length → (s.take (at0 + k)).drop at0 = p → (∀ c ∈ p, 128 ≤ c.toNat) → ∃ r, l_spec_l10Read_58 M s at0 (vf p) k = some r ∧ Sum.elim (fun _ => ((0, 0, false, ()), ())) id r = ans at0 (rd k (vf p) (s.drop (at0 + k))) := by
  intro j
  induction j with
  | zero =>
    intro k p hk hle hp hc
    obtain rfl : k = 5 := by omega
    refine ⟨.inl (), el_spec_l10Read_58 _ _ _ _ ?_, by rw [rd_five]; rfl⟩
    simp [ql_spec_l10Read_58]
  | succ j ih =>
    intro k p hk hle hp hc
    have hk5 : k < 5 := by omega
    have hpl : p.length = k := by rw [← hp, List.length_drop, List.length_take]; omega
    have hn := vf_lt p
    rw [hpl] at hn
    have hn35 : vf p < 34359738368 := Nat.lt_of_lt_of_le hn (by
      have : 128 ^ k ≤ 128 ^ 5 := Nat.pow_le_pow_right (by omega) (by omega)
      omega)
    have e0 : IntKind.i64.wrap ((at0 : Int) + (k : Int)) = ((at0 + k : Nat) : Int) := by rw [w64 (by omega) (by omega)]; omega
    by_cases hlt : at0 + k < s.length
    · have hb := (s[at0 + k]).toNat_lt
      have hp1 : (s.take (at0 + (k + 1))).drop at0 = p ++ [s[at0 + k]] := by
        rw [show at0 + (k + 1) = at0 + k + 1 by omega, List.take_succ_eq_append_getElem hlt, List.drop_append_of_le_length (by rw [List.length_take]; omega), hp]
      have e1 : IntKind.i64.wrap (((s[at0 + k]).toNat : Nat) : Int) = ((s[at0 + k]).toNat : Int) := w64 (by omega) (by omega)
      have e2 : IntKind.i64.wrap ((7 : Int) * (k : Int)) = 7 * (k : Int) := w64 (by omega) (by omega)
      have e2' : IntKind.u64.wrap (7 * (k : Int)) = 7 * (k : Int) := wu64 (by omega) (by omega)
      have e3 : Int.tmod ((s[at0 + k]).toNat : Int) 128 = (((s[at0 + k]).toNat % 128 : Nat) : Int) := rfl
      obtain ⟨e4, e5⟩ := shl7 (b := (s[at0 + k]).toNat % 128) (k := k) (by omega) hk5
      have e6 : IntKind.i64.wrap ((vf p : Int) + (((s[at0 + k]).toNat % 128 * 128 ^ k : Nat) : Int)) = ((vf p + (s[at0 + k]).toNat % 128 * 128 ^ k : Nat) : Int) := by rw [w64 (by omega) (by omega)]; omega
      have e7 : IntKind.i64.wrap (((at0 + k : Nat) : Int) + 1) = ((at0 + (k + 1) : Nat) : Int) := by rw [inc_nat (by omega)]; congr 1
      have hV : vf p + (s[at0 + k]).toNat % 128 * 128 ^ k = vf (p ++ [s[at0 + k]]) := by rw [vf_app, hpl]
      have hVb := vf_lt (p ++ [s[at0 + k]])
      have hVb2 : vf (p ++ [s[at0 + k]]) < 34359738368 := Nat.lt_of_lt_of_le hVb (by
        have : 128 ^ (p ++ [s[at0 + k]]).length ≤ 128 ^ 5 := Nat.pow_le_pow_right (by omega) (by simp; omega)
        omega)
      rw [List.drop_eq_getElem_cons hlt]
      simp only [rd]
      rw [if_neg (by omega), hV]
      rw [hV] at e6
      by_cases c1 : (s[at0 + k]).toNat < 128
      · rw [if_pos c1]
        have hiff := enc_vf_iff hc c1
        have henc := p_l10Varint (vf (p ++ [s[at0 + k]])) (by omega)
        have pre : ∀ r, (if (vf (p ++ [s[at0 + k]]) : Int) > 1073741823 then (some (Sum.inr (((0 : Int), (0 : Int), false, ()), ()))) else (if (!(enc (vf (p ++ [s[at0 + k]])) == p ++ [s[at0 + k]])) = true then (some (Sum.inr (((0 : Int), (0 : Int), false, ()), ()))) else (some (Sum.inr (((vf (p ++ [s[at0 + k]]) : Int), ((at0 + (k + 1) : Nat) : Int), true, ()), ()))))) = some r → l_spec_l10Read_58 M s at0 (vf p) k = some r := by
          intro r hr
          apply el_spec_l10Read_58
          simp only [ql_spec_l10Read_58]
          rw [if_pos (by simp; omega), e0, if_pos (by simp; omega), idx_lt hlt]
          simp only [Option.bind_some]
          rw [if_neg (by omega), e2, e2', if_neg (by omega), e1, if_pos (by simp; omega), e3, e4, e6, e7, henc]
          simp only [Option.bind_some]
          rw [← hr, Int.toNat_natCast, Int.toNat_natCast, hp1]
          by_cases c4 : (vf (p ++ [s[at0 + k]]) : Int) > 1073741823
          · rw [if_pos (by simpa using c4), if_pos c4]
          · rw [if_neg (by simpa using c4), if_neg c4, if_pos (by omega)]
        by_cases c2 : 1073741823 < vf (p ++ [s[at0 + k]])
        · rw [if_pos (.inr c2)]
          refine ⟨.inr ((0, 0, false, ()), ()), pre _ ?_, rfl⟩
          rw [if_pos (by omega)]
        · by_cases c3 : 0 < k ∧ (s[at0 + k]).toNat = 0
          · rw [if_pos (.inl c3)]
            refine ⟨.inr ((0, 0, false, ()), ()), pre _ ?_, rfl⟩
            have hne : enc (vf (p ++ [s[at0 + k]])) ≠ p ++ [s[at0 + k]] := fun h => by
              rcases hiff.1 h with h | h
              · rw [h] at hpl; simp at hpl; omega
              · exact h c3.2
            rw [if_neg (by omega), if_pos (by simpa using hne)]
          · rw [if_neg (fun h => h.elim c3 c2)]
            refine ⟨.inr (((vf (p ++ [s[at0 + k]]) : Int), ((at0 + (k + 1) : Nat) : Int), true, ()), ()), pre _ ?_, rfl⟩
            have he : enc (vf (p ++ [s[at0 + k]])) = p ++ [s[at0 + k]] := hiff.2 (by
              by_cases hk0 : k = 0
              · exact .inl (List.length_eq_zero_iff.1 (by omega))
              · exact .inr fun h => c3 ⟨by omega, h⟩)
            rw [if_neg (by omega), if_neg (by simp [he])]
      · rw [if_neg c1]
        obtain ⟨r, r1, r2⟩ := ih (k + 1) (p ++ [s[at0 + k]]) (by omega) (by omega) hp1 (fun c hcm => by
          rcases List.mem_append.1 hcm with h | h
          · exact hc c h
          · rw [List.mem_singleton.1 h]; omega)
        refine ⟨r, el_spec_l10Read_58 _ _ _ _ ?_, by rw [r2]; rw [Nat.add_assoc]⟩
        simp only [ql_spec_l10Read_58]
        rw [if_pos (by simp; omega), e0, if_pos (by simp; omega), idx_lt hlt]
        simp only [Option.bind_some]
        rw [if_neg (by omega), e2, e2', if_neg (by omega), e1, if_neg (by simp; omega), e3, e4, e6, inc_nat (by omega)]
        exact r1
    · refine ⟨.inl (), el_spec_l10Read_58 _ _ _ _ ?_, by rw [List.drop_eq_nil_of_le (by omega)]; rfl⟩
      simp only [ql_spec_l10Read_58]
      rw [if_pos (by simp; omega), e0, if_neg (by simp; omega)]

theorem p_l10Read (s : List UInt8) (hs : s.length ≤ 100000) (at0 : Nat) (ha : at0 ≤ s.length) : c_spec_l10Read M s at0 = some (ans at0 (rV s at0)) := by
  obtain ⟨r, r1, r2⟩ := p_l10Read_loop s hs at0 ha 5 0 [] (by omega) (by omega) (by simp) (by simp)
  simp only [vf] at r1 r2
  rw [show ((0 : Nat) : Int) = 0 from rfl] at r1
  apply e_spec_l10Read
  simp only [q_spec_l10Read, r1]
  rw [Nat.add_zero] at r2
  rw [rV, ← r2]
  cases r <;> rfl

def unz (z : Nat) : Int := if z % 2 = 1 then -(((z + 1) / 2 : Nat) : Int) else ((z / 2 : Nat) : Int)

theorem p_l10UnZig (z : Nat) (h : z ≤ 4611686018427387904) : c_spec_l10UnZig M z = some ((unz z, ()), ()) := by
  apply e_spec_l10UnZig
  simp only [q_spec_l10UnZig]
  have e1 : Int.tmod (z : Int) 2 = ((z % 2 : Nat) : Int) := rfl
  have e2 : Int.tdiv (z : Int) 2 = ((z / 2 : Nat) : Int) := rfl
  rw [if_neg (by omega), e1, e2]
  unfold unz
  by_cases h2 : z % 2 = 1
  · have e3 : Int.tdiv (0 - ((z : Int) + 1)) 2 = -(((z + 1) / 2 : Nat) : Int) := by
      rw [Int.zero_sub, Int.neg_tdiv]; rfl
    rw [if_pos (by rw [h2]; rfl), if_neg (by omega), w64 (x := (z : Int) + 1) (by omega) (by omega), w64 (x := 0 - ((z : Int) + 1)) (by omega) (by omega), e3, w64 (by omega) (by omega), if_pos h2]
  · rw [if_neg (by simp; omega), if_neg (by omega), w64 (by omega) (by omega), if_neg h2]

def uOK (z : Int) : Bool := decide (0 ≤ z) && decide (z ≤ 1073741822)

theorem uOK_iff {z : Int} : uOK z = true ↔ 0 ≤ z ∧ z ≤ 1073741822 := by simp [uOK]

theorem p_impl_UnZig (z : Int) : c_impl_UnZig M z = some ((if uOK z = true then unz z.toNat else 0, uOK z, ()), ()) := by
  apply e_impl_UnZig
  simp only [q_impl_UnZig, decide_eq_true_eq]
  by_cases h : uOK z = true
  · have hn := uOK_iff.1 h
    rw [if_neg (by omega), if_neg (by omega), h, if_pos rfl]
    obtain ⟨m, rfl⟩ : ∃ m : Nat, z = (m : Int) := ⟨z.toNat, by omega⟩
    rw [Int.toNat_natCast]
    have e1 : Int.tmod (m : Int) 2 = ((m % 2 : Nat) : Int) := rfl
    have e2 : Int.tdiv (m : Int) 2 = ((m / 2 : Nat) : Int) := rfl
    rw [if_neg (by omega), e1, e2]
    unfold unz
    by_cases h2 : m % 2 = 1
    · have e3 : Int.tdiv (0 - ((m : Int) + 1)) 2 = -(((m + 1) / 2 : Nat) : Int) := by
        rw [Int.zero_sub, Int.neg_tdiv]; rfl
      rw [if_pos (by rw [h2]; rfl), if_neg (by omega), w64 (x := (m : Int) + 1) (by omega) (by omega), w64 (x := 0 - ((m : Int) + 1)) (by omega) (by omega), e3, w64 (by omega) (by omega), if_pos h2]
    · rw [if_neg (by simp; omega), if_neg (by omega), w64 (by omega) (by omega), if_neg h2]
  · have hn : ¬ (0 ≤ z ∧ z ≤ 1073741822) := fun h' => h (uOK_iff.2 h')
    rw [Bool.not_eq_true] at h
    rw [h]
    by_cases h2 : z < 0
    · rw [if_pos h2]; rfl
    · rw [if_neg h2, if_pos (by omega)]; rfl

/-! ### Reading lists -/
/-- What a list's reader answers behind its number of numbers. -/
def rL (s : List UInt8) : Nat → Nat → Int → List Int → Option (List Int × Nat)
  | 0, at0, _, l => some (l, at0)
  | m + 1, at0, last, l => match rV s at0 with
    | none => none
    | some (v, c) => if v = 1073741823 then none else
      if -1073741823 ≤ last + unz v ∧ last + unz v ≤ 1073741823 then rL s m (at0 + c) (last + unz v) (l ++ [last + unz v]) else none

def ansL : Option (List Int × Nat) → (List Int × Int × Bool × Unit) × Unit
  | none => (([], 0, false, ()), ())
  | some (l, p) => ((l, (p : Int), true, ()), ())

theorem unz_bd {v : Nat} (h : v ≤ 1073741823) : -1073741824 ≤ unz v ∧ unz v ≤ 1073741824 := by
  unfold unz; split <;> omega

theorem p_l10ReadList_loop (s : List UInt8) (hs : s.length ≤ 100000) : ∀ (m at0 : Nat) (last : Int) (l : List Int), at0 ≤ s.length → m + l.length ≤ 1000 → -1073741823 ≤ last → last ≤ 1073741823 → ∃ r, l_spec_l10ReadList_252 M s at0 m l last = some r ∧ Sum.elim (fun y => ((y.2.1, y.1, true, ()), ())) id r = ansL (rL s m at0 last l) := by
  intro m
  induction m with
  | zero =>
    intro at0 last l _ _ _ _
    refine ⟨.inl ((at0 : Int), l, ()), el_spec_l10ReadList_252 _ _ _ _ _ ?_, rfl⟩
    simp [ql_spec_l10ReadList_252]
  | succ m ih =>
    intro at0 last l ha hm h0 h1
    have pre : ∀ r, ((c_spec_l10Read M s at0).bind fun r1 => (if (!r1.1.2.2.1) = true then (some (.inr (([], (0 : Int), false, ()), ()))) else (if (r1.1.1 == (1073741823 : Int)) = true then (some (.inr (([], (0 : Int), false, ()), ()))) else ((c_spec_l10UnZig M r1.1.1).bind fun r2 => ((c_spec_l1In M (IntKind.i64.wrap (last + r2.1.1)) (-1073741823 : Int) (1073741823 : Int)).bind fun r3 => (if (!r3.1.1) = true then (some (.inr (([], (0 : Int), false, ()), ()))) else (if (List.length l + List.length ([(IntKind.i64.wrap (last + r2.1.1))] : List Int)) * 8 ≤ 140737488355328 then (l_spec_l10ReadList_252 M s r1.1.2.1 (m : Int) (l ++ ([(IntKind.i64.wrap (last + r2.1.1))] : List Int)) (IntKind.i64.wrap (last + r2.1.1))) else none))))))) = some r → l_spec_l10ReadList_252 M s at0 ((m + 1 : Nat) : Int) l last = some r := by
      intro r hr
      apply el_spec_l10ReadList_252
      simp only [ql_spec_l10ReadList_252]
      rw [if_pos (by simp <;> omega), w64 (x := ((m + 1 : Nat) : Int) - 1) (by omega) (by omega), show ((m + 1 : Nat) : Int) - 1 = (m : Int) by omega]
      exact hr
    rw [p_l10Read s hs at0 ha] at pre
    simp only [Option.bind_some] at pre
    simp only [rL]
    cases hv : rV s at0 with
    | none =>
      rw [hv] at pre
      exact ⟨.inr (([], 0, false, ()), ()), pre _ (by simp [ans]), rfl⟩
    | some vc =>
      obtain ⟨v, c⟩ := vc
      rw [hv] at pre
      have hle := rV_le hv
      have hu := unz_bd hle.1
      simp only [ans, p_l10UnZig v (by omega), Option.bind_some, p_l1In] at pre
      simp only
      by_cases h2 : v = 1073741823
      · rw [if_pos h2]
        refine ⟨.inr (([], 0, false, ()), ()), pre _ ?_, rfl⟩
        rw [if_neg (by simp), if_pos (by simp [h2])]
      · rw [if_neg h2]
        rw [w64 (x := last + unz v) (by omega) (by omega)] at pre
        by_cases h3 : -1073741823 ≤ last + unz v ∧ last + unz v ≤ 1073741823
        · rw [if_pos h3]
          obtain ⟨r, r1, r2⟩ := ih (at0 + c) (last + unz v) (l ++ [last + unz v]) (by omega) (by simp; omega) h3.1 h3.2
          refine ⟨r, pre _ ?_, r2⟩
          rw [if_neg (by simp), if_neg (by simp; omega), if_neg (by simp [h3]), if_pos (by simp; omega)]
          exact r1
        · rw [if_neg h3]
          refine ⟨.inr (([], 0, false, ()), ()), pre _ ?_, rfl⟩
          rw [if_neg (by simp), if_neg (by simp; omega), if_pos (by simp; omega)]

theorem p_ReadList_loop (s : List UInt8) (hs : s.length ≤ 100000) (cnt : Nat) (hcnt : cnt ≤ 1000) : ∀ (m i at0 : Nat) (last : Int) (l : List Int), i + m = cnt → at0 ≤ s.length → m + l.length ≤ 1000 → -1073741823 ≤ last → last ≤ 1073741823 → ∃ r, l_impl_ReadList_506 M s at0 l last cnt i = some r ∧ Sum.elim (fun y => ((y.2.1, y.1, true, ()), ())) id r = ansL (rL s m at0 last l) := by
  intro m
  induction m with
  | zero =>
    intro i at0 last l hi _ _ _ _
    obtain rfl : i = cnt := by omega
    refine ⟨.inl ((at0 : Int), l, ()), el_impl_ReadList_506 _ _ _ _ _ _ ?_, rfl⟩
    simp [ql_impl_ReadList_506]
  | succ m ih =>
    intro i at0 last l hi ha hm h0 h1
    simp only [rL]
    cases hv : rV s at0 with
    | none =>
      refine ⟨.inr (([], 0, false, ()), ()), el_impl_ReadList_506 _ _ _ _ _ _ ?_, rfl⟩
      simp only [ql_impl_ReadList_506, p_ReadVarint s hs at0 (by omega), hv, ans, Option.bind_some, Sum.elim_inl]
      rw [if_pos (by simp <;> omega)]
      try simp
    | some vc =>
      obtain ⟨v, c⟩ := vc
      have hle := rV_le hv
      have hu := unz_bd hle.1
      simp only
      by_cases h2 : v = 1073741823
      · rw [if_pos h2]
        refine ⟨.inr (([], 0, false, ()), ()), el_impl_ReadList_506 _ _ _ _ _ _ ?_, rfl⟩
        have hu0 : uOK (v : Int) = false := by rw [h2]; rfl
        simp only [ql_impl_ReadList_506, p_ReadVarint s hs at0 (by omega), hv, ans, Option.bind_some, Sum.elim_inl, p_impl_UnZig, hu0, Bool.not_true, Bool.not_false, Bool.false_eq_true, if_false, if_true]
        rw [if_pos (by simp <;> omega)]
        try simp
      · have hu1 : uOK (v : Int) = true := uOK_iff.2 ⟨by omega, by omega⟩
        have hw : IntKind.i64.wrap (last + unz v) = last + unz v := w64 (by omega) (by omega)
        rw [if_neg h2]
        by_cases h3 : -1073741823 ≤ last + unz v ∧ last + unz v ≤ 1073741823
        · rw [if_pos h3]
          obtain ⟨r, r1, r2⟩ := ih (i + 1) (at0 + c) (last + unz v) (l ++ [last + unz v]) (by omega) (by omega) (by simp <;> omega) h3.1 h3.2
          refine ⟨r, el_impl_ReadList_506 _ _ _ _ _ _ ?_, r2⟩
          have n1 : ¬ last + unz v < -1073741823 := by omega
          have n2 : ¬ last + unz v > 1073741823 := by omega
          simp only [ql_impl_ReadList_506, p_ReadVarint s hs at0 (by omega), hv, ans, Option.bind_some, Sum.elim_inl, p_impl_UnZig, hu1, Int.toNat_natCast, hw, inc_nat (show i < 4611686018427387904 by omega), Bool.not_true, Bool.false_eq_true, if_false, if_true, n1, n2, decide_false]
          rw [if_pos (by simp <;> omega), if_pos (by simp <;> omega)]
          exact r1
        · rw [if_neg h3]
          refine ⟨.inr (([], 0, false, ()), ()), el_impl_ReadList_506 _ _ _ _ _ _ ?_, rfl⟩
          by_cases n1 : last + unz v < -1073741823
          · simp only [ql_impl_ReadList_506, p_ReadVarint s hs at0 (by omega), hv, ans, Option.bind_some, Sum.elim_inl, p_impl_UnZig, hu1, Int.toNat_natCast, hw, Bool.not_true, Bool.false_eq_true, if_false, if_true, n1, decide_true]
            rw [if_pos (by simp <;> omega)]
          · have n2 : last + unz v > 1073741823 := by omega
            simp only [ql_impl_ReadList_506, p_ReadVarint s hs at0 (by omega), hv, ans, Option.bind_some, Sum.elim_inl, p_impl_UnZig, hu1, Int.toNat_natCast, hw, Bool.not_true, Bool.false_eq_true, if_false, if_true, n1, n2, decide_true, decide_false]
            rw [if_pos (by simp <;> omega)]

/-- What a list's reader answers. -/
def rA (s : List UInt8) (at0 : Nat) : Option (List Int × Nat) := match rV s at0 with
  | none => none
  | some (v, c) => if 200 < v then none else rL s v (at0 + c) 0 []

theorem p_impl_ReadList (s : List UInt8) (hs : s.length ≤ 100000) (at0 : Nat) (ha : at0 ≤ 1000000000) : c_impl_ReadList M s at0 = some (ansL (rA s at0)) := by
  apply e_impl_ReadList
  simp only [q_impl_ReadList, p_ReadVarint s hs at0 (by omega), Option.bind_some, rA]
  cases hv : rV s at0 with
  | none => rfl
  | some vc =>
    obtain ⟨v, c⟩ := vc
    have hle := rV_le hv
    simp only [ans, Option.bind_some, Sum.elim_inl, Bool.not_true, Bool.false_eq_true, if_false]
    by_cases h : 200 < v
    · have d : decide ((v : Int) > 200) = true := by simp; omega
      rw [if_pos h]
      simp only [d, if_true]
      rfl
    · have d : decide ((v : Int) > 200) = false := by simp; omega
      rw [if_neg h]
      obtain ⟨r, r1, r2⟩ := p_ReadList_loop s hs v (by omega) v 0 (at0 + c) 0 [] (by omega) (by omega) (by simp; omega) (by omega) (by omega)
      rw [show ((0 : Nat) : Int) = 0 from rfl] at r1
      simp only [d, Bool.false_eq_true, if_false, r1, Option.bind_some]
      rw [← r2]
      cases r <;> rfl

theorem p_l10ReadList (s : List UInt8) (hs : s.length ≤ 100000) (at0 : Nat) (ha : at0 ≤ s.length) : c_spec_l10ReadList M s at0 = some (ansL (rA s at0)) := by
  have hr := p_l10Read s hs at0 ha
  apply e_spec_l10ReadList
  simp only [rA]
  cases hv : rV s at0 with
  | none =>
    rw [hv] at hr
    have hr' : c_spec_l10Read M s at0 = some ((0, 0, false, ()), ()) := hr
    simp only [q_spec_l10ReadList, hr', Option.bind_some]
    rfl
  | some vc =>
    obtain ⟨v, c⟩ := vc
    rw [hv] at hr
    have hr' : c_spec_l10Read M s at0 = some (((v : Int), ((at0 + c : Nat) : Int), true, ()), ()) := hr
    have hle := rV_le hv
    simp only [q_spec_l10ReadList, hr', Option.bind_some, Bool.not_true, Bool.false_eq_true, if_false]
    by_cases h : 200 < v
    · have d : (v : Int) > 200 := by omega
      rw [if_pos h, if_pos (by simpa using d)]
      rfl
    · have d : ¬ (v : Int) > 200 := by omega
      rw [if_neg h, if_neg (by simpa using d)]
      obtain ⟨r, r1, r2⟩ := p_l10ReadList_loop s hs v (at0 + c) 0 [] (by omega) (by simp; omega) (by omega) (by omega)
      rw [r1, ← r2]
      cases r <;> rfl

theorem rL_len (s : List UInt8) : ∀ (m at0 : Nat) (last : Int) (l : List Int) (r : List Int) (p : Nat), rL s m at0 last l = some (r, p) → r.length = l.length + m := by
  intro m
  induction m with
  | zero =>
    intro at0 last l r p h
    simp only [rL, Option.some.injEq, Prod.mk.injEq] at h
    rw [← h.1]; rfl
  | succ m ih =>
    intro at0 last l r p h
    simp only [rL] at h
    split at h
    · cases h
    · split at h
      · cases h
      · split at h
        · have := ih _ _ _ _ _ h
          simp at this; omega
        · cases h

theorem rA_len {s : List UInt8} {at0 : Nat} : (ansL (rA s at0)).1.1.length ≤ 1000 := by
  cases h : rA s at0 with
  | none => simp [ansL]
  | some x =>
    obtain ⟨l, p⟩ := x
    simp only [rA] at h
    split at h
    · cases h
    · split at h
      · cases h
      · have := rL_len s _ _ _ _ _ _ h
        simp [ansL] at this ⊢; omega

end Go.Proofs.YtofkhmedmeihiaaRb.Ev
