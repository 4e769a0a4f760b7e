/- Plain laws: numbers in bytes: both programs write and read the same; reading inverts writing. No condition but sizes. -/
import Derived.Test.YtejklhcalinhpaaViEq
namespace Go.Proofs.YtejklhcalinhpaaVi.Ev
open Go
set_option autoImplicit false
set_option linter.unusedVariables false
set_option linter.unusedSimpArgs false

theorem w64 {x : Int} (h : -9223372036854775808 ≤ x) (k : x < 9223372036854775808) : IntKind.i64.wrap x = x := by
  rw [IntKind.wrap_i64]
  omega
theorem w8 {x : Int} (h : 0 ≤ x) (k : x < 256) : IntKind.u8.wrap x = x := by
  simp only [IntKind.wrap, IntKind.bits, IntKind.signed, Bool.false_and, Bool.false_eq_true, if_false]
  omega
theorem wu64 {x : Int} (h : 0 ≤ x) (k : x < 18446744073709551616) : IntKind.u64.wrap x = x := by
  simp only [IntKind.wrap, IntKind.bits, IntKind.signed, Bool.false_and, Bool.false_eq_true, if_false]
  omega
theorem idx_nat {α : Type} (xs : List α) (i : Nat) : idx xs (i : Int) = xs[i]? := by simp [idx]
theorem idx_lt {α : Type} {xs : List α} {i : Nat} (h : i < xs.length) : idx xs (i : Int) = some xs[i] := by simp [idx, h]
theorem inc_nat {i : Nat} (h : i < 4611686018427387904) : IntKind.i64.wrap ((i : Int) + 1) = ((i + 1 : Nat) : Int) := by
  rw [w64 (by omega) (by omega)]; rfl
theorem bytesStr_app (x y : List Int) : bytesStr (x ++ y) = bytesStr x ++ bytesStr y := by simp [bytesStr]
theorem bytesStr_len (x : List Int) : (bytesStr x).length = x.length := by simp [bytesStr]
theorem bytesStr_one (n : Nat) : bytesStr [(n : Int)] = [UInt8.ofNat n] := by simp [bytesStr]
theorem bytesStr_str (x : List UInt8) : bytesStr (strBytes x) = x := by
  induction x with
  | nil => rfl
  | cons b r ih => simp only [strBytes, bytesStr, List.map_cons] at ih ⊢; rw [ih]; simp
theorem strBytes_app (x y : List UInt8) : strBytes (x ++ y) = strBytes x ++ strBytes y := by simp [strBytes]
theorem strBytes_len (x : List UInt8) : (strBytes x).length = x.length := by simp [strBytes]
theorem strBytes_one {n : Nat} (h : n < 256) : strBytes [UInt8.ofNat n] = [(n : Int)] := by
  simp [strBytes]; omega

theorem p_l1In (x lo hi : Int) : c_spec_l1In M x lo hi = some ((decide (lo ≤ x) && decide (x ≤ hi), ()), ()) := by
  apply e_spec_l1In
  simp only [q_spec_l1In, decide_eq_true_eq]
  by_cases h : x ≥ lo
  · rw [if_pos h]; simp [h]
  · rw [if_neg h]; simp; omega

/-- The bytes of a number. -/
def enc (n : Nat) : List UInt8 := if h : n < 128 then [UInt8.ofNat n] else UInt8.ofNat (n % 128 + 128) :: enc (n / 128)
termination_by n
decreasing_by omega
theorem enc_lt {n : Nat} (h : n < 128) : enc n = [UInt8.ofNat n] := by rw [enc, dif_pos h]
theorem enc_ge {n : Nat} (h : ¬ n < 128) : enc n = UInt8.ofNat (n % 128 + 128) :: enc (n / 128) := by rw [enc, dif_neg h]
theorem enc_len : ∀ (j n : Nat), n < 128 ^ (j + 1) → (enc n).length ≤ j + 1 := by
  intro j
  induction j with
  | zero => intro n h; rw [enc_lt (by simpa using h)]; simp
  | succ j ih =>
    intro n h
    by_cases hn : n < 128
    · rw [enc_lt hn]; simp
    · rw [enc_ge hn]
      have := ih (n / 128) (by rw [Nat.div_lt_iff_lt_mul (by omega)]; rw [Nat.pow_succ] at h; exact h)
      simp; omega
theorem enc_pos (n : Nat) : 0 < (enc n).length := by
  by_cases hn : n < 128
  · rw [enc_lt hn]; simp
  · rw [enc_ge hn]; simp

theorem p_l10Varint_loop : ∀ (N n : Nat) (out : List UInt8), n ≤ N → out.length + n ≤ 4398046511104 → ∃ m : Nat, ∃ o : List UInt8, l_spec_l10Varint_28 M n out = some (.inl ((m : Int), o, ())) ∧ m < 128 ∧ o ++ [UInt8.ofNat m] = out ++ enc n ∧ o.length ≤ out.length + n := by
  intro N
  induction N with
  | zero =>
    intro n out hn _
    obtain rfl : n = 0 := by omega
    refine ⟨0, out, el_spec_l10Varint_28 _ _ ?_, by omega, by rw [enc_lt (by omega)], by omega⟩
    simp [ql_spec_l10Varint_28]
  | succ N ih =>
    intro n out hn hb
    by_cases h : n < 128
    · refine ⟨n, out, el_spec_l10Varint_28 _ _ ?_, h, by rw [enc_lt h], by omega⟩
      simp only [ql_spec_l10Varint_28]
      rw [if_neg (by simp; omega)]
    · obtain ⟨m, o, h1, h2, h3, h4⟩ := ih (n / 128) (out ++ [UInt8.ofNat (n % 128 + 128)]) (by omega) (by simp; omega)
      refine ⟨m, o, el_spec_l10Varint_28 _ _ ?_, h2, by rw [h3, enc_ge h]; simp, by simp at h4; omega⟩
      simp only [ql_spec_l10Varint_28]
      have e1 : Int.tmod (n : Int) 128 = ((n % 128 : Nat) : Int) := rfl
      have e2 : Int.tdiv (n : Int) 128 = ((n / 128 : Nat) : Int) := rfl
      rw [if_pos (by simp; omega), if_neg (by omega), e1, e2, w64 (x := ((n % 128 : Nat) : Int) + 128) (by omega) (by omega), w8 (by omega) (by omega), w64 (by omega) (by omega), show ((n % 128 : Nat) : Int) + 128 = ((n % 128 + 128 : Nat) : Int) by omega, bytesStr_one, if_pos (by simp; omega), if_neg (by omega)]
      exact h1
theorem p_l10Varint (n : Nat) (h : n ≤ 1099511627776) : c_spec_l10Varint M n = some ((enc n, ()), ()) := by
  obtain ⟨m, o, h1, h2, h3, h4⟩ := p_l10Varint_loop n n [] (by omega) (by simp; omega)
  apply e_spec_l10Varint
  simp only [q_spec_l10Varint, h1, Option.bind_some, Sum.elim_inl]
  rw [w8 (by omega) (by omega), bytesStr_one, if_pos (by simp at h4 ⊢; omega), h3]
  simp

theorem p_putVarint_loop : ∀ (N n : Nat) (out : List Int), n ≤ N → out.length + n ≤ 4398046511104 → ∃ m : Nat, ∃ o : List Int, l_impl_putVarint_12 M out n = some (.inl (o, (m : Int), ())) ∧ m < 128 ∧ o ++ [(m : Int)] = out ++ strBytes (enc n) ∧ o.length ≤ out.length + n := by
  intro N
  induction N with
  | zero =>
    intro n out hn _
    obtain rfl : n = 0 := by omega
    refine ⟨0, out, el_impl_putVarint_12 _ _ ?_, by omega, by rw [enc_lt (by omega), strBytes_one (by omega)], by omega⟩
    simp [ql_impl_putVarint_12]
  | succ N ih =>
    intro n out hn hb
    by_cases h : n < 128
    · refine ⟨n, out, el_impl_putVarint_12 _ _ ?_, h, by rw [enc_lt h, strBytes_one (by omega)], by omega⟩
      simp only [ql_impl_putVarint_12]
      rw [if_neg (by simp; omega)]
    · obtain ⟨m, o, h1, h2, h3, h4⟩ := ih (n / 128) (out ++ [((n % 128 + 128 : Nat) : Int)]) (by omega) (by simp; omega)
      refine ⟨m, o, el_impl_putVarint_12 _ _ ?_, h2, ?_, by simp at h4; omega⟩
      · simp only [ql_impl_putVarint_12]
        have e1 : Int.tmod (n : Int) 128 = ((n % 128 : Nat) : Int) := rfl
        have e2 : Int.tdiv (n : Int) 128 = ((n / 128 : Nat) : Int) := rfl
        rw [if_pos (by simp; omega), if_neg (by omega), e1, e2, w8 (x := ((n % 128 : Nat) : Int)) (by omega) (by omega), w8 (by omega) (by omega), w64 (by omega) (by omega), show ((n % 128 : Nat) : Int) + 128 = ((n % 128 + 128 : Nat) : Int) by omega, if_pos (by simp; omega), if_neg (by omega)]
        exact h1
      · rw [h3, enc_ge h]
        have := strBytes_one (n := n % 128 + 128) (by omega)
        rw [show UInt8.ofNat (n % 128 + 128) :: enc (n / 128) = [UInt8.ofNat (n % 128 + 128)] ++ enc (n / 128) from rfl, strBytes_app, this, List.append_assoc]
theorem p_putVarint (out : List Int) (n : Nat) (ho : out.length ≤ 1099511627776) (h : n ≤ 1099511627776) : c_impl_putVarint M out n = some ((out ++ strBytes (enc n), ()), ()) := by
  obtain ⟨m, o, h1, h2, h3, h4⟩ := p_putVarint_loop n n out (by omega) (by omega)
  apply e_impl_putVarint
  simp only [q_impl_putVarint, h1, Option.bind_some, Sum.elim_inl]
  rw [w8 (by omega) (by omega), if_pos (by simp; omega), h3]

/-- The bytes of a number that is in reach. -/
def vOK (n : Int) : Bool := decide (0 ≤ n) && decide (n ≤ 1073741823)
def vOf (n : Int) : List UInt8 := if vOK n = true then enc n.toNat else []
theorem vOK_iff {n : Int} : vOK n = true ↔ 0 ≤ n ∧ n ≤ 1073741823 := by simp [vOK]
theorem p_spec_VarintOf (n : Int) : c_spec_VarintOf M n = some ((vOf n, vOK n, ()), ()) := by
  apply e_spec_VarintOf
  simp only [q_spec_VarintOf, p_l1In, Option.bind_some, vOf]
  cases h : vOK n with
  | false =>
    have h' : (decide (0 ≤ n) && decide (n ≤ 1073741823)) = false := h
    rw [h']; rfl
  | true =>
    have h' : (decide (0 ≤ n) && decide (n ≤ 1073741823)) = true := h
    have hn := vOK_iff.1 h
    have := p_l10Varint n.toNat (by omega)
    rw [show ((n.toNat : Nat) : Int) = n by omega] at this
    rw [h', this]; rfl
theorem p_impl_VarintOf (n : Int) : c_impl_VarintOf M n = some ((vOf n, vOK n, ()), ()) := by
  have hN : c_impl_isNumber M n = some ((vOK n, ()), ()) := by
    apply e_impl_isNumber
    simp only [q_impl_isNumber, decide_eq_true_eq, vOK]
    by_cases h : n ≥ 0
    · rw [if_pos h, decide_eq_true h]; simp
    · rw [if_neg h, decide_eq_false (by omega)]; rfl
  apply e_impl_VarintOf
  simp only [q_impl_VarintOf, hN, Option.bind_some, vOf]
  cases h : vOK n with
  | false => rfl
  | true =>
    have hn := vOK_iff.1 h
    have := p_putVarint [] n.toNat (by simp) (by omega)
    rw [show ((n.toNat : Nat) : Int) = n by omega] at this
    rw [this]
    simp [bytesStr_str]

/-! ### Reading -/
/-- The number that some bytes stand for, lowest first. -/
def vf : List UInt8 → Nat
  | [] => 0
  | b :: r => b.toNat % 128 + 128 * vf r
theorem vf_app : ∀ (p : List UInt8) (b : UInt8), vf (p ++ [b]) = vf p + b.toNat % 128 * 128 ^ p.length
  | [], b => by simp [vf]
  | c :: p, b => by
    simp only [List.cons_append, vf, vf_app p b, List.length_cons, Nat.pow_succ]
    rw [Nat.mul_add, Nat.add_assoc, Nat.add_left_cancel_iff, Nat.add_left_cancel_iff, Nat.mul_comm (128 ^ p.length) 128, ← Nat.mul_assoc, ← Nat.mul_assoc, Nat.mul_comm 128 (b.toNat % 128)]
theorem vf_lt : ∀ (p : List UInt8), vf p < 128 ^ p.length
  | [] => by simp [vf]
  | c :: p => by
    have := vf_lt p
    have h2 := Nat.mod_lt c.toNat (show 128 > 0 by omega)
    simp only [vf, List.length_cons, Nat.pow_succ]
    omega
theorem u8_ofNat (b : UInt8) : UInt8.ofNat b.toNat = b := by simp
theorem vf_pos : ∀ (p : List UInt8) (b : UInt8), b.toNat % 128 ≠ 0 → vf (p ++ [b]) ≠ 0
  | [], b, h => by simp [vf]; omega
  | c :: p, b, h => by
    have := vf_pos p b h
    simp only [List.cons_append, vf]
    omega
theorem enc_vf : ∀ (p : List UInt8) (b : UInt8), (∀ c ∈ p, 128 ≤ c.toNat) → b.toNat < 128 → (p = [] ∨ b.toNat ≠ 0) → enc (vf (p ++ [b])) = p ++ [b]
  | [], b, _, hb, _ => by
    have : vf ([] ++ [b]) = b.toNat := by simp [vf]; omega
    rw [this, enc_lt hb, u8_ofNat]; rfl
  | c :: p, b, hp, hb, h => by
    have hc := hp c (by simp)
    have hc2 := c.toNat_lt
    have hb0 : b.toNat ≠ 0 := h.resolve_left (by simp)
    have h1 := vf_pos p b (by omega)
    have ih := enc_vf p b (fun d hd => hp d (by simp [hd])) hb (.inr hb0)
    have hv : vf (c :: p ++ [b]) = c.toNat % 128 + 128 * vf (p ++ [b]) := rfl
    rw [hv, enc_ge (by omega), show (c.toNat % 128 + 128 * vf (p ++ [b])) / 128 = vf (p ++ [b]) by omega, ih, show (c.toNat % 128 + 128 * vf (p ++ [b])) % 128 + 128 = c.toNat by omega, u8_ofNat]
    rfl
theorem enc_last : ∀ (N n : Nat), n ≤ N → (enc n).getLast? = some 0 → n = 0 := by
  intro N
  induction N with
  | zero => intro n h _; omega
  | succ N ih =>
    intro n hn h
    by_cases h1 : n < 128
    · rw [enc_lt h1] at h
      simp only [List.getLast?_singleton, Option.some.injEq] at h
      have := congrArg UInt8.toNat h
      simp at this
      omega
    · rw [enc_ge h1, List.getLast?_cons] at h
      have hne : enc (n / 128) ≠ [] := List.length_pos_iff.1 (enc_pos _)
      have := ih (n / 128) (by omega) (by rw [← h]; rw [List.getLast?_eq_some_getLast hne]; simp [List.getLast?_eq_some_getLast hne])
      omega
theorem enc_vf_iff {p : List UInt8} {b : UInt8} (hp : ∀ c ∈ p, 128 ≤ c.toNat) (hb : b.toNat < 128) : enc (vf (p ++ [b])) = p ++ [b] ↔ (p = [] ∨ b.toNat ≠ 0) := by
  refine ⟨fun h => ?_, enc_vf p b hp hb⟩
  by_cases hp0 : p = []
  · exact .inl hp0
  · refine .inr fun hb0 => ?_
    have hb1 : b = 0 := UInt8.toNat_inj.1 (by simpa using hb0)
    have h1 : (enc (vf (p ++ [b]))).getLast? = some 0 := by rw [h, hb1]; simp
    have h2 := enc_last _ _ (Nat.le_refl _) h1
    rw [h2, enc_lt (by omega)] at h
    cases p with
    | nil => exact hp0 rfl
    | cons c p => simp at h

/-- What is read from a place on, some bytes being read. -/
def rd : Nat → Nat → List UInt8 → Option (Nat × Nat)
  | _, _, [] => none
  | k, n, b :: r => if 5 ≤ k then none else
    if b.toNat < 128 then (if (0 < k ∧ b.toNat = 0) ∨ 1073741823 < n + b.toNat % 128 * 128 ^ k then none else some (n + b.toNat % 128 * 128 ^ k, k + 1))
    else rd (k + 1) (n + b.toNat % 128 * 128 ^ k) r
theorem rd_five {n : Nat} (s : List UInt8) : rd 5 n s = none := by cases s <;> simp [rd]

theorem shl7 {b k : Nat} (hb : b < 128) (hk : k < 5) : shlI .i64 (b : Int) (7 * (k : Int)) = ((b * 128 ^ k : Nat) : Int) ∧ b * 128 ^ k < 34359738368 := by
  have : k = 0 ∨ k = 1 ∨ k = 2 ∨ k = 3 ∨ k = 4 := by omega
  rcases this with rfl | rfl | rfl | rfl | rfl
  · constructor
    · simp only [shlI]; simp; rw [w64 (by omega) (by omega)]
    · simp; omega
  · constructor
    · simp only [shlI]
      rw [show (min ((7 * ((1 : Nat) : Int)).toNat) IntKind.i64.bits) = 7 from rfl, w64 (by omega) (by omega)]; simp
    · omega
  · constructor
    · simp only [shlI]
      rw [show (min ((7 * ((2 : Nat) : Int)).toNat) IntKind.i64.bits) = 14 from rfl, w64 (by omega) (by omega)]; simp
    · omega
  · constructor
    · simp only [shlI]
      rw [show (min ((7 * ((3 : Nat) : Int)).toNat) IntKind.i64.bits) = 21 from rfl, w64 (by omega) (by omega)]; simp
    · omega
  · constructor
    · simp only [shlI]
      rw [show (min ((7 * ((4 : Nat) : Int)).toNat) IntKind.i64.bits) = 28 from rfl, w64 (by omega) (by omega)]; simp
    · omega

end Go.Proofs.YtejklhcalinhpaaVi.Ev
