/- Plain laws: lists of numbers in bytes: both programs write and read the same; reading inverts writing. No condition but sizes. -/
import Derived.Test.YtejklhcalinhpaaViPVb
namespace Go.Proofs.YtejklhcalinhpaaVi.Ev
open Go
set_option autoImplicit false
set_option linter.unusedVariables false
set_option linter.unusedSimpArgs false

/-- A list in reach, behind a number. -/
def lOK : Int → List Int → Bool
  | _, [] => true
  | last, n :: r => (decide (-1073741823 ≤ n) && decide (n ≤ 1073741823)) && (zOK (n - last) && lOK n r)
/-- Its bytes. -/
def lb : Int → List Int → List UInt8
  | _, [] => []
  | last, n :: r => enc (zig (n - last)) ++ lb n r
theorem lb_len : ∀ (l : List Int) (last : Int), lOK last l = true → (lb last l).length ≤ 5 * l.length
  | [], _, _ => by simp [lb]
  | n :: r, last, h => by
    simp only [lOK, Bool.and_eq_true] at h
    have h1 := zig_le h.2.1
    have h2 := enc_len 4 (zig (n - last)) (by omega)
    have h3 := lb_len r n h.2.2
    simp only [lb, List.length_append, List.length_cons]
    omega

theorem p_spec_lb_loop (l : List Int) (hl : l.length ≤ 200) : ∀ (k i : Nat) (last : Int), i + k = l.length → -1073741823 ≤ last → last ≤ 1073741823 → l_spec_ListBytes_122 M l last l l.length i = some (if lOK last (l.drop i) = true then .inl (l, ()) else .inr (([], false, ()), ())) := by
  intro k
  induction k with
  | zero =>
    intro i last hi _ _
    obtain rfl : i = l.length := by omega
    apply el_spec_ListBytes_122
    simp [ql_spec_ListBytes_122, lOK]
  | succ k ih =>
    intro i last hi h0 h1
    have hlt : i < l.length := by omega
    apply el_spec_ListBytes_122
    rw [List.drop_eq_getElem_cons hlt]
    simp only [ql_spec_ListBytes_122]
    rw [if_pos (by simpa using hlt), idx_lt hlt]
    simp only [Option.bind_some, p_l1In]
    by_cases hb : -1073741823 ≤ l[i] ∧ l[i] ≤ 1073741823
    · rw [if_neg (by simp [hb]), w64 (x := l[i] - last) (by omega) (by omega)]
      have e : (decide (-536870911 ≤ l[i] - last) && decide (l[i] - last ≤ 536870911)) = zOK (l[i] - last) := rfl
      rw [e, inc_nat (by omega), ih (i + 1) l[i] (by omega) hb.1 hb.2]
      cases hz : zOK (l[i] - last) <;> simp [lOK, hz, hb]
    · rw [if_pos (by simp; omega)]
      have : lOK last (l[i] :: l.drop (i + 1)) = false := by simp only [lOK]; simp; omega
      rw [this]; rfl
theorem p_impl_lb_loop (l : List Int) (hl : l.length ≤ 200) : ∀ (k i : Nat) (last : Int) (out : List Int), i + k = l.length → -1073741823 ≤ last → last ≤ 1073741823 → out.length ≤ 1000000 + 5 * i → l_impl_ListBytes_250 M out last l l.length i = some (if lOK last (l.drop i) = true then .inl (out ++ strBytes (lb last (l.drop i)), ()) else .inr (([], false, ()), ())) := by
  intro k
  induction k with
  | zero =>
    intro i last out hi _ _ _
    obtain rfl : i = l.length := by omega
    apply el_impl_ListBytes_250
    simp [ql_impl_ListBytes_250, lOK, lb, strBytes]
  | succ k ih =>
    intro i last out hi h0 h1 ho
    have hlt : i < l.length := by omega
    apply el_impl_ListBytes_250
    rw [List.drop_eq_getElem_cons hlt]
    simp only [ql_impl_ListBytes_250]
    rw [if_pos (by simpa using hlt), idx_lt hlt]
    simp only [Option.bind_some]
    by_cases hb : -1073741823 ≤ l[i] ∧ l[i] ≤ 1073741823
    · rw [if_neg (by simp; omega), if_neg (by simp; omega), w64 (x := l[i] - last) (by omega) (by omega), p_impl_ZigOf]
      simp only [Option.bind_some]
      cases hz : zOK (l[i] - last) with
      | false => simp [lOK, hz]
      | true =>
        have hzl := zig_le hz
        have hel := enc_len 4 (zig (l[i] - last)) (by omega)
        simp only [if_true]
        rw [if_neg (by simp), p_putVarint out _ (by omega) (by omega), inc_nat (by omega)]
        simp only [Option.bind_some]
        rw [ih (i + 1) l[i] _ (by omega) hb.1 hb.2 (by simp [strBytes_len]; omega)]
        simp [lOK, lb, hz, hb, strBytes_app]
    · have : lOK last (l[i] :: l.drop (i + 1)) = false := by simp only [lOK]; simp; omega
      rw [this]
      by_cases h2 : l[i] < -1073741823
      · rw [if_pos (by simpa using h2)]; rfl
      · rw [if_neg (by simpa using h2), if_pos (by simp; omega)]; rfl
theorem p_l10List_loop (l : List Int) (hl : l.length ≤ 200) : ∀ (k i : Nat) (last : Int) (out : List UInt8), i + k = l.length → -1073741823 ≤ last → last ≤ 1073741823 → lOK last (l.drop i) = true → out.length ≤ 1000000 + 5 * i → l_spec_l10List_122 M out last l l.length i = some (.inl (out ++ lb last (l.drop i), ())) := by
  intro k
  induction k with
  | zero =>
    intro i last out hi _ _ _ _
    obtain rfl : i = l.length := by omega
    apply el_spec_l10List_122
    simp [ql_spec_l10List_122, lb]
  | succ k ih =>
    intro i last out hi h0 h1 hok ho
    have hlt : i < l.length := by omega
    apply el_spec_l10List_122
    rw [List.drop_eq_getElem_cons hlt] at hok ⊢
    simp only [lOK, Bool.and_eq_true, decide_eq_true_eq] at hok
    obtain ⟨⟨hb0, hb1⟩, hz, hr⟩ := hok
    have hzl := zig_le hz
    have hel := enc_len 4 (zig (l[i] - last)) (by omega)
    simp only [ql_spec_l10List_122]
    rw [if_pos (by simpa using hlt), idx_lt hlt]
    simp only [Option.bind_some]
    rw [w64 (x := l[i] - last) (by omega) (by omega), p_l10Zig _ (by omega) (by omega)]
    simp only [Option.bind_some]
    rw [p_l10Varint _ (by omega)]
    simp only [Option.bind_some]
    rw [if_pos (by omega), inc_nat (by omega), ih (i + 1) l[i] _ (by omega) hb0 hb1 hr (by simp; omega)]
    simp [lb]

def LOK (l : List Int) : Bool := decide (l.length ≤ 200) && lOK 0 l
def LB (l : List Int) : List UInt8 := enc l.length ++ lb 0 l
theorem p_spec_ListBytes (l : List Int) (hl : l.length ≤ 4611686018427387904) : c_spec_ListBytes M l = some ((if LOK l = true then LB l else [], LOK l, ()), ()) := by
  apply e_spec_ListBytes
  simp only [q_spec_ListBytes]
  by_cases h : l.length ≤ 200
  · have h1 := p_spec_lb_loop l h l.length 0 0 (by omega) (by omega) (by omega)
    rw [show ((0 : Nat) : Int) = 0 from rfl, List.drop_zero] at h1
    rw [if_neg (by simp; omega), h1]
    cases ho : lOK 0 l with
    | false =>
      have hL : LOK l = false := by simp [LOK, ho]
      simp [hL]
    | true =>
      have hL : LOK l = true := by simp [LOK, h, ho]
      have h2 := p_l10List_loop l h l.length 0 0 (enc l.length) (by omega) (by omega) (by omega) (by simpa using ho) (by have := enc_len 4 l.length (by omega); omega)
      rw [show ((0 : Nat) : Int) = 0 from rfl, List.drop_zero] at h2
      have h3 : c_spec_l10List M l = some ((LB l, ()), ()) := by
        apply e_spec_l10List
        simp only [q_spec_l10List, p_l10Varint l.length (by omega), Option.bind_some]
        rw [h2]; rfl
      simp [h3, hL]
  · have hL : LOK l = false := by simp [LOK, h]
    rw [if_pos (by simp; omega)]; simp [hL]
theorem p_impl_ListBytes (l : List Int) (hl : l.length ≤ 4611686018427387904) : c_impl_ListBytes M l = some ((if LOK l = true then LB l else [], LOK l, ()), ()) := by
  apply e_impl_ListBytes
  simp only [q_impl_ListBytes]
  by_cases h : l.length ≤ 200
  · have h1 := p_impl_lb_loop l h l.length 0 0 (strBytes (enc l.length)) (by omega) (by omega) (by omega) (by have := enc_len 4 l.length (by omega); simp [strBytes_len]; omega)
    rw [show ((0 : Nat) : Int) = 0 from rfl, List.drop_zero] at h1
    rw [if_neg (by simp; omega), p_putVarint [] l.length (by simp) (by omega)]
    simp only [Option.bind_some, List.nil_append]
    rw [h1]
    cases ho : lOK 0 l with
    | false =>
      have hL : LOK l = false := by simp [LOK, ho]
      simp [hL]
    | true =>
      have hL : LOK l = true := by simp [LOK, h, ho]
      simp [hL, LB, bytesStr_app, bytesStr_str]
  · have hL : LOK l = false := by simp [LOK, h]
    rw [if_pos (by simp; omega)]; simp [hL]

theorem p_sameInts_loop (a : List Int) (ha : a.length ≤ 17592186044416) : ∀ k i : Nat, i + k = a.length → l_laws_sameInts_58 M a a a.length i = some (.inl ()) := by
  intro k
  induction k with
  | zero =>
    intro i hi
    obtain rfl : i = a.length := by omega
    apply el_laws_sameInts_58
    simp [ql_laws_sameInts_58]
  | succ k ih =>
    intro i hi
    have h1 : i < a.length := by omega
    apply el_laws_sameInts_58
    simp only [ql_laws_sameInts_58]
    rw [if_pos (by simpa using h1), idx_lt h1, inc_nat (by omega)]
    simp only [Option.bind_some, bne_self_eq_false, Bool.false_eq_true, if_false]
    exact ih (i + 1) (by omega)
theorem p_sameInts (a : List Int) (ha : a.length ≤ 17592186044416) : c_laws_sameInts M a a = some ((true, ()), ()) := by
  apply e_laws_sameInts
  simp only [q_laws_sameInts, bne_self_eq_false, Bool.false_eq_true, if_false]
  have := p_sameInts_loop a ha a.length 0 (by omega)
  rw [show ((0 : Nat) : Int) = 0 from rfl] at this
  rw [this]
  rfl

/-! ### Reading lists -/
/-- What a list's reader answers behind its number of numbers. -/
def rL (s : List UInt8) : Nat → Nat → Int → List Int → Option (List Int × Nat)
  | 0, at0, _, l => some (l, at0)
  | m + 1, at0, last, l => match rV s at0 with
    | none => none
    | some (v, c) => if v = 1073741823 then none else
      if -1073741823 ≤ last + unz v ∧ last + unz v ≤ 1073741823 then rL s m (at0 + c) (last + unz v) (l ++ [last + unz v]) else none
def ansL : Option (List Int × Nat) → (List Int × Int × Bool × Unit) × Unit
  | none => (([], 0, false, ()), ())
  | some (l, p) => ((l, (p : Int), true, ()), ())

theorem unz_bd {v : Nat} (h : v ≤ 1073741823) : -1073741824 ≤ unz v ∧ unz v ≤ 1073741824 := by
  unfold unz; split <;> omega

theorem p_l10ReadList_loop (s : List UInt8) (hs : s.length ≤ 100000) : ∀ (m at0 : Nat) (last : Int) (l : List Int), at0 ≤ s.length → m + l.length ≤ 1000 → -1073741823 ≤ last → last ≤ 1073741823 → ∃ r, l_spec_l10ReadList_252 M s at0 m l last = some r ∧ Sum.elim (fun y => ((y.2.1, y.1, true, ()), ())) id r = ansL (rL s m at0 last l) := by
  intro m
  induction m with
  | zero =>
    intro at0 last l _ _ _ _
    refine ⟨.inl ((at0 : Int), l, ()), el_spec_l10ReadList_252 _ _ _ _ _ ?_, rfl⟩
    simp [ql_spec_l10ReadList_252]
  | succ m ih =>
    intro at0 last l ha hm h0 h1
    have pre : ∀ r, ((c_spec_l10Read M s at0).bind fun r1 => (if (!r1.1.2.2.1) = true then (some (.inr (([], (0 : Int), false, ()), ()))) else (if (r1.1.1 == (1073741823 : Int)) = true then (some (.inr (([], (0 : Int), false, ()), ()))) else ((c_spec_l10UnZig M r1.1.1).bind fun r2 => ((c_spec_l1In M (IntKind.i64.wrap (last + r2.1.1)) (-1073741823 : Int) (1073741823 : Int)).bind fun r3 => (if (!r3.1.1) = true then (some (.inr (([], (0 : Int), false, ()), ()))) else (if (List.length l + List.length ([(IntKind.i64.wrap (last + r2.1.1))] : List Int)) * 8 ≤ 140737488355328 then (l_spec_l10ReadList_252 M s r1.1.2.1 (m : Int) (l ++ ([(IntKind.i64.wrap (last + r2.1.1))] : List Int)) (IntKind.i64.wrap (last + r2.1.1))) else none))))))) = some r → l_spec_l10ReadList_252 M s at0 ((m + 1 : Nat) : Int) l last = some r := by
      intro r hr
      apply el_spec_l10ReadList_252
      simp only [ql_spec_l10ReadList_252]
      rw [if_pos (by simp <;> omega), w64 (x := ((m + 1 : Nat) : Int) - 1) (by omega) (by omega), show ((m + 1 : Nat) : Int) - 1 = (m : Int) by omega]
      exact hr
    rw [p_l10Read s hs at0 ha] at pre
    simp only [Option.bind_some] at pre
    simp only [rL]
    cases hv : rV s at0 with
    | none =>
      rw [hv] at pre
      exact ⟨.inr (([], 0, false, ()), ()), pre _ (by simp [ans]), rfl⟩
    | some vc =>
      obtain ⟨v, c⟩ := vc
      rw [hv] at pre
      have hle := rV_le hv
      have hu := unz_bd hle.1
      simp only [ans, p_l10UnZig v (by omega), Option.bind_some, p_l1In] at pre
      simp only
      by_cases h2 : v = 1073741823
      · rw [if_pos h2]
        refine ⟨.inr (([], 0, false, ()), ()), pre _ ?_, rfl⟩
        rw [if_neg (by simp), if_pos (by simp [h2])]
      · rw [if_neg h2]
        rw [w64 (x := last + unz v) (by omega) (by omega)] at pre
        by_cases h3 : -1073741823 ≤ last + unz v ∧ last + unz v ≤ 1073741823
        · rw [if_pos h3]
          obtain ⟨r, r1, r2⟩ := ih (at0 + c) (last + unz v) (l ++ [last + unz v]) (by omega) (by simp; omega) h3.1 h3.2
          refine ⟨r, pre _ ?_, r2⟩
          rw [if_neg (by simp), if_neg (by simp; omega), if_neg (by simp [h3]), if_pos (by simp; omega)]
          exact r1
        · rw [if_neg h3]
          refine ⟨.inr (([], 0, false, ()), ()), pre _ ?_, rfl⟩
          rw [if_neg (by simp), if_neg (by simp; omega), if_pos (by simp; omega)]

theorem p_ReadList_loop (s : List UInt8) (hs : s.length ≤ 100000) (cnt : Nat) (hcnt : cnt ≤ 1000) : ∀ (m i at0 : Nat) (last : Int) (l : List Int), i + m = cnt → at0 ≤ s.length → m + l.length ≤ 1000 → -1073741823 ≤ last → last ≤ 1073741823 → ∃ r, l_impl_ReadList_506 M s at0 l last cnt i = some r ∧ Sum.elim (fun y => ((y.2.1, y.1, true, ()), ())) id r = ansL (rL s m at0 last l) := by
  intro m
  induction m with
  | zero =>
    intro i at0 last l hi _ _ _ _
    obtain rfl : i = cnt := by omega
    refine ⟨.inl ((at0 : Int), l, ()), el_impl_ReadList_506 _ _ _ _ _ _ ?_, rfl⟩
    simp [ql_impl_ReadList_506]
  | succ m ih =>
    intro i at0 last l hi ha hm h0 h1
    simp only [rL]
    cases hv : rV s at0 with
    | none =>
      refine ⟨.inr (([], 0, false, ()), ()), el_impl_ReadList_506 _ _ _ _ _ _ ?_, rfl⟩
      simp only [ql_impl_ReadList_506, p_ReadVarint s hs at0 (by omega), hv, ans, Option.bind_some, Sum.elim_inl]
      rw [if_pos (by simp <;> omega)]
      try simp
    | some vc =>
      obtain ⟨v, c⟩ := vc
      have hle := rV_le hv
      have hu := unz_bd hle.1
      simp only
      by_cases h2 : v = 1073741823
      · rw [if_pos h2]
        refine ⟨.inr (([], 0, false, ()), ()), el_impl_ReadList_506 _ _ _ _ _ _ ?_, rfl⟩
        have hu0 : uOK (v : Int) = false := by rw [h2]; rfl
        simp only [ql_impl_ReadList_506, p_ReadVarint s hs at0 (by omega), hv, ans, Option.bind_some, Sum.elim_inl, p_impl_UnZig, hu0, Bool.not_true, Bool.not_false, Bool.false_eq_true, if_false, if_true]
        rw [if_pos (by simp <;> omega)]
        try simp
      · have hu1 : uOK (v : Int) = true := uOK_iff.2 ⟨by omega, by omega⟩
        have hw : IntKind.i64.wrap (last + unz v) = last + unz v := w64 (by omega) (by omega)
        rw [if_neg h2]
        by_cases h3 : -1073741823 ≤ last + unz v ∧ last + unz v ≤ 1073741823
        · rw [if_pos h3]
          obtain ⟨r, r1, r2⟩ := ih (i + 1) (at0 + c) (last + unz v) (l ++ [last + unz v]) (by omega) (by omega) (by simp <;> omega) h3.1 h3.2
          refine ⟨r, el_impl_ReadList_506 _ _ _ _ _ _ ?_, r2⟩
          have n1 : ¬ last + unz v < -1073741823 := by omega
          have n2 : ¬ last + unz v > 1073741823 := by omega
          simp only [ql_impl_ReadList_506, p_ReadVarint s hs at0 (by omega), hv, ans, Option.bind_some, Sum.elim_inl, p_impl_UnZig, hu1, Int.toNat_natCast, hw, inc_nat (show i < 4611686018427387904 by omega), Bool.not_true, Bool.false_eq_true, if_false, if_true, n1, n2, decide_false]
          rw [if_pos (by simp <;> omega), if_pos (by simp <;> omega)]
          exact r1
        · rw [if_neg h3]
          refine ⟨.inr (([], 0, false, ()), ()), el_impl_ReadList_506 _ _ _ _ _ _ ?_, rfl⟩
          by_cases n1 : last + unz v < -1073741823
          · simp only [ql_impl_ReadList_506, p_ReadVarint s hs at0 (by omega), hv, ans, Option.bind_some, Sum.elim_inl, p_impl_UnZig, hu1, Int.toNat_natCast, hw, Bool.not_true, Bool.false_eq_true, if_false, if_true, n1, decide_true]
            rw [if_pos (by simp <;> omega)]
          · have n2 : last + unz v > 1073741823 := by omega
            simp only [ql_impl_ReadList_506, p_ReadVarint s hs at0 (by omega), hv, ans, Option.bind_some, Sum.elim_inl, p_impl_UnZig, hu1, Int.toNat_natCast, hw, Bool.not_true, Bool.false_eq_true, if_false, if_true, n1, n2, decide_true, decide_false]
            rw [if_pos (by simp <;> omega)]

/-- What a list's reader answers. -/
def rA (s : List UInt8) (at0 : Nat) : Option (List Int × Nat) := match rV s at0 with
  | none => none
  | some (v, c) => if 200 < v then none else rL s v (at0 + c) 0 []
theorem p_impl_ReadList (s : List UInt8) (hs : s.length ≤ 100000) (at0 : Nat) (ha : at0 ≤ 1000000000) : c_impl_ReadList M s at0 = some (ansL (rA s at0)) := by
  apply e_impl_ReadList
  simp only [q_impl_ReadList, p_ReadVarint s hs at0 (by omega), Option.bind_some, rA]
  cases hv : rV s at0 with
  | none => rfl
  | some vc =>
    obtain ⟨v, c⟩ := vc
    have hle := rV_le hv
    simp only [ans, Option.bind_some, Sum.elim_inl, Bool.not_true, Bool.false_eq_true, if_false]
    by_cases h : 200 < v
    · have d : decide ((v : Int) > 200) = true := by simp; omega
      rw [if_pos h]
      simp only [d, if_true]
      rfl
    · have d : decide ((v : Int) > 200) = false := by simp; omega
      rw [if_neg h]
      obtain ⟨r, r1, r2⟩ := p_ReadList_loop s hs v (by omega) v 0 (at0 + c) 0 [] (by omega) (by omega) (by simp; omega) (by omega) (by omega)
      rw [show ((0 : Nat) : Int) = 0 from rfl] at r1
      simp only [d, Bool.false_eq_true, if_false, r1, Option.bind_some]
      rw [← r2]
      cases r <;> rfl
theorem p_l10ReadList (s : List UInt8) (hs : s.length ≤ 100000) (at0 : Nat) (ha : at0 ≤ s.length) : c_spec_l10ReadList M s at0 = some (ansL (rA s at0)) := by
  have hr := p_l10Read s hs at0 ha
  apply e_spec_l10ReadList
  simp only [rA]
  cases hv : rV s at0 with
  | none =>
    rw [hv] at hr
    have hr' : c_spec_l10Read M s at0 = some ((0, 0, false, ()), ()) := hr
    simp only [q_spec_l10ReadList, hr', Option.bind_some]
    rfl
  | some vc =>
    obtain ⟨v, c⟩ := vc
    rw [hv] at hr
    have hr' : c_spec_l10Read M s at0 = some (((v : Int), ((at0 + c : Nat) : Int), true, ()), ()) := hr
    have hle := rV_le hv
    simp only [q_spec_l10ReadList, hr', Option.bind_some, Bool.not_true, Bool.false_eq_true, if_false]
    by_cases h : 200 < v
    · have d : (v : Int) > 200 := by omega
      rw [if_pos h, if_pos (by simpa using d)]
      rfl
    · have d : ¬ (v : Int) > 200 := by omega
      rw [if_neg h, if_neg (by simpa using d)]
      obtain ⟨r, r1, r2⟩ := p_l10ReadList_loop s hs v (at0 + c) 0 [] (by omega) (by simp; omega) (by omega) (by omega)
      rw [r1, ← r2]
      cases r <;> rfl

/-- A list is read back. -/
theorem rL_lb (s post : List UInt8) : ∀ (l : List Int) (pre : List UInt8) (last : Int) (acc : List Int), lOK last l = true → s = pre ++ (lb last l ++ post) → rL s l.length pre.length last acc = some (acc ++ l, pre.length + (lb last l).length)
  | [], pre, last, acc, _, _ => by simp [rL, lb]
  | n :: r, pre, last, acc, h, hs => by
    simp only [lOK, Bool.and_eq_true, decide_eq_true_eq] at h
    obtain ⟨⟨hb0, hb1⟩, hz, hr⟩ := h
    have hzl := zig_le hz
    simp only [lb, List.append_assoc] at hs
    have hv := rV_enc (s := s) (pre := pre) (post := lb n r ++ post) (n := zig (n - last)) (by omega) hs
    have ih := rL_lb s post r (pre ++ enc (zig (n - last))) n (acc ++ [n]) hr (by rw [hs]; simp)
    simp only [rL, List.length_cons, hv, unz_zig]
    rw [if_neg (by omega), show last + (n - last) = n by omega, if_pos ⟨hb0, hb1⟩]
    rw [List.length_append] at ih
    rw [ih]
    simp [lb, Nat.add_assoc]
theorem rA_LB (l : List Int) (post : List UInt8) (h : LOK l = true) : rA (LB l ++ post) 0 = some (l, (LB l).length) := by
  simp only [LOK, Bool.and_eq_true, decide_eq_true_eq] at h
  have hv := rV_enc (s := LB l ++ post) (pre := []) (post := lb 0 l ++ post) (n := l.length) (by omega) (by simp [LB])
  rw [List.length_nil] at hv
  have hr := rL_lb (LB l ++ post) post l (enc l.length) 0 [] h.2 (by simp [LB])
  simp only [rA, hv]
  rw [if_neg (by omega), Nat.zero_add, hr]
  simp [LB]

end Go.Proofs.YtejklhcalinhpaaVi.Ev
