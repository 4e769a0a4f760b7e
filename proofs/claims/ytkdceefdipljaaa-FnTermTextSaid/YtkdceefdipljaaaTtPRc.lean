/- Texts laid together: PAa, PBa, PB, QH, QK, PYa, PAb, PCa, PW, PHo, PXa, PC, PRa, PRb, PRc; no condition but those that each theorem names. -/
import Derived.Test.YtkdceefdipljaaaTtEq
/- Plain laws: numbers and rows. No condition but sizes. -/
namespace Go.Proofs.YtkdceefdipljaaaTt.Ev
open Go
set_option autoImplicit false
set_option linter.unusedVariables false
set_option linter.unusedSimpArgs false

theorem w64 {x : Int} (h : -9223372036854775808 ≤ x) (k : x < 9223372036854775808) : IntKind.i64.wrap x = x := by
  rw [IntKind.wrap_i64]
  omega
theorem w8 {x : Int} (h : 0 ≤ x) (k : x < 256) : IntKind.u8.wrap x = x := by
  simp only [IntKind.wrap, IntKind.bits, IntKind.signed, Bool.false_and, Bool.false_eq_true, if_false]
  omega
theorem idx_nat {α : Type} (xs : List α) (i : Nat) : idx xs (i : Int) = xs[i]? := by simp [idx]
theorem idx_zero {α : Type} (xs : List α) : idx xs 0 = xs[0]? := by simp [idx]
theorem idx_lt {α : Type} {xs : List α} {i : Nat} (h : i < xs.length) : idx xs (i : Int) = some xs[i] := by simp [idx, h]
theorem inc_nat {i : Nat} (h : i < 4611686018427387904) : IntKind.i64.wrap ((i : Int) + 1) = ((i + 1 : Nat) : Int) := by
  rw [w64 (by omega) (by omega)]; rfl

abbrev TSign := List Int × Unit
abbrev TLit := Bool × List Int × List Int × Unit

/-- Lists of no more than 2^20 numbers. -/
def smL (x : TLit) : Prop := x.2.1.length ≤ 1048576 ∧ x.2.2.1.length ≤ 1048576

end Go.Proofs.YtkdceefdipljaaaTt.Ev

/- Plain laws: good signatures. No condition but sizes. -/
namespace Go.Proofs.YtkdceefdipljaaaTt.Ev
open Go
set_option autoImplicit false
set_option linter.unusedVariables false
set_option linter.unusedSimpArgs false

theorem p_l1In (x lo hi : Int) : c_spec_l1In M x lo hi = some ((decide (lo ≤ x) && decide (x ≤ hi), ()), ()) := by
  apply e_spec_l1In
  simp only [q_spec_l1In, decide_eq_true_eq]
  by_cases h : x ≥ lo
  · rw [if_pos h]; simp [h]
  · rw [if_neg h]; simp; omega

theorem p_l1All_loop (a : List Int) (lo up : Int) (ha : a.length ≤ 17592186044416) : ∀ k i : Nat, i + k = a.length → l_spec_l1All_26 M lo up a a.length i = some (if (a.drop i).all (fun x => decide (lo ≤ x) && decide (x ≤ up)) = true then .inl () else .inr ((false, ()), ())) := by
  intro k
  induction k with
  | zero =>
    intro i hi
    obtain rfl : i = a.length := by omega
    apply el_spec_l1All_26
    simp [ql_spec_l1All_26]
  | succ k ih =>
    intro i hi
    apply el_spec_l1All_26
    have h1 : i < a.length := by omega
    simp only [ql_spec_l1All_26]
    rw [if_pos (by simpa using h1), idx_lt h1, inc_nat (by omega)]
    simp only [Option.bind_some, p_l1In, ih (i + 1) (by omega)]
    rw [List.drop_eq_getElem_cons h1, List.all_cons]
    generalize (decide (lo ≤ a[i]) && decide (a[i] ≤ up)) = b
    cases b <;> rfl

theorem p_l1All (a : List Int) (lo hi : Int) (ha : a.length ≤ 17592186044416) : c_spec_l1All M a lo hi = some ((a.all (fun x => decide (lo ≤ x) && decide (x ≤ hi)), ()), ()) := by
  apply e_spec_l1All
  simp only [q_spec_l1All]
  have := p_l1All_loop a lo hi ha a.length 0 (by omega)
  rw [show ((0 : Nat) : Int) = 0 from rfl] at this
  rw [this, List.drop_zero]
  cases a.all (fun x => decide (lo ≤ x) && decide (x ≤ hi)) <;> simp

/-- A signature that is good. -/
def gS (a : List Int) : Bool := decide (1 ≤ a.length) && (decide (a.length ≤ 10) && (a.all (fun x => decide (0 ≤ x) && decide (x ≤ 3)) && decide (a[0]? = some 0)))

theorem p_spec_GoodSign (s : TSign) (ha : s.1.length ≤ 17592186044416) : c_spec_GoodSign M s = some ((gS s.1, ()), ()) := by
  apply e_spec_GoodSign
  simp only [q_spec_GoodSign, p_l1In, p_l1All s.1 0 3 ha, Option.bind_some, gS]
  rcases hs : s.1 with _ | ⟨x, r⟩
  · simp
  · rw [idx_zero]
    simp only [List.length_cons, List.getElem?_cons_zero, Option.bind_some]
    by_cases h : r.length + 1 ≤ 10
    · rw [if_pos (by simp; omega)]
      cases (x :: r).all (fun x => decide (0 ≤ x) && decide (x ≤ 3)) <;> simp [h]
      rw [Bool.eq_iff_iff]; simp
    · rw [if_neg (by simp; omega)]
      simp [h]

theorem p_gs1 (x : Int) : c_impl_GoodSign_1 M x = some ((!(decide (0 ≤ x) && decide (x ≤ 3)), ()), ()) := by
  apply e_impl_GoodSign_1
  simp only [q_impl_GoodSign_1, decide_eq_true_eq]
  by_cases h : x < 0
  · rw [if_pos h]; simp; omega
  · rw [if_neg h]
    have h0 : 0 ≤ x := by omega
    rw [decide_eq_true h0, Bool.true_and]
    by_cases h3 : x ≤ 3
    · rw [decide_eq_true h3, decide_eq_false (by omega)]; rfl
    · rw [decide_eq_false h3, decide_eq_true (by omega)]; rfl

theorem p_gsIdx_loop (a : List Int) (ha : a.length ≤ 17592186044416) : ∀ k i : Nat, i + k = a.length → ∃ r, l_slices_IndexFunc_int_int__impl_GoodSign_1_26 M a () a.length i = some r ∧ (match r with | .inl _ => (a.drop i).all (fun x => decide (0 ≤ x) && decide (x ≤ 3)) = true | .inr r => 0 ≤ r.1.1 ∧ (a.drop i).all (fun x => decide (0 ≤ x) && decide (x ≤ 3)) = false) := by
  intro k
  induction k with
  | zero =>
    intro i hi
    obtain rfl : i = a.length := by omega
    refine ⟨.inl (), el_slices_IndexFunc_int_int__impl_GoodSign_1_26 _ _ _ _ (by simp [ql_slices_IndexFunc_int_int__impl_GoodSign_1_26]), by simp⟩
  | succ k ih =>
    intro i hi
    have h1 : i < a.length := by omega
    obtain ⟨r, hr, hm⟩ := ih (i + 1) (by omega)
    rw [List.drop_eq_getElem_cons h1, List.all_cons]
    by_cases hp : (decide (0 ≤ a[i]) && decide (a[i] ≤ 3)) = true
    · refine ⟨r, el_slices_IndexFunc_int_int__impl_GoodSign_1_26 _ _ _ _ ?_, by rw [hp, Bool.true_and]; exact hm⟩
      simp only [ql_slices_IndexFunc_int_int__impl_GoodSign_1_26]
      rw [if_pos (by simpa using h1), idx_lt h1, inc_nat (by omega)]
      simp only [Option.bind_some, p_gs1, hp, Bool.not_true, Bool.false_eq_true, if_false]
      exact hr
    · rw [Bool.not_eq_true] at hp
      refine ⟨.inr (((i : Int), ()), ()), el_slices_IndexFunc_int_int__impl_GoodSign_1_26 _ _ _ _ ?_, Int.natCast_nonneg i, by rw [hp, Bool.false_and]⟩
      simp only [ql_slices_IndexFunc_int_int__impl_GoodSign_1_26]
      rw [if_pos (by simpa using h1), idx_lt h1]
      simp only [Option.bind_some, p_gs1, hp, Bool.not_false, if_true]

theorem p_gsContains (a : List Int) (ha : a.length ≤ 17592186044416) : c_slices_ContainsFunc_int_int__impl_GoodSign_1 M a () = some ((!(a.all (fun x => decide (0 ≤ x) && decide (x ≤ 3))), ()), ()) := by
  apply e_slices_ContainsFunc_int_int__impl_GoodSign_1
  simp only [q_slices_ContainsFunc_int_int__impl_GoodSign_1]
  obtain ⟨r, hr, hm⟩ := p_gsIdx_loop a ha a.length 0 (by omega)
  rw [show ((0 : Nat) : Int) = 0 from rfl] at hr
  rw [List.drop_zero] at hm
  cases r with
  | inl r =>
    rw [e_slices_IndexFunc_int_int__impl_GoodSign_1 a () (r := ((-1, ()), ())) (by simp only [q_slices_IndexFunc_int_int__impl_GoodSign_1, hr, Option.bind_some, Sum.elim_inl])]
    simp only at hm
    simp [hm]
  | inr r =>
    rw [e_slices_IndexFunc_int_int__impl_GoodSign_1 a () (r := r) (by simp only [q_slices_IndexFunc_int_int__impl_GoodSign_1, hr, Option.bind_some, Sum.elim_inr])]
    simp only at hm
    simp [hm]

theorem p_impl_GoodSign (s : TSign) (ha : s.1.length ≤ 17592186044416) : c_impl_GoodSign M s = some ((gS s.1, ()), ()) := by
  apply e_impl_GoodSign
  simp only [q_impl_GoodSign, p_gsContains s.1 ha, Option.bind_some, gS, decide_eq_true_eq]
  rcases hs : s.1 with _ | ⟨x, r⟩
  · simp
  · rw [idx_zero]
    simp only [List.length_cons, List.getElem?_cons_zero, Option.bind_some]
    rw [if_neg (by omega)]
    by_cases h : r.length + 1 ≤ 10
    · rw [if_neg (by omega)]
      by_cases hx : x = 0
      · subst hx; simp [h]
      · rw [if_pos (by simpa using hx)]; simp [hx]
    · rw [if_pos (by omega)]
      simp [h]

theorem sign_eta (x : TSign) : (x.1, ()) = x := rfl
theorem lit_eta (x : TLit) : (x.1, x.2.1, x.2.2.1, ()) = x := rfl
theorem sign_eta' (x : TSign) : (x.1, ()) = x := rfl

end Go.Proofs.YtkdceefdipljaaaTt.Ev

/- Plain laws: signatures and terms: both programs tell the same signatures and terms. No condition but sizes. -/
namespace Go.Proofs.YtkdceefdipljaaaTt.Ev
open Go
set_option autoImplicit false
set_option linter.unusedVariables false
set_option linter.unusedSimpArgs false

/-! ### Terms -/
def ar (a : List Int) (n : Int) : Int := if n < 0 then 0 else (a[n.toNat]?).getD 0
def badN (a : List Int) (n : Int) : Prop := n < -12 ∨ (a.length : Int) ≤ n
instance (a : List Int) (n : Int) : Decidable (badN a n) := inferInstanceAs (Decidable (_ ∨ _))
/-- What stands behind some terms. -/
def sE (a : List Int) : Int → List Int → Option (List Int)
  | k, [] => if k ≤ 0 then some [] else none
  | k, n :: t => if k ≤ 0 then some (n :: t) else if badN a n then none else sE a (k - 1 + ar a n) t

theorem ar_ge {a : List Int} (hg : gS a = true) (n : Int) : 0 ≤ ar a n ∧ ar a n ≤ 3 := by
  unfold ar
  split
  · omega
  · cases h : a[n.toNat]? with
    | none => simp
    | some x =>
      simp only [gS, Bool.and_eq_true, List.all_eq_true, decide_eq_true_eq] at hg
      have := hg.2.2.1 x (List.mem_of_getElem? h)
      simpa using this
theorem idx_ar {a : List Int} {n : Int} (h : ¬ badN a n) (h0 : ¬ n < 0) : idx a n = some (ar a n) := by
  unfold badN at h
  have h1 : n.toNat < a.length := by omega
  unfold ar idx
  rw [if_pos (by omega), if_neg h0, List.getElem?_eq_getElem h1]
  rfl

theorem sE_zero (a : List Int) (t : List Int) : sE a 0 t = some t := by cases t <;> simp [sE]
theorem sE_app {a : List Int} (hg : gS a = true) : ∀ (u : List Int) (j k : Int) (x : List Int), 0 ≤ j → 0 ≤ k → sE a j u = some [] → sE a (j + k) (u ++ x) = sE a k x := by
  intro u
  induction u with
  | nil =>
    intro j k x hj hk h
    simp only [sE] at h
    split at h
    · obtain rfl : j = 0 := by omega
      simp
    · cases h
  | cons n u ih =>
    intro j k x hj hk h
    simp only [sE] at h
    split at h
    · cases h
    · rename_i hj'
      split at h
      · cases h
      · rename_i hb
        have hn := ar_ge hg n
        rw [List.cons_append]
        conv => lhs; unfold sE
        rw [if_neg (by omega), if_neg hb]
        have := ih (j - 1 + ar a n) k x (by omega) hk h
        rw [← this]
        congr 1; omega
theorem sE_split {a : List Int} (hg : gS a = true) : ∀ (t : List Int) (j k : Int) (r : List Int), 0 ≤ j → 0 ≤ k → sE a (j + k) t = some r → ∃ u x, t = u ++ x ∧ sE a j u = some [] ∧ sE a k x = some r := by
  intro t
  induction t with
  | nil =>
    intro j k r hj hk h
    simp only [sE] at h
    split at h
    · obtain rfl : j = 0 := by omega
      obtain rfl : k = 0 := by omega
      exact ⟨[], [], rfl, by simp [sE], by simpa [sE] using h⟩
    · cases h
  | cons n t ih =>
    intro j k r hj hk h
    by_cases h0 : j = 0
    · subst h0
      exact ⟨[], n :: t, rfl, by simp [sE], by simpa using h⟩
    · simp only [sE] at h
      split at h
      · omega
      · split at h
        · cases h
        · rename_i hb
          have hn := ar_ge hg n
          obtain ⟨u, x, rfl, h1, h2⟩ := ih (j - 1 + ar a n) k r (by omega) hk (by rw [← h]; congr 1; omega)
          refine ⟨n :: u, x, rfl, ?_, h2⟩
          unfold sE
          rw [if_neg (by omega), if_neg hb]
          exact h1
/-- A term. -/
abbrev Tm (a : List Int) (u : List Int) : Prop := sE a 1 u = some []
theorem sE_kids {a : List Int} (hg : gS a = true) : ∀ (k : Nat) (t r : List Int), sE a k t = some r → ∃ us : List (List Int), us.length = k ∧ t = us.flatten ++ r ∧ ∀ u ∈ us, Tm a u := by
  intro k
  induction k with
  | zero =>
    intro t r h
    rw [show ((0 : Nat) : Int) = 0 from rfl, sE_zero] at h
    obtain rfl := Option.some.inj h
    exact ⟨[], rfl, rfl, by simp⟩
  | succ k ih =>
    intro t r h
    obtain ⟨u, x, rfl, h1, h2⟩ := sE_split hg t 1 k r (by omega) (by omega) (by rw [← h]; congr 1; omega)
    obtain ⟨us, hl, rfl, hu⟩ := ih x r h2
    exact ⟨u :: us, by simp [hl], by simp, by simpa using ⟨h1, hu⟩⟩
theorem Tm.parts {a : List Int} (hg : gS a = true) {u : List Int} (h : Tm a u) : ∃ (n : Int) (us : List (List Int)), u = n :: us.flatten ∧ ¬ badN a n ∧ (us.length : Int) = ar a n ∧ ∀ v ∈ us, Tm a v := by
  cases u with
  | nil => simp [Tm, sE] at h
  | cons n t =>
    simp only [Tm, sE] at h
    rw [if_neg (by omega)] at h
    split at h
    · cases h
    · rename_i hb
      have hn := ar_ge hg n
      obtain ⟨us, hl, ht, hu⟩ := sE_kids hg (ar a n).toNat t [] (by rw [← h]; congr 1; omega)
      exact ⟨n, us, by rw [ht]; simp, hb, by omega, hu⟩
theorem Tm.rest {a : List Int} (hg : gS a = true) {u : List Int} (h : Tm a u) (x : List Int) : sE a 1 (u ++ x) = some x := by
  have := sE_app hg u 1 0 x (by omega) (by omega) h
  rw [sE_zero] at this
  simpa using this
theorem Tm.pos {a u : List Int} (h : Tm a u) : 0 < u.length := by
  cases u with
  | nil => simp [Tm, sE] at h
  | cons n t => simp

theorem p_l1End_loop (s : TSign) (hg : gS s.1 = true) (t : List Int) (ht : t.length ≤ 1048576) : ∀ (k i : Nat) (need : Int), i + k = t.length → 0 ≤ need → need + 3 * k ≤ 4000000 →
    l_spec_l1End_28 M t i s need = some (match sE s.1 need (t.drop i) with | none => .inr (((-1 : Int), ()), ()) | some r => .inl ((t.length : Int) - r.length, ())) := by
  have hs : s.1.length ≤ 10 := by simp only [gS, Bool.and_eq_true, decide_eq_true_eq] at hg; exact hg.2.1
  intro k
  induction k with
  | zero =>
    intro i need hi h0 hn
    obtain rfl : i = t.length := by omega
    apply el_spec_l1End_28
    simp only [ql_spec_l1End_28, List.drop_length, sE, decide_eq_true_eq]
    by_cases h : need > 0
    · rw [if_pos h, if_pos (by omega), if_neg (by omega)]
    · rw [if_neg h, if_pos (by omega)]; simp
  | succ k ih =>
    intro i need hi h0 hn
    apply el_spec_l1End_28
    have h1 : i < t.length := by omega
    rw [List.drop_eq_getElem_cons h1]
    simp only [ql_spec_l1End_28, sE, decide_eq_true_eq]
    by_cases h : need > 0
    · rw [if_pos h, if_neg (by omega), if_neg (by omega), idx_lt h1]
      simp only [Option.bind_some, p_l1In]
      rw [w64 (x := (s.1.length : Int) - 1) (by omega) (by omega)]
      by_cases hb : badN s.1 t[i]
      · rw [if_pos hb, if_pos (by unfold badN at hb; simp; omega)]
      · rw [if_neg hb, if_neg (by unfold badN at hb; simp; omega)]
        have ha := ar_ge hg t[i]
        have hw : IntKind.i64.wrap (need - 1) = need - 1 := w64 (by omega) (by omega)
        by_cases hx : t[i] ≥ 0
        · rw [if_pos hx, idx_ar hb (by omega), hw]
          simp only [Option.bind_some, Sum.elim_inl]
          rw [w64 (x := need - 1 + _) (by omega) (by omega), inc_nat (by omega)]
          exact ih (i + 1) _ (by omega) (by omega) (by omega)
        · have : ar s.1 t[i] = 0 := by unfold ar; rw [if_pos (by omega)]
          rw [if_neg hx, hw, this]
          simp only [Option.bind_some, Sum.elim_inl]
          rw [inc_nat (by omega), Int.add_zero]
          exact ih (i + 1) _ (by omega) (by omega) (by omega)
    · rw [if_neg h, if_pos (by omega)]
      simp only [List.length_cons, List.length_drop]
      congr 3
      omega

theorem p_l1End (s : TSign) (hg : gS s.1 = true) (t : List Int) (i : Nat) (hi : i ≤ t.length) (ht : t.length ≤ 1048576) :
    c_spec_l1End M s t i = some ((match sE s.1 1 (t.drop i) with | none => (-1 : Int) | some r => (t.length : Int) - r.length, ()), ()) := by
  apply e_spec_l1End
  simp only [q_spec_l1End]
  rw [p_l1End_loop s hg t ht (t.length - i) i 1 (by omega) (by omega) (by omega)]
  cases sE s.1 1 (t.drop i) <;> rfl

theorem sE_len {a : List Int} : ∀ (t : List Int) (k : Int) (r : List Int), sE a k t = some r → r.length ≤ t.length := by
  intro t
  induction t with
  | nil => intro k r h; simp only [sE] at h; split at h <;> simp_all
  | cons n t ih =>
    intro k r h
    simp only [sE] at h
    split at h
    · obtain rfl := Option.some.inj h; simp
    · split at h
      · cases h
      · have := ih _ _ h; simp; omega

/-- A term of no more than 40 numbers. -/
def isT (a t : List Int) : Bool := decide (t.length ≤ 40) && decide (Tm a t)

theorem p_l1Term (s : TSign) (hg : gS s.1 = true) (t : List Int) (ht : t.length ≤ 1048576) : c_spec_l1Term M s t = some ((isT s.1 t, ()), ()) := by
  apply e_spec_l1Term
  have := p_l1End s hg t 0 (by omega) ht
  rw [show ((0 : Nat) : Int) = 0 from rfl, List.drop_zero] at this
  simp only [q_spec_l1Term, p_l1In, Option.bind_some, this, isT]
  by_cases h0 : t = []
  · subst h0; simp [Tm, sE]
  · have : 0 < t.length := List.length_pos_iff.2 h0
    by_cases h : t.length ≤ 40
    · rw [if_pos (by simp; omega)]
      simp only [Option.some.injEq, Prod.mk.injEq, and_true]
      rw [Bool.eq_iff_iff]
      simp only [Bool.and_eq_true, decide_eq_true_eq, Tm, beq_iff_eq]
      cases hE : sE s.1 1 t with
      | none => simp
      | some r =>
        have := sE_len _ _ _ hE
        simp only [Option.some.injEq]
        constructor
        · intro h'; exact ⟨h, List.eq_nil_of_length_eq_zero (by omega)⟩
        · rintro ⟨-, rfl⟩; simp
    · rw [if_neg (by simp; omega)]
      simp [h]

theorem p_args (s : TSign) (n : Int) (h : ¬ badN s.1 n) : c_impl_Sign_args M s n = some ((ar s.1 n, ()), ()) := by
  apply e_impl_Sign_args
  simp only [q_impl_Sign_args, decide_eq_true_eq]
  by_cases hn : n < 0
  · rw [if_pos hn]; simp [ar, hn]
  · rw [if_neg hn, idx_ar h hn]; rfl

theorem p_isTerm_loop (s : TSign) (hg : gS s.1 = true) (t : List Int) (ht : t.length ≤ 40) : ∀ (k i : Nat) (left : Int), i + k = t.length → 0 ≤ left → left + 3 * k ≤ 4000000 →
    ∃ r, l_impl_Sign_isTerm_122 M s left t t.length i = some r ∧ Sum.elim (fun y => y.1 == 0) (fun r => r.1.1) r = decide (sE s.1 left (t.drop i) = some []) := by
  intro k
  induction k with
  | zero =>
    intro i left hi h0 hn
    obtain rfl : i = t.length := by omega
    refine ⟨.inl (left, ()), el_impl_Sign_isTerm_122 _ _ _ _ _ ?_, ?_⟩
    · simp [ql_impl_Sign_isTerm_122]
    · rw [List.drop_length]
      simp only [Sum.elim_inl, sE]
      rw [Bool.eq_iff_iff]; simp; omega
  | succ k ih =>
    intro i left hi h0 hn
    have h1 : i < t.length := by omega
    rw [List.drop_eq_getElem_cons h1]
    have pre : ∀ r, (if (left == 0) = true then some (.inr ((false, ()), ())) else if decide (t[i] < -12) = true then some (.inr ((false, ()), ())) else if decide (t[i] ≥ (s.1.length : Int)) = true then some (.inr ((false, ()), ())) else (c_impl_Sign_args M (s.1, ()) t[i]).bind fun r2 => l_impl_Sign_isTerm_122 M (s.1, ()) (IntKind.i64.wrap (left + IntKind.i64.wrap (r2.1.1 - 1))) t t.length (IntKind.i64.wrap ((i : Int) + 1))) = some r → l_impl_Sign_isTerm_122 M s left t t.length i = some r := by
      intro r hr
      apply el_impl_Sign_isTerm_122
      simp only [ql_impl_Sign_isTerm_122]
      rw [if_pos (by simpa using h1), idx_lt h1]
      exact hr
    by_cases hl : left = 0
    · subst hl
      refine ⟨.inr ((false, ()), ()), pre _ rfl, (decide_eq_false (by rw [sE_zero]; exact fun h => by cases h)).symm⟩
    · by_cases hb : badN s.1 t[i]
      · refine ⟨.inr ((false, ()), ()), pre _ ?_, by simp [sE, hb]; omega⟩
        rw [if_neg (by simpa using hl)]
        unfold badN at hb
        by_cases h2 : t[i] < -12
        · rw [if_pos (by simpa using h2)]
        · rw [if_neg (by simpa using h2), if_pos (by simp; omega)]
      · have ha := ar_ge hg t[i]
        obtain ⟨r, hr, hm⟩ := ih (i + 1) (left - 1 + ar s.1 t[i]) (by omega) (by omega) (by omega)
        refine ⟨r, pre _ ?_, ?_⟩
        · have hb' := hb
          unfold badN at hb'
          rw [if_neg (by simpa using hl), if_neg (by simp; omega), if_neg (by simp; omega), p_args (s.1, ()) _ hb]
          simp only [Option.bind_some]
          rw [w64 (x := ar s.1 t[i] - 1) (by omega) (by omega), w64 (by omega) (by omega), inc_nat (by omega), show left + (ar s.1 t[i] - 1) = left - 1 + ar s.1 t[i] by omega]
          exact hr
        · rw [hm]
          conv => rhs; unfold sE
          rw [if_neg (by omega), if_neg hb]

theorem p_isTerm (s : TSign) (hg : gS s.1 = true) (t : List Int) : c_impl_Sign_isTerm M s t = some ((isT s.1 t, ()), ()) := by
  apply e_impl_Sign_isTerm
  simp only [q_impl_Sign_isTerm, decide_eq_true_eq, isT]
  by_cases h : t.length ≤ 40
  · obtain ⟨r, hr, hm⟩ := p_isTerm_loop s hg t h t.length 0 1 (by omega) (by omega) (by omega)
    rw [show ((0 : Nat) : Int) = 0 from rfl] at hr
    rw [List.drop_zero] at hm
    rw [if_neg (by omega), show ((s.1, ()) : TSign) = s from rfl, hr]
    cases r with
    | inl r => simp only [Sum.elim_inl, Option.bind_some] at hm ⊢; rw [hm]; simp [h, Tm]
    | inr r => obtain ⟨⟨b, _⟩, _⟩ := r; simp only [Sum.elim_inr, Option.bind_some] at hm ⊢; rw [hm]; simp [h, Tm]
  · rw [if_pos (by omega)]; simp [h]

end Go.Proofs.YtkdceefdipljaaaTt.Ev

/- Plain laws: terms with other numbers of variables; the terms of a clause; terms that are valid. No condition but sizes. -/
namespace Go.Proofs.YtkdceefdipljaaaTt.Ev
open Go
set_option autoImplicit false
set_option linter.unusedVariables false
set_option linter.unusedSimpArgs false

/-- A number of a term, its variable further on. -/
def shn (by' n : Int) : Int := if n < 0 then n - by' else n
theorem p_shift_loop (by' : Int) (h0 : 0 ≤ by') (h1 : by' ≤ 1000) (t : List Int) (hl : t.length ≤ 1000000) (hx : ∀ n ∈ t, -1000000 ≤ n ∧ n ≤ 1000000) : ∀ k i : Nat, i + k = t.length → l_impl_shift_58 M by' ((t.take i).map (shn by') ++ t.drop i) t.length i = some (.inl (t.map (shn by'), ())) := by
  intro k
  induction k with
  | zero =>
    intro i hi
    obtain rfl : i = t.length := by omega
    apply el_impl_shift_58
    simp [ql_impl_shift_58]
  | succ k ih =>
    intro i hi
    have h2 : i < t.length := by omega
    have hn := hx _ (List.getElem_mem h2)
    have hlen : ((t.take i).map (shn by') ++ t.drop i).length = t.length := by simp; omega
    have hget : ((t.take i).map (shn by') ++ t.drop i)[i]? = some t[i] := by
      rw [List.getElem?_append_right (by simp; omega)]
      simp [Nat.min_eq_left (Nat.le_of_lt h2), h2]
    have hnext : (t.take (i + 1)).map (shn by') ++ t.drop (i + 1) = ((t.take i).map (shn by') ++ t.drop i).set i (shn by' t[i]) := by
      rw [List.take_succ_eq_append_getElem h2, List.map_append, List.set_append_right _ _ (by simp; omega)]
      have e : i - ((t.take i).map (shn by')).length = 0 := by simp; omega
      rw [e, List.drop_eq_getElem_cons h2, List.set_cons_zero, List.append_assoc]
      rfl
    have ih' := ih (i + 1) (by omega)
    rw [hnext] at ih'
    apply el_impl_shift_58
    simp only [ql_impl_shift_58]
    rw [if_pos (by simpa using h2), if_pos (by rw [hlen]; omega), Int.toNat_natCast, hget]
    simp only [Option.bind_some]
    by_cases hneg : t[i] < 0
    · rw [if_pos (by simpa using hneg), if_pos (by rw [hlen]; omega), w64 (x := t[i] - by') (by omega) (by omega)]
      simp only [Option.bind_some, Sum.elim_inl]
      rw [inc_nat (by omega)]
      have : shn by' t[i] = t[i] - by' := by simp [shn, hneg]
      rw [this] at ih'
      exact ih'
    · rw [if_neg (by simpa using hneg)]
      simp only [Option.bind_some, Sum.elim_inl]
      rw [inc_nat (by omega)]
      have : shn by' t[i] = t[i] := by simp [shn, hneg]
      rw [this] at ih'
      have hset : ((t.take i).map (shn by') ++ t.drop i).set i t[i] = (t.take i).map (shn by') ++ t.drop i := by
        apply List.ext_getElem? 
        intro j
        rw [List.getElem?_set]
        split
        · rename_i e; subst e; rw [hget, if_pos (by rw [hlen]; exact h2)]
        · rfl
      rw [hset] at ih'
      exact ih'
theorem p_shift (t : List Int) (by' : Int) (h0 : 0 ≤ by') (h1 : by' ≤ 1000) (hl : t.length ≤ 1000000) (hx : ∀ n ∈ t, -1000000 ≤ n ∧ n ≤ 1000000) : c_impl_shift M t by' = some ((t.map (shn by'), ()), ()) := by
  apply e_impl_shift
  simp only [q_impl_shift]
  have := p_shift_loop by' h0 h1 t hl hx t.length 0 (by omega)
  rw [show ((0 : Nat) : Int) = 0 from rfl] at this
  simp only [List.take_zero, List.map_nil, List.nil_append, List.drop_zero] at this
  rw [if_pos (by omega), this]
  rfl
theorem p_l1Shift_loop (by' : Int) (h0 : 0 ≤ by') (h1 : by' ≤ 1000) (t : List Int) (hl : t.length ≤ 1000000) (hx : ∀ n ∈ t, -1000000 ≤ n ∧ n ≤ 1000000) : ∀ k i : Nat, i + k = t.length → l_spec_l1Shift_58 M by' ((t.take i).map (shn by') ++ t.drop i) t.length i = some (.inl (t.map (shn by'), ())) := by
  intro k
  induction k with
  | zero =>
    intro i hi
    obtain rfl : i = t.length := by omega
    apply el_spec_l1Shift_58
    simp [ql_spec_l1Shift_58]
  | succ k ih =>
    intro i hi
    have h2 : i < t.length := by omega
    have hn := hx _ (List.getElem_mem h2)
    have hlen : ((t.take i).map (shn by') ++ t.drop i).length = t.length := by simp; omega
    have hget : ((t.take i).map (shn by') ++ t.drop i)[i]? = some t[i] := by
      rw [List.getElem?_append_right (by simp; omega)]
      simp [Nat.min_eq_left (Nat.le_of_lt h2), h2]
    have hnext : (t.take (i + 1)).map (shn by') ++ t.drop (i + 1) = ((t.take i).map (shn by') ++ t.drop i).set i (shn by' t[i]) := by
      rw [List.take_succ_eq_append_getElem h2, List.map_append, List.set_append_right _ _ (by simp; omega)]
      have e : i - ((t.take i).map (shn by')).length = 0 := by simp; omega
      rw [e, List.drop_eq_getElem_cons h2, List.set_cons_zero, List.append_assoc]
      rfl
    have ih' := ih (i + 1) (by omega)
    rw [hnext] at ih'
    apply el_spec_l1Shift_58
    simp only [ql_spec_l1Shift_58]
    rw [if_pos (by simpa using h2), if_pos (by rw [hlen]; omega), Int.toNat_natCast, hget]
    simp only [Option.bind_some]
    by_cases hneg : t[i] < 0
    · rw [if_pos (by simpa using hneg), if_pos (by rw [hlen]; omega), w64 (x := t[i] - by') (by omega) (by omega)]
      simp only [Option.bind_some, Sum.elim_inl]
      rw [inc_nat (by omega)]
      have : shn by' t[i] = t[i] - by' := by simp [shn, hneg]
      rw [this] at ih'
      exact ih'
    · rw [if_neg (by simpa using hneg)]
      simp only [Option.bind_some, Sum.elim_inl]
      rw [inc_nat (by omega)]
      have : shn by' t[i] = t[i] := by simp [shn, hneg]
      rw [this] at ih'
      have hset : ((t.take i).map (shn by') ++ t.drop i).set i t[i] = (t.take i).map (shn by') ++ t.drop i := by
        apply List.ext_getElem? 
        intro j
        rw [List.getElem?_set]
        split
        · rename_i e; subst e; rw [hget, if_pos (by rw [hlen]; exact h2)]
        · rfl
      rw [hset] at ih'
      exact ih'
theorem p_l1Shift (t : List Int) (by' : Int) (h0 : 0 ≤ by') (h1 : by' ≤ 1000) (hl : t.length ≤ 1000000) (hx : ∀ n ∈ t, -1000000 ≤ n ∧ n ≤ 1000000) : c_spec_l1Shift M t by' = some ((t.map (shn by'), ()), ()) := by
  apply e_spec_l1Shift
  have ho : c_spec_l1Own M t = some ((t, ()), ()) := by
    apply e_spec_l1Own
    simp only [q_spec_l1Own, List.length_nil, List.nil_append]
    rw [if_pos (by omega)]
  simp only [q_spec_l1Shift, ho, Option.bind_some]
  have := p_l1Shift_loop by' h0 h1 t hl hx t.length 0 (by omega)
  rw [show ((0 : Nat) : Int) = 0 from rfl] at this
  simp only [List.take_zero, List.map_nil, List.nil_append, List.drop_zero] at this
  rw [this]
  rfl
theorem sE_rng {a : List Int} : ∀ (t : List Int) (k : Int), sE a k t = some [] → ∀ n ∈ t, -12 ≤ n ∧ n < a.length := by
  intro t
  induction t with
  | nil => intro k _ n hn; cases hn
  | cons m t ih =>
    intro k h n hn
    simp only [sE] at h
    split at h
    · cases h
    · split at h
      · cases h
      · rename_i hb
        unfold badN at hb
        rcases List.mem_cons.1 hn with rfl | hn
        · omega
        · exact ih _ h n hn
theorem isT_rng {a t : List Int} (h : isT a t = true) : t.length ≤ 40 ∧ ∀ n ∈ t, -12 ≤ n ∧ n < a.length := by
  simp only [isT, Bool.and_eq_true, decide_eq_true_eq] at h
  exact ⟨h.1, sE_rng t 1 h.2⟩
end Go.Proofs.YtkdceefdipljaaaTt.Ev

/- Plain laws: variables numbered as they are met; terms that are the same but for names; shifted terms. No condition but sizes. -/
namespace Go.Proofs.YtkdceefdipljaaaTt.Ev
open Go
set_option autoImplicit false
set_option linter.unusedVariables false
set_option linter.unusedSimpArgs false

/-- The numbers that are told, with one more. -/
def nmb (m : List (Int × Int)) (n : Int) : List (Int × Int) := if mhas m n = true then m else mput m n (-1 - (m.length : Int))
/-- A term's variables numbered as they are met; the numbers then. -/
def rnm : List (Int × Int) → List Int → List Int × List (Int × Int)
  | m, [] => ([], m)
  | m, n :: r => if 0 ≤ n then (n :: (rnm m r).1, (rnm m r).2) else (mget (nmb m n) n 0 :: (rnm (nmb m n) r).1, (rnm (nmb m n) r).2)
def rnL : List (Int × Int) → List (List Int) → List (List Int)
  | _, [] => []
  | m, t :: r => (rnm m t).1 :: rnL (rnm m t).2 r
theorem mput_len {α : Type} (m : List (Int × α)) (k : Int) (y : α) : (mput m k y).length ≤ m.length + 1 := by
  induction m with
  | nil => simp [mput]
  | cons p r ih =>
    obtain ⟨a, b⟩ := p
    simp only [mput]
    split <;> simp only [List.length_cons] <;> omega
theorem nmb_len (m : List (Int × Int)) (n : Int) : (nmb m n).length ≤ m.length + 1 := by
  unfold nmb
  split
  · omega
  · exact mput_len _ _ _
theorem rnm_len : ∀ (t : List Int) (m : List (Int × Int)), (rnm m t).1.length = t.length ∧ (rnm m t).2.length ≤ m.length + t.length
  | [], m => by simp [rnm]
  | n :: r, m => by
    simp only [rnm]
    split
    · have := rnm_len r m
      simp only [List.length_cons]; omega
    · have h1 := rnm_len r (nmb m n)
      have h2 := nmb_len m n
      simp only [List.length_cons]; omega

theorem p_rename_in (outs : List (List Int)) (i : Nat) (hi : i < outs.length) (ho : outs.length ≤ 1000000) (l : List (List Int)) (N I : Int) (t : List Int) (ht : t.length ≤ 1000000) : ∀ (k j : Nat) (m : List (Int × Int)) (P : List Int), j + k = t.length → P.length = j → m.length + k ≤ 2000000 →
    l_impl_rename_62670 M m (outs.set i (P ++ t.drop j)) i l N I t t.length j = some (.inl ((rnm m (t.drop j)).2, outs.set i (P ++ (rnm m (t.drop j)).1), l, N, I, ())) := by
  intro k
  induction k with
  | zero =>
    intro j m P hj hP hm
    obtain rfl : j = t.length := by omega
    apply el_impl_rename_62670
    simp [ql_impl_rename_62670, rnm]
  | succ k ih =>
    intro j m P hj hP hm
    have h1 : j < t.length := by omega
    rw [List.drop_eq_getElem_cons h1]
    apply el_impl_rename_62670
    simp only [ql_impl_rename_62670]
    rw [if_pos (by simpa using h1), idx_lt h1]
    simp only [Option.bind_some]
    by_cases h0 : 0 ≤ t[j]
    · rw [if_pos (by simpa using h0)]
      simp only [Option.bind_some, Sum.elim_inl]
      have := ih (j + 1) m (P ++ [t[j]]) (by omega) (by simp [hP]) (by omega)
      rw [List.append_assoc, List.append_assoc] at this
      simp only [List.cons_append, List.nil_append] at this
      rw [inc_nat (by omega), this]
      simp only [rnm, if_pos h0]
    · rw [if_neg (by simpa using h0)]
      have hl := nmb_len m t[j]
      have hmap : (if (!(mhas m t[j])) = true then (some (.inl ((mput m t[j] (IntKind.i64.wrap ((-1 : Int) - (List.length m : Int)))), outs.set i (P ++ t[j] :: t.drop (j + 1)), (i : Int), (j : Int), t[j], l, N, I, t, (t.length : Int), (j : Int), ()))) else (some (.inl (m, outs.set i (P ++ t[j] :: t.drop (j + 1)), (i : Int), (j : Int), t[j], l, N, I, t, (t.length : Int), (j : Int), ())))
          : Option (((List (Int × Int)) × (List (List Int)) × Int × Int × Int × (List (List Int)) × Int × Int × (List Int) × Int × Int × Unit) ⊕ (((List (Int × Int)) × (List (List Int)) × Int × (List (List Int)) × Int × Int × (List Int) × Int × Int × Unit) ⊕ (((List (Int × Int)) × (List (List Int)) × (List (List Int)) × Int × Int × Unit) ⊕ ((((List (List Int)) × Unit) × (Unit)))))))
          = some (.inl (nmb m t[j], outs.set i (P ++ t[j] :: t.drop (j + 1)), (i : Int), (j : Int), t[j], l, N, I, t, (t.length : Int), (j : Int), ())) := by
        unfold nmb
        cases mhas m t[j] with
        | true => rfl
        | false => rw [w64 (by omega) (by omega)]; rfl
      rw [hmap]
      simp only [Option.bind_some, Sum.elim_inl]
      have hset : (outs.set i (P ++ t[j] :: t.drop (j + 1)))[i]? = some (P ++ t[j] :: t.drop (j + 1)) := by simp [hi]
      have hel : (P ++ t[j] :: t.drop (j + 1))[j]? = some t[j] := by
        rw [List.getElem?_append_right (by omega), hP, Nat.sub_self]; rfl
      rw [if_pos (by rw [List.length_set]; omega), Int.toNat_natCast, hset]
      simp only [Option.bind_some]
      rw [if_pos (by simp; omega), Int.toNat_natCast, hel]
      simp only [Option.bind_some, Sum.elim_inl]
      rw [List.set_set, show (P ++ t[j] :: t.drop (j + 1)).set j (mget (nmb m t[j]) t[j] 0) = (P ++ [mget (nmb m t[j]) t[j] 0]) ++ t.drop (j + 1) by
        rw [List.set_append_right _ _ (by omega), hP, Nat.sub_self, List.set_cons_zero]; simp]
      have := ih (j + 1) (nmb m t[j]) (P ++ [mget (nmb m t[j]) t[j] 0]) (by omega) (by simp [hP]) (by omega)
      rw [inc_nat (by omega), this]
      simp only [rnm, if_neg h0]
      simp
theorem p_rename_loop (l : List (List Int)) (hl : l.length ≤ 1000) (hx : ∀ t ∈ l, t.length ≤ 1000) : ∀ (k j : Nat) (m : List (Int × Int)) (D : List (List Int)), j + k = l.length → D.length = j → m.length ≤ 1000 * j → l_impl_rename_122 M m (D ++ List.replicate k []) l l.length j = some (.inl (D ++ rnL m (l.drop j), ())) := by
  intro k
  induction k with
  | zero =>
    intro j m D hj hD hm
    obtain rfl : j = l.length := by omega
    apply el_impl_rename_122
    simp [ql_impl_rename_122, rnL]
  | succ k ih =>
    intro j m D hj hD hm
    have h1 : j < l.length := by omega
    have ht := hx _ (List.getElem_mem h1)
    apply el_impl_rename_122
    simp only [ql_impl_rename_122]
    have hlen : (D ++ List.replicate (k + 1) ([] : List Int)).length = l.length := by simp; omega
    have hget : (D ++ List.replicate (k + 1) ([] : List Int))[j]? = some [] := by
      rw [List.getElem?_append_right (by omega), hD, Nat.sub_self]; rfl
    rw [if_pos (by simpa using h1), idx_lt h1]
    simp only [Option.bind_some]
    rw [if_pos (by omega), if_pos (by rw [hlen]; omega), Int.toNat_natCast, hget]
    simp only [Option.bind_some]
    have hin := p_rename_in (D ++ List.replicate (k + 1) []) j (by omega) (by omega) l l.length j l[j] (by omega) l[j].length 0 m [] (by omega) rfl (by omega)
    rw [show ((0 : Nat) : Int) = 0 from rfl] at hin
    simp only [List.nil_append, List.drop_zero] at hin
    rw [hin]
    simp only [Option.bind_some, Sum.elim_inl]
    have hset : (D ++ List.replicate (k + 1) []).set j (rnm m l[j]).1 = (D ++ [(rnm m l[j]).1]) ++ List.replicate k [] := by
      rw [List.set_append_right _ _ (by omega), hD, Nat.sub_self, List.replicate_succ, List.set_cons_zero]; simp
    have hrl := (rnm_len l[j] m).2
    rw [inc_nat (by omega), hset, ih (j + 1) _ _ (by omega) (by simp [hD]) (by omega), List.drop_eq_getElem_cons h1]
    simp [rnL]
theorem p_rename (l : List (List Int)) (hl : l.length ≤ 1000) (hx : ∀ t ∈ l, t.length ≤ 1000) : c_impl_rename M l = some ((rnL [] l, ()), ()) := by
  apply e_impl_rename
  have := p_rename_loop l hl hx l.length 0 [] [] (by omega) rfl (by simp)
  rw [show ((0 : Nat) : Int) = 0 from rfl] at this
  simp only [List.nil_append, List.drop_zero] at this
  simp only [q_impl_rename]
  rw [if_pos ⟨by omega, by omega, trivial⟩, Int.toNat_natCast, this]
  rfl

theorem p_Equal_loop (a b : List Int) (hab : a.length = b.length) (ha : a.length ≤ 17592186044416) : ∀ k i : Nat, i + k = a.length → l_slices_Equal_int_int_58 M a b a.length i = some (if a.drop i = b.drop i then .inl () else .inr ((false, ()), ())) := by
  intro k
  induction k with
  | zero =>
    intro i hi
    obtain rfl : i = a.length := by omega
    apply el_slices_Equal_int_int_58
    simp only [ql_slices_Equal_int_int_58]
    rw [if_neg (by simp), List.drop_length, hab, List.drop_length, if_pos rfl]
  | succ k ih =>
    intro i hi
    have h1 : i < a.length := by omega
    have h2 : i < b.length := by omega
    apply el_slices_Equal_int_int_58
    simp only [ql_slices_Equal_int_int_58]
    rw [if_pos (by simpa using h1), idx_lt h1, idx_lt h2]
    simp only [Option.bind_some]
    rw [List.drop_eq_getElem_cons h1, List.drop_eq_getElem_cons h2]
    by_cases he : a[i] = b[i]
    · rw [if_neg (by simpa using he), inc_nat (by omega), ih (i + 1) (by omega)]
      by_cases hd : a.drop (i + 1) = b.drop (i + 1)
      · rw [if_pos hd, if_pos (by rw [he, hd])]
      · rw [if_neg hd, if_neg (fun h => hd (List.cons.inj h).2)]
    · rw [if_pos (by simpa using he), if_neg (fun h => he (List.cons.inj h).1)]
theorem p_Equal (a b : List Int) (ha : a.length ≤ 17592186044416) : c_slices_Equal_int_int M a b = some ((decide (a = b), ()), ()) := by
  apply e_slices_Equal_int_int
  simp only [q_slices_Equal_int_int]
  by_cases hl : a.length = b.length
  · have := p_Equal_loop a b hl ha a.length 0 (by omega)
    rw [show ((0 : Nat) : Int) = 0 from rfl, List.drop_zero, List.drop_zero] at this
    rw [if_neg (by simp [hl]), this]
    by_cases h : a = b
    · rw [if_pos h]; simp [h]
    · rw [if_neg h]; simp [h]
  · have : ¬ a = b := fun h => hl (by rw [h])
    rw [if_pos (by simp; omega)]
    simp [this]

/-! ### A shift changes no more than names -/
def shm (by' : Int) (m : List (Int × Int)) : List (Int × Int) := m.map fun p => (p.1 - by', p.2)
theorem mhas_shm (by' : Int) (n : Int) : ∀ m : List (Int × Int), mhas (shm by' m) (n - by') = mhas m n
  | [] => rfl
  | (a, b) :: r => by
    have ih := mhas_shm by' n r
    simp only [shm, List.map_cons, mhas] at ih ⊢
    by_cases h : a = n
    · rw [if_pos (by omega), if_pos h]
    · rw [if_neg (by omega), if_neg h, ih]
theorem mget_shm (by' : Int) (n : Int) (z : Int) : ∀ m : List (Int × Int), mget (shm by' m) (n - by') z = mget m n z
  | [] => rfl
  | (a, b) :: r => by
    have ih := mget_shm by' n z r
    simp only [shm, List.map_cons, mget] at ih ⊢
    by_cases h : a = n
    · rw [if_pos (by omega), if_pos h]
    · rw [if_neg (by omega), if_neg h, ih]
theorem mput_shm (by' : Int) (n : Int) (y : Int) : ∀ m : List (Int × Int), mput (shm by' m) (n - by') y = shm by' (mput m n y)
  | [] => rfl
  | (a, b) :: r => by
    have ih := mput_shm by' n y r
    simp only [shm, List.map_cons, mput] at ih ⊢
    by_cases h : a = n
    · rw [if_pos (by omega), if_pos h]; simp
    · rw [if_neg (by omega), if_neg h, ih]; simp
theorem nmb_shm (by' n : Int) (m : List (Int × Int)) : nmb (shm by' m) (n - by') = shm by' (nmb m n) := by
  unfold nmb
  rw [mhas_shm, mput_shm]
  have : (shm by' m).length = m.length := by simp [shm]
  rw [this]
  split <;> rfl
theorem rnm_shift (by' : Int) (h0 : 0 ≤ by') : ∀ (t : List Int) (m : List (Int × Int)), (rnm (shm by' m) (t.map (shn by'))).1 = (rnm m t).1
  | [], m => rfl
  | n :: r, m => by
    simp only [List.map_cons, shn, rnm]
    by_cases h : n < 0
    · rw [if_pos h, if_neg (by omega), if_neg (by omega), nmb_shm, mget_shm]
      have := rnm_shift by' h0 r (nmb m n)
      simp only [this]
    · rw [if_neg h, if_pos (by omega), if_pos (by omega)]
      have := rnm_shift by' h0 r m
      simp only [this]

theorem p_impl_GoodTerm (s : TSign) (hs : s.1.length ≤ 1048576) (t : List Int) : c_impl_GoodTerm M s t = some ((gS s.1 && isT s.1 t, ()), ()) := by
  apply e_impl_GoodTerm
  simp only [q_impl_GoodTerm, sign_eta', p_impl_GoodSign s (by omega), Option.bind_some]
  cases hg : gS s.1 with
  | false => rfl
  | true => simp only [if_true, p_isTerm s hg t, Option.bind_some, Bool.true_and]
theorem p_spec_GoodTerm (s : TSign) (hs : s.1.length ≤ 1048576) (t : List Int) (ht : t.length ≤ 1048576) : c_spec_GoodTerm M s t = some ((gS s.1 && isT s.1 t, ()), ()) := by
  apply e_spec_GoodTerm
  simp only [q_spec_GoodTerm, sign_eta', p_spec_GoodSign s (by omega), Option.bind_some]
  cases hg : gS s.1 with
  | false => rfl
  | true => simp only [if_true, p_l1Term s hg t ht, Option.bind_some, Bool.true_and]
theorem p_SameUpTo (s : TSign) (hs : s.1.length ≤ 1048576) (a b : List Int) (hg : gS s.1 = true) (ha : isT s.1 a = true) (hb : isT s.1 b = true) : c_impl_SameUpTo M s a b = some ((decide ((rnm [] a).1 = (rnm [] b).1), true, ()), ()) := by
  obtain ⟨l1, _⟩ := isT_rng ha
  obtain ⟨l2, _⟩ := isT_rng hb
  have r1 := (rnm_len a []).1
  apply e_impl_SameUpTo
  simp only [q_impl_SameUpTo, sign_eta', p_impl_GoodTerm s hs a, hg, ha, p_isTerm s hg b, hb, Option.bind_some, Bool.and_self, Bool.not_true, Bool.false_eq_true, if_false]
  rw [p_rename [a] (by simp) (by simp; omega)]
  simp only [Option.bind_some, rnL, List.length_cons, List.length_nil]
  rw [if_pos (by omega)]
  simp only [Int.toNat_zero, List.getElem?_cons_zero, Option.bind_some]
  rw [p_rename [b] (by simp) (by simp; omega)]
  simp only [Option.bind_some, rnL, List.length_cons, List.length_nil]
  rw [if_pos (by omega)]
  simp only [Int.toNat_zero, List.getElem?_cons_zero, Option.bind_some]
  rw [p_Equal _ _ (by omega)]
  rfl
/-- A shifted term, by both programs. -/
def SV (a t : List Int) (by' : Int) : (List Int × Bool × Unit) × Unit :=
  if gS a = true ∧ isT a t = true ∧ 0 ≤ by' ∧ by' ≤ 12 ∧ isT a (t.map (shn by')) = true then ((t.map (shn by'), true, ()), ()) else (([], false, ()), ())
theorem p_impl_ShiftVars (s : TSign) (hs : s.1.length ≤ 1048576) (t : List Int) (ht : t.length ≤ 1048576) (by' : Int) : c_impl_ShiftVars M s t by' = some (SV s.1 t by') := by
  apply e_impl_ShiftVars
  simp only [q_impl_ShiftVars, sign_eta', p_impl_GoodTerm s hs t, Option.bind_some]
  unfold SV
  by_cases h1 : gS s.1 = true ∧ isT s.1 t = true
  · obtain ⟨hg, hT⟩ := h1
    have hal : s.1.length ≤ 10 := by
      simp only [gS, Bool.and_eq_true, decide_eq_true_eq] at hg
      omega
    obtain ⟨l1, l2⟩ := isT_rng hT
    simp only [hg, hT, Bool.and_self, Bool.not_true, Bool.false_eq_true, if_false, true_and]
    by_cases h2 : by' < 0
    · rw [if_pos (by simpa using h2), if_neg (by omega)]
    · rw [if_neg (by simpa using h2)]
      by_cases h3 : by' > 12
      · rw [if_pos (by simpa using h3), if_neg (by omega)]
      · rw [if_neg (by simpa using h3), p_shift t by' (by omega) (by omega) (by omega) (fun n hn => by have := l2 n hn; omega)]
        simp only [Option.bind_some, p_isTerm s hg]
        cases hT2 : isT s.1 (t.map (shn by')) with
        | false => simp
        | true => rw [if_neg (by simp), if_pos ⟨by omega, by omega, rfl⟩]
  · have : (gS s.1 && isT s.1 t) = false := by
      cases hg : gS s.1 with
      | false => rfl
      | true => cases hT : isT s.1 t with
        | false => rfl
        | true => exact absurd ⟨hg, hT⟩ h1
    rw [this, if_pos (by rfl), if_neg (fun h => h1 ⟨h.1, h.2.1⟩)]
theorem p_spec_ShiftVars (s : TSign) (hs : s.1.length ≤ 1048576) (t : List Int) (ht : t.length ≤ 1048576) (by' : Int) : c_spec_ShiftVars M s t by' = some (SV s.1 t by') := by
  apply e_spec_ShiftVars
  simp only [q_spec_ShiftVars, sign_eta', p_spec_GoodTerm s hs t ht, Option.bind_some, p_l1In]
  unfold SV
  by_cases h1 : gS s.1 = true ∧ isT s.1 t = true
  · obtain ⟨hg, hT⟩ := h1
    have hal : s.1.length ≤ 10 := by
      simp only [gS, Bool.and_eq_true, decide_eq_true_eq] at hg
      omega
    obtain ⟨l1, l2⟩ := isT_rng hT
    simp only [hg, hT, Bool.and_self, Bool.not_true, Bool.false_eq_true, if_false, true_and]
    by_cases h2 : 0 ≤ by' ∧ by' ≤ 12
    · rw [if_neg (by simp; omega), p_l1Shift t by' (by omega) (by omega) (by omega) (fun n hn => by have := l2 n hn; omega)]
      simp only [Option.bind_some]
      rw [p_l1Term s hg _ (by simp; omega)]
      simp only [Option.bind_some]
      cases hT2 : isT s.1 (t.map (shn by')) with
      | false => simp
      | true => rw [if_neg (by simp), if_pos ⟨by omega, by omega, rfl⟩]
    · rw [if_pos (by simp; omega), if_neg (by omega)]
  · have : (gS s.1 && isT s.1 t) = false := by
      cases hg : gS s.1 with
      | false => rfl
      | true => cases hT : isT s.1 t with
        | false => rfl
        | true => exact absurd ⟨hg, hT⟩ h1
    rw [this, if_pos (by rfl), if_neg (fun h => h1 ⟨h.1, h.2.1⟩)]
end Go.Proofs.YtkdceefdipljaaaTt.Ev

/- Plain laws: rows that are alike, as the laws ask. No condition but sizes. -/
namespace Go.Proofs.YtkdceefdipljaaaTt.Ev
open Go
set_option autoImplicit false
set_option linter.unusedVariables false
set_option linter.unusedSimpArgs false

theorem p_sameInts_loop (a : List Int) (ha : a.length ≤ 17592186044416) : ∀ k i : Nat, i + k = a.length → l_laws_sameInts_58 M a a a.length i = some (.inl ()) := by
  intro k
  induction k with
  | zero =>
    intro i hi
    apply el_laws_sameInts_58
    simp only [ql_laws_sameInts_58]
    rw [if_neg (by simp; omega)]
  | succ k ih =>
    intro i hi
    have h1 : i < a.length := by omega
    apply el_laws_sameInts_58
    simp only [ql_laws_sameInts_58]
    rw [if_pos (by simpa using h1), idx_lt h1, inc_nat (by omega)]
    simp only [Option.bind_some]
    rw [if_neg (by simp)]
    exact ih (i + 1) (by omega)
theorem p_sameInts (a : List Int) (ha : a.length ≤ 17592186044416) : c_laws_sameInts M a a = some ((true, ()), ()) := by
  apply e_laws_sameInts
  simp only [q_laws_sameInts]
  have := p_sameInts_loop a ha a.length 0 (by omega)
  rw [show ((0 : Nat) : Int) = 0 from rfl] at this
  rw [if_neg (by simp), this]
  rfl
theorem p_sameTerm (a : List Int) (ha : a.length ≤ 17592186044416) : c_laws_sameTerm M a a = some ((true, ()), ()) := by
  apply e_laws_sameTerm
  simp only [q_laws_sameTerm, p_sameInts a ha, Option.bind_some]
/-- Whether bytes are too many. -/
theorem p_big (a b : List Int) (la : a.length ≤ 9223372036854775807) (lb : b.length ≤ 9223372036854775807) : c_laws_big M a b = some ((decide (1048576 < a.length) || decide (1048576 - (a.length : Int) < b.length), ()), ()) := by
  apply e_laws_big
  simp only [q_laws_big]
  by_cases h : 1048576 < a.length
  · rw [if_pos (by simp; omega)]; simp [h]
  · rw [if_neg (by simp; omega), w64 (by omega) (by omega)]; simp [h]
end Go.Proofs.YtkdceefdipljaaaTt.Ev

/- Plain laws: bytes and numbers. No condition but sizes. -/
namespace Go.Proofs.YtkdceefdipljaaaTt.Ev
open Go
set_option autoImplicit false
set_option linter.unusedVariables false
set_option linter.unusedSimpArgs false

theorem wu64 {x : Int} (h : 0 ≤ x) (k : x < 18446744073709551616) : IntKind.u64.wrap x = x := by
  simp only [IntKind.wrap, IntKind.bits, IntKind.signed, Bool.false_and, Bool.false_eq_true, if_false]
  omega

theorem bytesStr_app (x y : List Int) : bytesStr (x ++ y) = bytesStr x ++ bytesStr y := by simp [bytesStr]

theorem bytesStr_len (x : List Int) : (bytesStr x).length = x.length := by simp [bytesStr]

theorem bytesStr_one (n : Nat) : bytesStr [(n : Int)] = [UInt8.ofNat n] := by simp [bytesStr]

theorem bytesStr_str (x : List UInt8) : bytesStr (strBytes x) = x := by
  induction x with
  | nil => rfl
  | cons b r ih => simp only [strBytes, bytesStr, List.map_cons] at ih ⊢; rw [ih]; simp

theorem strBytes_app (x y : List UInt8) : strBytes (x ++ y) = strBytes x ++ strBytes y := by simp [strBytes]

theorem strBytes_len (x : List UInt8) : (strBytes x).length = x.length := by simp [strBytes]

theorem strBytes_one {n : Nat} (h : n < 256) : strBytes [UInt8.ofNat n] = [(n : Int)] := by
  simp [strBytes]; omega

end Go.Proofs.YtkdceefdipljaaaTt.Ev

/- Plain laws: places of a term's operands. No condition but sizes. -/
namespace Go.Proofs.YtkdceefdipljaaaTt.Ev
open Go
set_option autoImplicit false
set_option linter.unusedVariables false
set_option linter.unusedSimpArgs false


def posOf : Nat → List (List Int) → List Int
  | _, [] => []
  | p, u :: us => (p : Int) :: posOf (p + u.length) us
theorem posOf_len : ∀ (us : List (List Int)) (p : Nat), (posOf p us).length = us.length
  | [], _ => rfl
  | _ :: us, p => by simp [posOf, posOf_len us]

theorem drop_split {T u x : List Int} {i : Nat} (h : T.drop i = u ++ x) : T.drop (i + u.length) = x := by
  rw [← List.drop_drop, h, List.drop_left]
theorem drop_len {T u : List Int} {i : Nat} (h : T.drop i = u) : u.length = T.length - i := by rw [← h, List.length_drop]

theorem p_l1Args_loop {a : List Int} (hg : gS a = true) (T : List Int) (hT : T.length ≤ 1000) : ∀ (us : List (List Int)) (p : Nat) (x out : List Int), (∀ u ∈ us, Tm a u) → us.length ≤ 1000 → T.drop p = us.flatten ++ x → out.length + us.length ≤ 1000 →
    l_spec_l1Args_250 M T (a, ()) out p us.length = some (.inl (out ++ posOf p us, ())) := by
  intro us
  induction us with
  | nil =>
    intro p x out _ _ _ _
    apply el_spec_l1Args_250
    simp [ql_spec_l1Args_250, posOf]
  | cons u us ih =>
    intro p x out hu hl hd ho
    simp only [List.length_cons] at hl ho
    simp only [List.flatten_cons, List.append_assoc] at hd
    have h1 := hu u (by simp)
    apply el_spec_l1Args_250
    simp only [ql_spec_l1Args_250, List.length_cons]
    have hp : p ≤ T.length := by
      have := drop_len hd
      have h2 := h1.pos
      simp at this
      omega
    rw [if_pos (by simp), if_pos (by simp [-List.length_flatten]; omega), p_l1End (a, ()) hg T p hp (by omega), hd, h1.rest hg]
    have hx := drop_len hd
    have hlen : (T.length : Int) - (us.flatten ++ x).length = ((p + u.length : Nat) : Int) := by
      simp only [List.length_append] at hx ⊢
      omega
    simp only [Option.bind_some, hlen]
    rw [w64 (by omega) (by omega), show ((us.length + 1 : Nat) : Int) - 1 = (us.length : Int) by omega, ih (p + u.length) x (out ++ [(p : Int)]) (fun v hv => hu v (by simp [hv])) (by omega) (drop_split hd) (by simp [-List.length_flatten]; omega)]
    simp [posOf]

end Go.Proofs.YtkdceefdipljaaaTt.Ev

/- Plain laws: what is drawn. No condition but that the bytes are bytes and fit in memory. -/
namespace Go.Proofs.YtkdceefdipljaaaTt.Ev
open Go
set_option autoImplicit false
set_option linter.unusedVariables false
set_option linter.unusedSimpArgs false

abbrev TCur := List Int × Int × Int × Unit
theorem cur_eta (c : TCur) : (c.1, c.2.1, c.2.2.1, ()) = c := rfl
/-- A reader of choices over some bytes, no further than a place. -/
def Cu (code : List Int) (j : Int) (c : TCur) : Prop := c.1 = code ∧ 0 ≤ c.2.1 ∧ c.2.1 ≤ j
def isBytes (code : List Int) : Prop := code.length ≤ 1048576 ∧ ∀ b ∈ code, 0 ≤ b ∧ b ≤ 255

theorem and255 (x : Int) : 0 ≤ bitsI .and .u64 x 255 ∧ bitsI .and .u64 x 255 ≤ 255 := by
  have h : (BitVec.ofInt 64 x &&& BitVec.ofInt 64 255).toNat ≤ 255 := by
    rw [BitVec.toNat_and]
    exact Nat.le_trans Nat.and_le_right (by decide)
  have e : bitsI .and .u64 x 255 = IntKind.u64.wrap (((BitVec.ofInt 64 x &&& BitVec.ofInt 64 255).toNat : Nat) : Int) := rfl
  rw [e, wu64 (by omega) (by omega)]
  omega

theorem p_next {code : List Int} (hb : isBytes code) {j : Int} (hj : j ≤ 1000000000) {c : TCur} (hc : Cu code j c) : ∃ x c', c_spec_l1Cur_next M c = some ((x, ()), (c', ())) ∧ 0 ≤ x ∧ x ≤ 255 ∧ Cu code (j + 1) c' := by
  obtain ⟨h1, h2, h3⟩ := hc
  have hin : IntKind.i64.wrap (c.2.1 + 1) = c.2.1 + 1 := w64 (by omega) (by omega)
  have tail : ∀ (x0 : Int), 0 ≤ x0 → x0 ≤ 255 → (∃ r : (Int × Unit) × (TCur × Unit), (if (decide ((IntKind.i64.wrap (c.2.1 + (1 : Int))) ≤ (List.length c.1 : Int))) = true then (some ((x0, ()), ((c.1, (IntKind.i64.wrap (c.2.1 + (1 : Int))), (IntKind.u64.wrap ((IntKind.u64.wrap ((IntKind.u64.wrap (c.2.2.1 * (6364136223846793005 : Int))) + (IntKind.u64.wrap x0))) + (1442695040888963407 : Int))), ()), ()))) else (if (40 : Int) < 0 then none else (some (((IntKind.i64.wrap (bitsI .and .u64 (shrI .u64 (IntKind.u64.wrap ((IntKind.u64.wrap ((IntKind.u64.wrap (c.2.2.1 * (6364136223846793005 : Int))) + (IntKind.u64.wrap x0))) + (1442695040888963407 : Int))) (40 : Int)) (255 : Int))), ()), ((c.1, (IntKind.i64.wrap (c.2.1 + (1 : Int))), (IntKind.u64.wrap ((IntKind.u64.wrap ((IntKind.u64.wrap (c.2.2.1 * (6364136223846793005 : Int))) + (IntKind.u64.wrap x0))) + (1442695040888963407 : Int))), ()), ()))))) = some r ∧ 0 ≤ r.1.1 ∧ r.1.1 ≤ 255 ∧ Cu code (j + 1) r.2.1) := by
    intro x0 g0 g1
    rw [hin]
    by_cases hq : c.2.1 + 1 ≤ (List.length c.1 : Int)
    · rw [if_pos (by simpa using hq)]
      exact ⟨_, rfl, g0, g1, h1, by show 0 ≤ c.2.1 + 1; omega, by show c.2.1 + 1 ≤ j + 1; omega⟩
    · rw [if_neg (by simpa using hq), if_neg (by omega)]
      have ha := and255 (shrI .u64 (IntKind.u64.wrap ((IntKind.u64.wrap ((IntKind.u64.wrap (c.2.2.1 * (6364136223846793005 : Int))) + (IntKind.u64.wrap x0))) + (1442695040888963407 : Int))) (40 : Int))
      refine ⟨_, rfl, ?_, ?_, h1, by show 0 ≤ c.2.1 + 1; omega, by show c.2.1 + 1 ≤ j + 1; omega⟩
      · show 0 ≤ IntKind.i64.wrap _
        rw [w64 (by omega) (by omega)]; exact ha.1
      · show IntKind.i64.wrap _ ≤ 255
        rw [w64 (by omega) (by omega)]; exact ha.2
  by_cases hl : c.2.1 < (List.length c.1 : Int)
  · obtain ⟨m, hm⟩ : ∃ m : Nat, c.2.1 = (m : Int) := ⟨c.2.1.toNat, by omega⟩
    have hml : m < c.1.length := by omega
    have hbb := hb.2 (c.1[m]) (by rw [← h1]; exact List.getElem_mem hml)
    obtain ⟨r, r1, r2, r3, r4⟩ := tail c.1[m] hbb.1 hbb.2
    refine ⟨r.1.1, r.2.1, e_spec_l1Cur_next _ ?_, r2, r3, r4⟩
    simp only [q_spec_l1Cur_next]
    have hix : idx c.1 c.2.1 = some c.1[m] := by rw [hm, idx_lt hml]
    rw [if_pos (by simpa using hl), hix]
    simp only [Option.bind_some]
    rw [w64 (x := c.1[m]) (by omega) (by omega)]
    simp only [Option.bind_some, Sum.elim_inl]
    exact r1
  · obtain ⟨r, r1, r2, r3, r4⟩ := tail 0 (by omega) (by omega)
    refine ⟨r.1.1, r.2.1, e_spec_l1Cur_next _ ?_, r2, r3, r4⟩
    simp only [q_spec_l1Cur_next]
    rw [if_neg (by simpa using hl)]
    simp only [Option.bind_some, Sum.elim_inl]
    exact r1

theorem p_pick {code : List Int} (hb : isBytes code) {j : Int} (hj : j ≤ 100000000) {c : TCur} (hc : Cu code j c) (n : Int) (hn : n ≤ 1000000000) : ∃ x c', c_spec_l1Cur_pick M c n = some ((x, ()), (c', ())) ∧ 0 ≤ x ∧ (x < n ∨ x = 0) ∧ Cu code (j + 2) c' := by
  by_cases h1 : n ≤ 1
  · refine ⟨0, c, e_spec_l1Cur_pick _ _ ?_, by omega, .inr rfl, hc.1, hc.2.1, by have := hc.2.2; omega⟩
    simp only [q_spec_l1Cur_pick]
    rw [if_pos (by simpa using h1)]
  · obtain ⟨x, c', n1, n2, n3, n4⟩ := p_next hb (by omega) hc
    by_cases h2 : n > 200
    · obtain ⟨y, c'', m1, m2, m3, m4⟩ := p_next hb (by omega) n4
      have hw : IntKind.i64.wrap (IntKind.i64.wrap (x * 256) + y) = x * 256 + y := by rw [w64 (x := x * 256) (by omega) (by omega), w64 (by omega) (by omega)]
      refine ⟨Int.tmod (x * 256 + y) n, c'', e_spec_l1Cur_pick _ _ ?_, Int.tmod_nonneg _ (by omega), .inl (Int.tmod_lt_of_pos _ (by omega)), m4.1, m4.2.1, by have := m4.2.2; omega⟩
      simp only [q_spec_l1Cur_pick]
      rw [if_neg (by simpa using h1), cur_eta, n1]
      simp only [Option.bind_some]
      rw [if_pos (by simpa using h2), cur_eta, m1]
      simp only [Option.bind_some, Sum.elim_inl]
      rw [if_neg (by omega), hw]
    · refine ⟨Int.tmod x n, c', e_spec_l1Cur_pick _ _ ?_, Int.tmod_nonneg _ (by omega), .inl (Int.tmod_lt_of_pos _ (by omega)), n4.1, n4.2.1, by have := n4.2.2; omega⟩
      simp only [q_spec_l1Cur_pick]
      rw [if_neg (by simpa using h1), cur_eta, n1]
      simp only [Option.bind_some]
      rw [if_neg (by simpa using h2)]
      simp only [Option.bind_some, Sum.elim_inl]
      rw [if_neg (by omega)]

theorem p_one {code : List Int} (hb : isBytes code) {j : Int} (hj : j ≤ 100000000) {c : TCur} (hc : Cu code j c) (n : Int) (hn : n ≤ 1000000000) : ∃ x c', c_spec_l1Cur_one M c n = some ((x, ()), (c', ())) ∧ Cu code (j + 2) c' := by
  obtain ⟨x, c', n1, _, _, n4⟩ := p_pick hb hj hc n hn
  refine ⟨x == 0, c', e_spec_l1Cur_one _ _ ?_, n4⟩
  simp only [q_spec_l1Cur_one, cur_eta, n1, Option.bind_some]
theorem p_among {code : List Int} (hb : isBytes code) {j : Int} (hj : j ≤ 100000000) {c : TCur} (hc : Cu code j c) (l : List Int) (hl : l.length ≤ 1000000) (hl0 : 0 < l.length) : ∃ x c', c_spec_l1Cur_among M c l = some ((x, ()), (c', ())) ∧ x ∈ l ∧ Cu code (j + 2) c' := by
  obtain ⟨x, c', n1, n2, n3, n4⟩ := p_pick hb hj hc l.length (by omega)
  obtain ⟨m, rfl⟩ : ∃ m : Nat, x = (m : Int) := ⟨x.toNat, by omega⟩
  have hm : m < l.length := by omega
  refine ⟨l[m], c', e_spec_l1Cur_among _ _ ?_, List.getElem_mem hm, n4⟩
  simp only [q_spec_l1Cur_among, cur_eta, n1, Option.bind_some]
  rw [idx_lt hm]
  rfl
theorem cu0 (code : List Int) : Cu code 0 (code, 0, 0, ()) := ⟨rfl, Int.le_refl _, Int.le_refl _⟩

theorem p_spoilt_loop {code : List Int} (hb : isBytes code) (w : List UInt8) (hw0 : 0 < w.length) (hw1 : w.length ≤ 1000) : ∀ (k : Nat) (j : Int) (c : TCur) (t : List UInt8), k ≤ 1000 → t.length + k ≤ 1000000 → j + 6 * k ≤ 1000000 → Cu code j c → ∃ c' t', l_spec_l1Cur_spoilt_26 M c t w k = some (.inl (c', t', ())) ∧ t'.length ≤ t.length + k ∧ Cu code (j + 6 * k) c' := by
  intro k
  induction k with
  | zero =>
    intro j c t _ _ _ hc
    refine ⟨c, t, el_spec_l1Cur_spoilt_26 _ _ _ _ ?_, by omega, by simpa using hc⟩
    simp [ql_spec_l1Cur_spoilt_26, cur_eta]
  | succ k ih =>
    intro j c t hk ht hj hc
    by_cases ht0 : 0 < t.length
    · obtain ⟨x, c1, n1, n2, n3, n4⟩ := p_pick hb (by omega) hc t.length (by omega)
      obtain ⟨i, rfl⟩ : ∃ m : Nat, x = (m : Int) := ⟨x.toNat, by omega⟩
      have hi : i < t.length := by omega
      obtain ⟨y, c2, m1, m2, m3, m4⟩ := p_pick hb (by omega) n4 w.length (by omega)
      obtain ⟨q, rfl⟩ : ∃ m : Nat, y = (m : Int) := ⟨y.toNat, by omega⟩
      have hq : q < w.length := by omega
      obtain ⟨z, c3, p1, p2, p3, p4⟩ := p_pick hb (by omega) m4 3 (by omega)
      have hwk : IntKind.i64.wrap (((k + 1 : Nat) : Int) - 1) = (k : Int) := by rw [w64 (by omega) (by omega)]; omega
      have hwi : IntKind.i64.wrap ((i : Int) + 1) = ((i + 1 : Nat) : Int) := inc_nat (by omega)
      have hwz : bytesStr [((w[q]).toNat : Int)] = [w[q]] := by simp [bytesStr]
      have fin : ∀ t' : List UInt8, t'.length ≤ t.length + 1 → ∃ c' t'', l_spec_l1Cur_spoilt_26 M c3 t' w k = some (.inl (c', t'', ())) ∧ t''.length ≤ t.length + (k + 1) ∧ Cu code (j + 6 * ((k + 1 : Nat) : Int)) c' := by
        intro t' ht'
        obtain ⟨c', t'', g1, g2, g3⟩ := ih (j + 6) c3 t' (by omega) (by omega) (by omega) ⟨p4.1, p4.2.1, by have := p4.2.2; omega⟩
        exact ⟨c', t'', g1, by omega, g3.1, g3.2.1, by have := g3.2.2; omega⟩
      by_cases z0 : z = 0
      · obtain ⟨c', t'', g1, g2, g3⟩ := fin (t.take i ++ [w[q]] ++ t.drop i) (by simp; omega)
        refine ⟨c', t'', el_spec_l1Cur_spoilt_26 _ _ _ _ ?_, g2, g3⟩
        simp only [ql_spec_l1Cur_spoilt_26]
        rw [if_pos (by simp <;> omega), if_pos (by simpa using ht0)]
        simp only [cur_eta, n1, Option.bind_some, m1, idx_lt hq, p1, z0, beq_self_eq_true, if_true, Int.toNat_natCast, Int.toNat_zero, List.drop_zero, List.take_length, hwz]
        rw [if_pos (by omega), if_pos (by simp; omega), if_pos (by omega), if_pos (by simp; omega)]
        simp only [Option.bind_some, Sum.elim_inl, cur_eta, hwk]
        exact g1
      · by_cases z1 : z = 1
        · obtain ⟨c', t'', g1, g2, g3⟩ := fin (t.take i ++ [w[q]] ++ t.drop (i + 1)) (by simp; omega)
          refine ⟨c', t'', el_spec_l1Cur_spoilt_26 _ _ _ _ ?_, g2, g3⟩
          simp only [ql_spec_l1Cur_spoilt_26]
          rw [if_pos (by simp <;> omega), if_pos (by simpa using ht0)]
          simp only [cur_eta, n1, Option.bind_some, m1, idx_lt hq, p1]
          rw [if_neg (by simpa using z0), if_pos (by simpa using z1)]
          simp only [Int.toNat_natCast, Int.toNat_zero, List.drop_zero, List.take_length, hwz, hwi]
          rw [if_pos (by omega), if_pos (by simp; omega), if_pos (by omega), if_pos (by simp; omega)]
          simp only [Option.bind_some, Sum.elim_inl, cur_eta, hwk]
          exact g1
        · obtain ⟨c', t'', g1, g2, g3⟩ := fin (t.take i ++ t.drop (i + 1)) (by simp; omega)
          refine ⟨c', t'', el_spec_l1Cur_spoilt_26 _ _ _ _ ?_, g2, g3⟩
          simp only [ql_spec_l1Cur_spoilt_26]
          rw [if_pos (by simp <;> omega), if_pos (by simpa using ht0)]
          simp only [cur_eta, n1, Option.bind_some, m1, idx_lt hq, p1]
          rw [if_neg (by simpa using z0), if_neg (by simpa using z1)]
          simp only [Int.toNat_natCast, Int.toNat_zero, List.drop_zero, List.take_length, hwz, hwi]
          rw [if_pos (by omega), if_pos (by omega), if_pos (by simp; omega)]
          simp only [Option.bind_some, Sum.elim_inl, cur_eta, hwk]
          exact g1
    · refine ⟨c, t, el_spec_l1Cur_spoilt_26 _ _ _ _ ?_, by omega, hc.1, hc.2.1, by have := hc.2.2; omega⟩
      simp only [ql_spec_l1Cur_spoilt_26]
      rw [if_pos (by simp <;> omega), if_neg (by simpa using ht0), cur_eta]
theorem p_spoilt {code : List Int} (hb : isBytes code) {j : Int} (hj : j ≤ 100000) {c : TCur} (hc : Cu code j c) (t w : List UInt8) (hw0 : 0 < w.length) (hw1 : w.length ≤ 1000) (ht : t.length ≤ 100000) : ∃ (t' : List UInt8) (c' : TCur), c_spec_l1Cur_spoilt M c t w = some ((t', ()), (c', ())) ∧ t'.length ≤ t.length + 2 ∧ Cu code (j + 20) c' := by
  obtain ⟨x, c1, n1, n2, n3, n4⟩ := p_pick hb (by omega) hc 2 (by omega)
  obtain ⟨m, rfl⟩ : ∃ m : Nat, x = (m : Int) := ⟨x.toNat, by omega⟩
  have hw : IntKind.i64.wrap (1 + (m : Int)) = ((m + 1 : Nat) : Int) := by rw [w64 (by omega) (by omega)]; omega
  obtain ⟨c', t', g1, g2, g3⟩ := p_spoilt_loop hb w hw0 hw1 (m + 1) (j + 2) c1 t (by omega) (by omega) (by omega) n4
  refine ⟨t', c', e_spec_l1Cur_spoilt _ _ _ ?_, by omega, g3.1, g3.2.1, by have := g3.2.2; omega⟩
  simp only [q_spec_l1Cur_spoilt, cur_eta, n1, Option.bind_some, hw, g1, Sum.elim_inl]

end Go.Proofs.YtkdceefdipljaaaTt.Ev

/- Plain laws: that something is answered, and what holds of it. No condition. -/
namespace Go.Proofs.YtkdceefdipljaaaTt.Ev
open Go
set_option autoImplicit false
set_option linter.unusedVariables false
set_option linter.unusedSimpArgs false

/-- Something is answered, and this holds of it. -/
def Okk {α : Type} (P : α → Prop) (o : Option α) : Prop := ∃ x, o = some x ∧ P x
theorem Okk.pure {α : Type} {P : α → Prop} {x : α} (h : P x) : Okk P (some x) := ⟨x, rfl, h⟩
theorem Okk.bind {α β : Type} {P : α → Prop} {Q : β → Prop} {o : Option α} {f : α → Option β} (h : Okk P o) (k : ∀ x, P x → Okk Q (f x)) : Okk Q (o.bind f) := by
  obtain ⟨x, rfl, hx⟩ := h
  exact k x hx
theorem Okk.ite {α : Type} {P : α → Prop} {c : Prop} [Decidable c] {a b : Option α} (h : c → Okk P a) (k : ¬ c → Okk P b) : Okk P (if c then a else b) := by
  by_cases hc : c
  · rw [if_pos hc]; exact h hc
  · rw [if_neg hc]; exact k hc
theorem Okk.iteT {α : Type} {P : α → Prop} {c : Prop} [Decidable c] {a b : Option α} (hc : c) (h : Okk P a) : Okk P (if c then a else b) := by rw [if_pos hc]; exact h
theorem Okk.iteF {α : Type} {P : α → Prop} {c : Prop} [Decidable c] {a b : Option α} (hc : ¬ c) (h : Okk P b) : Okk P (if c then a else b) := by rw [if_neg hc]; exact h
theorem Okk.mono {α : Type} {P Q : α → Prop} {o : Option α} (h : Okk P o) (k : ∀ x, P x → Q x) : Okk Q o := by
  obtain ⟨x, hx, p⟩ := h
  exact ⟨x, hx, k x p⟩
theorem Okk.lift {α : Type} {P : α → Prop} {o c : Option α} (h : Okk P o) (k : ∀ {r}, o = some r → c = some r) : Okk P c := by
  obtain ⟨x, hx, p⟩ := h
  exact ⟨x, k hx, p⟩
theorem Okk.idx {α : Type} {l : List α} {i : Int} (h : 0 ≤ i) (k : i < l.length) : Okk (fun x => x ∈ l) (idx l i) := by
  obtain ⟨m, rfl⟩ : ∃ m : Nat, i = (m : Int) := ⟨i.toNat, by omega⟩
  have hm : m < l.length := by omega
  exact ⟨l[m], idx_lt hm, List.getElem_mem hm⟩
theorem Okk.get {α : Type} {l : List α} {i : Nat} (k : i < l.length) : Okk (fun x => x ∈ l) (l[i]?) := ⟨l[i], by simp [k], List.getElem_mem k⟩

theorem Cu.mono {code : List Int} {i j : Int} {c : TCur} (h : Cu code i c) (k : i ≤ j) : Cu code j c := ⟨h.1, h.2.1, by have := h.2.2; omega⟩
section
variable {code : List Int} (hb : isBytes code) {j : Int} {c : TCur} (hc : Cu code j c)
include hb hc
theorem d_next (hj : j ≤ 1000000000) : Okk (fun r => 0 ≤ r.1.1 ∧ r.1.1 ≤ 255 ∧ Cu code (j + 1) r.2.1) (c_spec_l1Cur_next M c) := by
  obtain ⟨x, c', h, h1, h2, h3⟩ := p_next hb hj hc
  exact ⟨_, h, h1, h2, h3⟩
theorem d_pick (n : Int) (hj : j ≤ 100000000) (hn : n ≤ 1000000000) : Okk (fun r => 0 ≤ r.1.1 ∧ (r.1.1 < n ∨ r.1.1 = 0) ∧ Cu code (j + 2) r.2.1) (c_spec_l1Cur_pick M c n) := by
  obtain ⟨x, c', h, h1, h2, h3⟩ := p_pick hb hj hc n hn
  exact ⟨_, h, h1, h2, h3⟩
theorem d_one (n : Int) (hj : j ≤ 100000000) (hn : n ≤ 1000000000) : Okk (fun r => Cu code (j + 2) r.2.1) (c_spec_l1Cur_one M c n) := by
  obtain ⟨x, c', h, h1⟩ := p_one hb hj hc n hn
  exact ⟨_, h, h1⟩
theorem d_among (l : List Int) (hj : j ≤ 100000000) (hl : l.length ≤ 1000000) (hl0 : 0 < l.length) : Okk (fun r => r.1.1 ∈ l ∧ Cu code (j + 2) r.2.1) (c_spec_l1Cur_among M c l) := by
  obtain ⟨x, c', h, h1, h2⟩ := p_among hb hj hc l hl hl0
  exact ⟨_, h, h1, h2⟩
theorem d_spoilt (t w : List UInt8) (hj : j ≤ 100000) (hw0 : 0 < w.length) (hw1 : w.length ≤ 1000) (ht : t.length ≤ 100000) : Okk (fun r => r.1.1.length ≤ t.length + 2 ∧ Cu code (j + 20) r.2.1) (c_spec_l1Cur_spoilt M c t w) := by
  obtain ⟨x, c', h, h1, h2⟩ := p_spoilt hb hj hc t w hw0 hw1 ht
  exact ⟨_, h, h1, h2⟩
end

end Go.Proofs.YtkdceefdipljaaaTt.Ev

/- Plain laws: signatures and terms that are drawn are answered, and small. No condition but sizes. -/
namespace Go.Proofs.YtkdceefdipljaaaTt.Ev
open Go
set_option autoImplicit false
set_option linter.unusedVariables false
set_option linter.unusedSimpArgs false

/-- A signature as it is drawn. -/
def SgD (a : List Int) : Prop := a.length ≤ 10 ∧ ∀ x ∈ a, 0 ≤ x ∧ x ≤ 3
theorem dec64 {x : Int} (h : -9223372036854775807 ≤ x) (k : x < 9223372036854775808) : IntKind.i64.wrap (x - 1) = x - 1 := w64 (by omega) (by omega)
section
variable {code : List Int} (hb : isBytes code)
include hb
theorem d_sign {j : Int} (hj : j ≤ 1000000) {c : TCur} (hc : Cu code j c) : Okk (fun r => SgD r.1.1.1 ∧ Cu code (j + 2) r.2.1) (c_spec_l1Cur_sign M c) := by
  refine Okk.lift ?_ (e_spec_l1Cur_sign c)
  simp only [q_spec_l1Cur_sign]
  refine Okk.bind (P := fun y => ∃ c' a, y = .inl (c', ([], ()), (a, ()), ()) ∧ SgD a ∧ Cu code (j + 2) c') ?_ ?_
  · refine Okk.bind (d_pick hb hc 40 (by omega) (by omega)) ?_
    rintro ⟨⟨x, ⟨⟩⟩, ⟨c', ⟨⟩⟩⟩ ⟨_, _, h⟩
    refine Okk.ite (fun _ => .pure ⟨c', _, rfl, by simp [SgD], h⟩) fun _ => Okk.ite (fun _ => .pure ⟨c', _, rfl, by simp [SgD], h⟩) fun _ => Okk.ite (fun _ => .pure ⟨c', _, rfl, by simp [SgD], h⟩) fun _ => .pure ⟨c', _, rfl, by simp [SgD], h⟩
  · rintro _ ⟨c', a, rfl, h1, h2⟩
    exact .pure ⟨h1, h2⟩

theorem d_term_step {a : List Int} (ha : SgD a) (vars : Int) (hv : vars ≤ 1000) (deep : Int) {j : Int} (hj : j ≤ 1000000) {c : TCur} (hc : Cu code j c) (N : Nat) (hN : 1 ≤ N) (K : Int) (hK : j + 6 ≤ K)
    (hL : 1 < deep → ∀ (n v : Int) (c4 : TCur), 0 ≤ v → v ≤ 3 → Cu code (j + 6) c4 → Okk (fun y => ∃ (c5 : TCur) (t : List Int), y = .inl (c5, t, ()) ∧ 0 < t.length ∧ t.length ≤ N ∧ Cu code K c5) (l_spec_l1Cur_term_2042 M c4 deep vars (a, ()) [n] v)) :
    Okk (fun r => r.1.1.length ≤ N ∧ 0 < r.1.1.length ∧ Cu code K r.2.1) (c_spec_l1Cur_term M c (a, ()) deep vars) := by
  refine Okk.lift ?_ (e_spec_l1Cur_term c (a, ()) deep vars)
  simp only [q_spec_l1Cur_term, cur_eta]
  have hal := ha.1
  refine Okk.ite (fun _ => .pure ⟨hN, by simp, hc.mono (by omega)⟩) fun h0 => ?_
  have hpos : 0 < a.length := by simp at h0; exact List.length_pos_iff.2 h0
  have A : ∀ (x : Int) (c3 : TCur), 0 ≤ x → (x < (a.length : Int) ∨ x = 0) → Cu code (j + 4) c3 → Okk (fun y => ∃ (c4 : TCur) (n : Int), y = .inl (c4, deep, vars, (a, ()), n, ()) ∧ 0 ≤ n ∧ n < a.length ∧ Cu code (j + 6) c4) ((((idx a x).bind fun x5 => (if (decide (x5 > (0 : Int))) = true then (if (decide (deep ≤ (1 : Int))) = true then ((c_spec_l1Cur_pick M c3 (List.length a : Int)).bind fun r6 => (if (2 : Int) = 0 then none else (some (.inl ((r6.2.1.1, r6.2.1.2.1, r6.2.1.2.2.1, ()), deep, vars, (a, ()), (IntKind.i64.wrap (Int.tdiv r6.1.1 (2 : Int))), ()))))) else (some (.inl (c3, deep, vars, (a, ()), x, ())))) else (some (.inl (c3, deep, vars, (a, ()), x, ()))))) : Option ((((List Int) × Int × Int × Unit) × Int × Int × ((List Int) × Unit) × Int × Unit) ⊕ ((List Int) × Unit) × (((List Int) × Int × Int × Unit) × Unit)))) := by
    intro x c3 hx0 hx1 hc3
    refine Okk.bind (Okk.idx hx0 (by omega)) fun y hy => ?_
    refine Okk.ite (fun _ => Okk.ite (fun _ => ?_) fun _ => .pure ⟨c3, x, rfl, hx0, by omega, hc3.mono (by omega)⟩) fun _ => .pure ⟨c3, x, rfl, hx0, by omega, hc3.mono (by omega)⟩
    refine Okk.bind (d_pick hb hc3 _ (by omega) (by omega)) ?_
    rintro ⟨⟨z, ⟨⟩⟩, ⟨c4, ⟨⟩⟩⟩ ⟨h1, h2, h3⟩
    simp only at h1 h2 h3
    have h5 := Int.tdiv_nonneg h1 (show (0 : Int) ≤ 2 by omega)
    have h6 : Int.tdiv z 2 ≤ z := by rw [Int.tdiv_eq_ediv_of_nonneg h1]; omega
    refine Okk.iteF (by omega) (.pure ⟨c4, _, rfl, ?_, ?_, h3.mono (by omega)⟩)
    · simp only; rw [w64 (by omega) (by omega)]; exact h5
    · simp only; rw [w64 (by omega) (by omega)]; omega
  have B : ∀ (n : Int) (c4 : TCur), 0 ≤ n → n < (a.length : Int) → Cu code (j + 6) c4 → Okk (fun r : ((List Int) × Unit) × (TCur × Unit) => r.1.1.length ≤ N ∧ 0 < r.1.1.length ∧ Cu code K r.2.1) ((idx a n).bind fun x7 => (if (decide (x7 > (0 : Int))) = true then (if (decide (deep ≤ (1 : Int))) = true then (some ((([(0 : Int)] : List Int), ()), (c4, ()))) else ((idx a n).bind fun x8 => ((l_spec_l1Cur_term_2042 M c4 deep vars (a, ()) ([n] : List Int) x8).bind (Sum.elim (fun y9 => (some ((y9.2.1, ()), ((y9.1.1, y9.1.2.1, y9.1.2.2.1, ()), ())))) (fun r10 => (some r10)))))) else ((idx a n).bind fun x11 => ((l_spec_l1Cur_term_2042 M c4 deep vars (a, ()) ([n] : List Int) x11).bind (Sum.elim (fun y12 => (some ((y12.2.1, ()), ((y12.1.1, y12.1.2.1, y12.1.2.2.1, ()), ())))) (fun r13 => (some r13))))))) := by
    intro n c4 hn0 hn1 hc4
    obtain ⟨v, hv1, hv2⟩ := Okk.idx (l := a) hn0 hn1
    rw [hv1]
    simp only [Option.bind_some]
    have := ha.2 v hv2
    refine Okk.ite (fun hv3 => ?_) fun hv3 => ?_
    · refine Okk.ite (fun _ => .pure ⟨hN, by simp, hc4.mono (by omega)⟩) fun hd => ?_
      refine Okk.bind (hL (by simp at hd; omega) n v c4 (by omega) (by omega) hc4) ?_
      rintro _ ⟨c5, t, rfl, t1, t2, t3⟩
      exact .pure ⟨t2, t1, t3⟩
    · obtain rfl : v = 0 := by simp at hv3; omega
      have hl : l_spec_l1Cur_term_2042 M c4 deep vars (a, ()) [n] 0 = some (.inl (c4, [n], ())) := by
        apply el_spec_l1Cur_term_2042
        simp [ql_spec_l1Cur_term_2042, cur_eta]
      rw [hl]
      exact .pure ⟨hN, by simp, hc4.mono (by omega)⟩
  refine Okk.ite (fun _ => ?_) fun _ => ?_
  · refine Okk.bind (d_one hb hc 3 (by omega) (by omega)) ?_
    rintro ⟨⟨x, ⟨⟩⟩, ⟨c2, ⟨⟩⟩⟩ h2
    refine Okk.ite (fun _ => ?_) fun _ => ?_
    · refine Okk.bind (d_pick hb h2 vars (by omega) (by omega)) ?_
      rintro ⟨⟨y, ⟨⟩⟩, ⟨c3, ⟨⟩⟩⟩ ⟨_, _, h3⟩
      exact .pure ⟨hN, by simp, h3.mono (by omega)⟩
    · refine Okk.bind (d_pick hb h2 _ (by omega) (by omega)) ?_
      rintro ⟨⟨y, ⟨⟩⟩, ⟨c3, ⟨⟩⟩⟩ ⟨g1, g2, h3⟩
      refine Okk.bind (A y c3 g1 g2 (h3.mono (by omega))) ?_
      rintro _ ⟨c4, n, rfl, k1, k2, k3⟩
      exact B n c4 k1 k2 k3
  · refine Okk.bind (d_pick hb hc _ (by omega) (by omega)) ?_
    rintro ⟨⟨y, ⟨⟩⟩, ⟨c3, ⟨⟩⟩⟩ ⟨g1, g2, h3⟩
    refine Okk.bind (A y c3 g1 g2 (h3.mono (by omega))) ?_
    rintro _ ⟨c4, n, rfl, k1, k2, k3⟩
    exact B n c4 k1 k2 k3

/-- How many numbers a term of some levels takes at most, and how many draws. -/
def dl : Nat → Nat
  | 0 => 1
  | d + 1 => 1 + 3 * dl d
def dk : Nat → Int
  | 0 => 6
  | d + 1 => 6 + 3 * dk d
omit hb in
theorem dl_pos (d : Nat) : 1 ≤ dl d := by cases d <;> simp [dl]
omit hb in
theorem dk_pos (d : Nat) : 6 ≤ dk d := by
  induction d with
  | zero => simp [dk]
  | succ d ih => simp [dk]; omega
theorem d_term {a : List Int} (ha : SgD a) (vars : Int) (hv : vars ≤ 1000) : ∀ (d : Nat) (deep : Int) (j : Int) (c : TCur), deep ≤ (d : Int) + 1 → d ≤ 5 → j + dk d ≤ 200000 → Cu code j c → Okk (fun r => r.1.1.length ≤ dl d ∧ 0 < r.1.1.length ∧ Cu code (j + dk d) r.2.1) (c_spec_l1Cur_term M c (a, ()) deep vars) := by
  intro d
  induction d with
  | zero =>
    intro deep j c hd _ hj hc
    simp only [dk] at hj
    exact d_term_step hb ha vars hv deep (by omega) hc 1 (by omega) (j + 6) (by omega) (fun h => by omega)
  | succ d ih =>
    intro deep j c hd hd5 hj hc
    have hdl : dl d ≤ 1000 := by
      have : d ≤ 4 := by omega
      rcases d with _ | _ | _ | _ | _ | d <;> first | (simp [dl]; done) | omega
    have hdk : dk d ≤ 10000 := by
      rcases d with _ | _ | _ | _ | _ | d <;> first | (simp [dk]; done) | omega
    have hp := dk_pos d
    simp only [dk] at hj
    have loop : 1 < deep → ∀ (k : Nat) (out : List Int) (j' : Int) (c4 : TCur), k ≤ 3 → 0 < out.length → out.length + k * dl d ≤ 10000 → j' + k * dk d ≤ j + 6 + 3 * dk d → Cu code j' c4 → Okk (fun y => ∃ (c5 : TCur) (t : List Int), y = .inl (c5, t, ()) ∧ 0 < t.length ∧ t.length ≤ out.length + k * dl d ∧ Cu code (j' + k * dk d) c5) (l_spec_l1Cur_term_2042 M c4 deep vars (a, ()) out (k : Int)) := by
      intro hdeep k
      induction k with
      | zero =>
        intro out j' c4 _ h0 _ _ hc4
        refine Okk.lift ?_ (el_spec_l1Cur_term_2042 _ _ _ _ _ _)
        simp only [ql_spec_l1Cur_term_2042, cur_eta]
        refine Okk.iteF (by simp) (.pure ⟨c4, out, rfl, h0, by omega, hc4.mono (by simp)⟩)
      | succ k ihk =>
        intro out j' c4 hk h0 ho hj2 hc4
        have e1 : ((k + 1 : Nat) : Int) * dk d = k * dk d + dk d := by rw [Int.natCast_add, Int.add_mul]; simp
        have e2 : (k + 1) * dl d = k * dl d + dl d := by rw [Nat.add_mul]; simp
        have e3 : 0 ≤ (k : Int) * dk d := Int.mul_nonneg (by omega) (by omega)
        rw [e1] at hj2
        rw [e2] at ho
        refine Okk.lift ?_ (el_spec_l1Cur_term_2042 _ _ _ _ _ _)
        simp only [ql_spec_l1Cur_term_2042, cur_eta]
        refine Okk.iteT (by simp <;> omega) ?_
        rw [dec64 (x := deep) (by omega) (by omega), dec64 (x := ((k + 1 : Nat) : Int)) (by omega) (by omega), show ((k + 1 : Nat) : Int) - 1 = (k : Int) by omega]
        refine Okk.bind (ih (deep - 1) j' c4 (by omega) (by omega) (by omega) hc4) ?_
        rintro ⟨⟨t, ⟨⟩⟩, ⟨c5, ⟨⟩⟩⟩ ⟨g1, g2, g3⟩
        simp only at g1 g2 g3
        refine Okk.iteT (by simp only; omega) ?_
        refine Okk.mono (ihk (out ++ t) (j' + dk d) c5 (by omega) (by simp; omega) (by rw [List.length_append]; omega) (by omega) g3) ?_
        rintro _ ⟨c6, t', rfl, h1, h2, h3⟩
        refine ⟨c6, t', rfl, h1, ?_, h3.mono (by rw [e1]; omega)⟩
        rw [List.length_append] at h2
        rw [e2]; omega
    refine d_term_step hb ha vars hv deep (by omega) hc (dl (d + 1)) (dl_pos _) (j + dk (d + 1)) (by simp only [dk]; omega) ?_
    intro hdeep n v c4 hv0 hv3 hc4
    obtain ⟨k, rfl⟩ : ∃ m : Nat, v = (m : Int) := ⟨v.toNat, by omega⟩
    have e4 : (k : Int) * dk d ≤ 3 * dk d := Int.mul_le_mul_of_nonneg_right (by omega) (by omega)
    have e5 : k * dl d ≤ 3 * dl d := Nat.mul_le_mul_right _ (by omega)
    refine Okk.mono (loop hdeep k [n] (j + 6) c4 (by omega) (by simp) (by simp only [List.length_cons, List.length_nil]; omega) (by omega) hc4) ?_
    rintro _ ⟨c6, t', rfl, h1, h2, h3⟩
    refine ⟨c6, t', rfl, h1, ?_, h3.mono (by simp only [dk]; omega)⟩
    simp only [List.length_cons, List.length_nil] at h2
    simp only [dl]; omega

end
end Go.Proofs.YtkdceefdipljaaaTt.Ev

/- Plain laws: the texts of terms and of clauses: both programs write the same. No condition but sizes. -/
namespace Go.Proofs.YtkdceefdipljaaaTt.Ev
open Go
set_option autoImplicit false
set_option linter.unusedVariables false
set_option linter.unusedSimpArgs false

/-- The text of a term: the same bytes from both programs, wherever it stands. -/
def TX (a u b : List Int) : Prop := b.length + 1 ≤ 4 * u.length ∧
  (∀ (T x out : List Int) (i : Nat), T.length ≤ 1000 → T.drop i = u ++ x → out.length + 4 * u.length ≤ 1000000 → c_impl_Sign_text M (a, ()) out T i = some ((out ++ b, ((i + u.length : Nat) : Int), ()), ())) ∧
  (∀ (T x : List Int) (i : Nat), T.length ≤ 1000 → T.drop i = u ++ x → c_spec_l1TermText M (a, ()) T i = some ((bytesStr b, ()), ()))

open Classical in
noncomputable def tb (a u : List Int) : List Int := if h : ∃ b, TX a u b then h.choose else []
theorem tb_ok {a u : List Int} (h : ∃ b, TX a u b) : TX a u (tb a u) := by
  unfold tb; rw [dif_pos h]; exact h.choose_spec

/-- The operands' texts, each behind its sign. -/
noncomputable def gl (a : List Int) : Bool → List (List Int) → List Int
  | _, [] => []
  | f, u :: us => (if f then 40 else 44) :: (tb a u ++ gl a false us)
theorem gl_len {a : List Int} : ∀ (us : List (List Int)) (f : Bool), (∀ u ∈ us, TX a u (tb a u)) → (gl a f us).length ≤ 4 * us.flatten.length
  | [], _, _ => by simp [gl]
  | u :: us, f, h => by
    have h1 := (h u (by simp)).1
    have h2 := gl_len us false (fun v hv => h v (by simp [hv]))
    simp only [gl, List.length_cons, List.length_append, List.flatten_cons]
    omega
theorem p_text_loop {a : List Int} (T : List Int) (hT : T.length ≤ 1000) (n : Int) (cnt : Nat) (hc : cnt ≤ 3) : ∀ (us : List (List Int)) (i p : Nat) (x out : List Int), (∀ u ∈ us, TX a u (tb a u)) → i + us.length = cnt → T.drop p = us.flatten ++ x → out.length + 4 * us.flatten.length ≤ 999999 →
    l_impl_Sign_text_506 M out T (a, ()) n p cnt i = some (.inl (out ++ gl a (i == 0) us, (a, ()), n, ((p + us.flatten.length : Nat) : Int), ())) := by
  intro us
  induction us with
  | nil =>
    intro i p x out _ hi _ _
    apply el_impl_Sign_text_506
    simp at hi
    subst hi
    simp [ql_impl_Sign_text_506, gl]
  | cons u us ih =>
    intro i p x out hu hi hd ho
    simp only [List.length_cons] at hi
    simp only [List.flatten_cons, List.append_assoc, List.length_append] at hd ho ⊢
    have h1 := hu u (by simp)
    have h2 := h1.1
    apply el_impl_Sign_text_506
    simp only [ql_impl_Sign_text_506]
    rw [if_pos (by simp [-List.length_flatten]; omega)]
    have step : ∀ sg : Int, ((c_impl_Sign_text M (a, ()) (out ++ [sg]) T (p : Int)).bind fun r2 => l_impl_Sign_text_506 M r2.1.1 T (a, ()) n r2.1.2.1 cnt (IntKind.i64.wrap ((i : Int) + 1))) = some (.inl (out ++ [sg] ++ tb a u ++ gl a false us, (a, ()), n, ((p + u.length + us.flatten.length : Nat) : Int), ())) := by
      intro sg
      rw [h1.2.1 T (us.flatten ++ x) (out ++ [sg]) p hT hd (by simp [-List.length_flatten]; omega), inc_nat (by omega)]
      simp only [Option.bind_some]
      rw [ih (i + 1) (p + u.length) x (out ++ [sg] ++ tb a u) (fun v hv => hu v (by simp [hv])) (by omega) (drop_split hd) (by simp [-List.length_flatten]; omega)]
      simp
    by_cases h0 : i = 0
    · subst h0
      rw [if_pos (by simp)]
      simp only [Option.bind_some, Sum.elim_inl]
      rw [if_pos (by simp [-List.length_flatten]; omega), step]
      simp [gl, Nat.add_assoc]
    · rw [if_neg (by simpa using h0)]
      simp only [Option.bind_some, Sum.elim_inl]
      rw [if_pos (by simp [-List.length_flatten]; omega), step]
      simp [gl, h0, Nat.add_assoc]

theorem p_l1TermText_loop {a : List Int} (T : List Int) (hT : T.length ≤ 1000) (at0 : Int) (P : List Int) (hP : P.length ≤ 3) : ∀ (us : List (List Int)) (i p : Nat) (x : List Int) (out : List UInt8), (∀ u ∈ us, TX a u (tb a u)) → i + us.length = P.length → P.drop i = posOf p us → T.drop p = us.flatten ++ x → out.length + 4 * us.flatten.length ≤ 999999 →
    l_spec_l1TermText_122 M T at0 (a, ()) out P P.length i = some (.inl (T, at0, (a, ()), out ++ bytesStr (gl a (i == 0) us), ())) := by
  intro us
  induction us with
  | nil =>
    intro i p x out _ hi _ _ _
    apply el_spec_l1TermText_122
    simp at hi
    subst hi
    simp [ql_spec_l1TermText_122, gl, bytesStr]
  | cons u us ih =>
    intro i p x out hu hi hd hd2 ho
    simp only [List.length_cons] at hi
    simp only [List.flatten_cons, List.append_assoc, List.length_append] at hd2 ho
    have h1 := hu u (by simp)
    have h2 := h1.1
    apply el_spec_l1TermText_122
    have hi' : i < P.length := by omega
    have hdc := List.drop_eq_getElem_cons hi'
    rw [hd, posOf] at hdc
    obtain ⟨hp, hdc⟩ := List.cons.inj hdc
    simp only [ql_spec_l1TermText_122]
    rw [if_pos (by simpa using hi'), if_pos (by omega), Int.toNat_natCast, List.getElem?_eq_getElem hi', ← hp]
    simp only [Option.bind_some]
    have step : ∀ sg : UInt8, ((c_spec_l1TermText M (a, ()) T (p : Int)).bind fun r3 => if (out ++ [sg]).length + List.length r3.1.1 ≤ 4611686018427387904 then l_spec_l1TermText_122 M T at0 (a, ()) ((out ++ [sg]) ++ r3.1.1) P P.length (IntKind.i64.wrap ((i : Int) + 1)) else none) = some (.inl (T, at0, (a, ()), out ++ [sg] ++ bytesStr (tb a u) ++ bytesStr (gl a false us), ())) := by
      intro sg
      rw [h1.2.2 T (us.flatten ++ x) p hT hd2, inc_nat (by omega)]
      simp only [Option.bind_some]
      rw [if_pos (by simp [bytesStr_len, -List.length_flatten]; omega), ih (i + 1) (p + u.length) x _ (fun v hv => hu v (by simp [hv])) (by omega) hdc.symm (drop_split hd2) (by simp [bytesStr_len, -List.length_flatten]; omega)]
      simp
    by_cases h0 : i = 0
    · subst h0
      rw [if_pos (by simp), if_pos (by simp [-List.length_flatten]; omega)]
      simp only [Option.bind_some, Sum.elim_inl]
      rw [step]
      simp [gl, bytesStr]
    · rw [if_neg (by simpa using h0), if_pos (by simp [-List.length_flatten]; omega)]
      simp only [Option.bind_some, Sum.elim_inl]
      rw [step]
      simp [gl, h0, bytesStr]

theorem TX_var {a : List Int} (hs : a.length ≤ 10) {n : Int} (hb : ¬ badN a n) (h0 : n < 0) : TX a [n] [64 - n] := by
  have hb' := hb
  unfold badN at hb'
  have e1 : IntKind.i64.wrap (-1 - n) = -1 - n := w64 (by omega) (by omega)
  refine ⟨by simp, ?_, ?_⟩
  · intro T x out i hT hd ho
    have hi : i < T.length := by have := drop_len hd; simp at this; omega
    have hx : T[i] = n := by
      have := List.drop_eq_getElem_cons hi
      rw [hd] at this
      exact (List.cons.inj this).1.symm
    apply e_impl_Sign_text
    simp only [q_impl_Sign_text]
    rw [idx_lt hi, hx]
    simp only [Option.bind_some]
    simp only [List.length_cons, List.length_nil] at ho
    rw [if_pos (by simpa using h0), if_pos (by simp [-List.length_flatten]; omega), e1, w8 (x := -1 - n) (by omega) (by omega), w8 (by omega) (by omega), inc_nat (by omega), show (65 : Int) + (-1 - n) = 64 - n by omega]
    rfl
  · intro T x i hT hd
    have hi : i < T.length := by have := drop_len hd; simp at this; omega
    have hx : T[i] = n := by
      have := List.drop_eq_getElem_cons hi
      rw [hd] at this
      exact (List.cons.inj this).1.symm
    apply e_spec_l1TermText
    simp only [q_spec_l1TermText]
    rw [idx_lt hi, hx]
    simp only [Option.bind_some]
    rw [if_pos (by simpa using h0), e1, w64 (by omega) (by omega), w8 (by omega) (by omega), show (65 : Int) + (-1 - n) = 64 - n by omega]
theorem TX_app {a : List Int} (hg : gS a = true) {n : Int} {us : List (List Int)} (hb : ¬ badN a n) (h0 : ¬ n < 0) (hl : (us.length : Int) = ar a n) (hk : ∀ v ∈ us, Tm a v) (kid : ∀ v ∈ us, TX a v (tb a v)) (hu : us.flatten.length ≤ 999) :
    TX a (n :: us.flatten) ((97 + n) :: (gl a true us ++ (if 0 < ar a n then [41] else []))) := by
  have hn := ar_ge hg n
  have hs : a.length ≤ 10 := by simp only [gS, Bool.and_eq_true, decide_eq_true_eq] at hg; exact hg.2.1
  have hb' := hb
  unfold badN at hb'
  have hgl := gl_len us true kid
  refine ⟨by simp [-List.length_flatten]; split <;> simp [-List.length_flatten] <;> omega, ?_, ?_⟩
  · intro T x out i hT hd ho
    have hi : i < T.length := by have := drop_len hd; simp at this; omega
    have hdc := List.drop_eq_getElem_cons hi
    rw [hd] at hdc
    obtain ⟨hx, hdc⟩ := List.cons.inj hdc
    apply e_impl_Sign_text
    simp only [q_impl_Sign_text]
    rw [idx_lt hi, ← hx]
    simp only [Option.bind_some]
    simp only [List.length_cons] at ho
    rw [if_neg (by simpa using h0), if_pos (by simp [-List.length_flatten]; omega), w8 (x := n) (by omega) (by omega), w8 (by omega) (by omega), inc_nat (by omega), p_args (a, ()) n hb]
    simp only [Option.bind_some]
    rw [← hl]
    have := p_text_loop (a := a) T hT n us.length (by omega) us 0 (i + 1) x (out ++ [97 + n]) kid (by omega) hdc.symm (by simp [-List.length_flatten]; omega)
    rw [show ((0 : Nat) : Int) = 0 from rfl] at this
    rw [this]
    simp only [Option.bind_some, Sum.elim_inl]
    rw [p_args (a, ()) n hb]
    simp only [Option.bind_some]
    rw [hl]
    by_cases h4 : 0 < ar a n
    · rw [if_pos (by simpa using h4), if_pos (by simp [-List.length_flatten]; omega), if_pos h4]
      simp [-List.length_flatten]; omega
    · rw [if_neg (by simpa using h4), if_neg h4]
      simp [-List.length_flatten]; omega
  · intro T x i hT hd
    have hi : i < T.length := by have := drop_len hd; simp at this; omega
    have hdc := List.drop_eq_getElem_cons hi
    rw [hd] at hdc
    obtain ⟨hx, hdc⟩ := List.cons.inj hdc
    apply e_spec_l1TermText
    simp only [q_spec_l1TermText]
    rw [idx_lt hi, ← hx]
    simp only [Option.bind_some]
    have hA : c_spec_l1Args M (a, ()) T (i : Int) = some ((posOf (i + 1) us, ()), ()) := by
      apply e_spec_l1Args
      simp only [q_spec_l1Args]
      rw [idx_lt hi, ← hx]
      simp only [Option.bind_some]
      rw [if_neg (by simpa using h0), idx_ar hb h0, inc_nat (by omega)]
      simp only [Option.bind_some]
      have := p_l1Args_loop hg T hT us (i + 1) x [] hk (by omega) hdc.symm (by simp [-List.length_flatten]; omega)
      rw [hl] at this
      rw [this]
      simp
    rw [if_neg (by simpa using h0), hA, w64 (by omega) (by omega), w8 (by omega) (by omega)]
    simp only [Option.bind_some]
    have := p_l1TermText_loop (a := a) T hT i (posOf (i + 1) us) (by rw [posOf_len]; omega) us 0 (i + 1) x (bytesStr [97 + n]) kid (by rw [posOf_len]; omega) rfl hdc.symm (by simp [bytesStr, -List.length_flatten]; omega)
    rw [show ((0 : Nat) : Int) = 0 from rfl] at this
    rw [this]
    simp only [Option.bind_some, Sum.elim_inl]
    rw [idx_lt hi, ← hx]
    simp only [Option.bind_some]
    rw [idx_ar hb h0]
    simp only [Option.bind_some]
    by_cases h4 : 0 < ar a n
    · rw [if_pos (by simpa using h4), if_pos (by simp [bytesStr_len, -List.length_flatten]; omega), if_pos h4]
      simp [bytesStr]
    · rw [if_neg (by simpa using h4), if_neg h4]
      simp [bytesStr]

theorem TX_all {a : List Int} (hg : gS a = true) : ∀ (N : Nat) (u : List Int), u.length ≤ N → N ≤ 1000 → Tm a u → ∃ b, TX a u b := by
  intro N
  induction N with
  | zero => intro u hu _ h; have := h.pos; omega
  | succ N ih =>
    intro u hu hN h
    obtain ⟨n, us, rfl, hb, hl, hk⟩ := h.parts hg
    have hs : a.length ≤ 10 := by simp only [gS, Bool.and_eq_true, decide_eq_true_eq] at hg; exact hg.2.1
    simp only [List.length_cons] at hu
    have kid : ∀ v ∈ us, TX a v (tb a v) := fun v hv => tb_ok (ih v (by
      have : v.length ≤ us.flatten.length := (List.sublist_flatten_of_mem hv).length_le
      omega) (by omega) (hk v hv))
    by_cases h0 : n < 0
    · have h3 : ar a n = 0 := by simp [ar, h0]
      obtain rfl : us = [] := List.eq_nil_of_length_eq_zero (by omega)
      exact ⟨_, TX_var hs hb h0⟩
    · exact ⟨_, TX_app hg hb h0 hl hk kid (by omega)⟩
theorem TX_uniq {a u b c : List Int} (hu : u.length ≤ 1000) (h : TX a u b) (k : TX a u c) : b = c := by
  have h1 := h.2.1 u [] [] 0 hu (by simp) (by simp; omega)
  have h2 := k.2.1 u [] [] 0 hu (by simp) (by simp; omega)
  rw [h1] at h2
  simpa using h2
theorem tb_eq {a u b : List Int} (hu : u.length ≤ 1000) (h : TX a u b) : tb a u = b := TX_uniq hu (tb_ok ⟨b, h⟩) h

/-- The text of a term. -/
noncomputable def tx (a u : List Int) : List UInt8 := bytesStr (tb a u)
theorem isT_TX {a u : List Int} (hg : gS a = true) (h : isT a u = true) : TX a u (tb a u) := by
  simp only [isT, Bool.and_eq_true, decide_eq_true_eq] at h
  exact tb_ok (TX_all hg 40 u h.1 (by omega) h.2)
theorem tx_len {a u : List Int} (hg : gS a = true) (h : isT a u = true) : (tx a u).length ≤ 160 := by
  have := (isT_TX hg h).1
  simp only [isT, Bool.and_eq_true, decide_eq_true_eq] at h
  rw [tx, bytesStr_len]
  omega
theorem p_l1TermText (s : TSign) (hg : gS s.1 = true) (u : List Int) (h : isT s.1 u = true) : c_spec_l1TermText M s u 0 = some ((tx s.1 u, ()), ()) := by
  have hu := h
  simp only [isT, Bool.and_eq_true, decide_eq_true_eq] at hu
  exact (isT_TX hg h).2.2 u [] 0 (by omega) (by simp)
theorem p_termText (s : TSign) (hg : gS s.1 = true) (u : List Int) (h : isT s.1 u = true) : c_impl_Sign_termText M s u = some ((tx s.1 u, ()), ()) := by
  have hu := h
  simp only [isT, Bool.and_eq_true, decide_eq_true_eq] at hu
  apply e_impl_Sign_termText
  have := (isT_TX hg h).2.1 u [] [] 0 (by omega) (by simp) (by simp [-List.length_flatten]; omega)
  rw [show ((0 : Nat) : Int) = 0 from rfl, sign_eta] at this
  simp only [q_impl_Sign_termText, sign_eta, this, Option.bind_some, List.nil_append]
  rfl

end Go.Proofs.YtkdceefdipljaaaTt.Ev

/- Plain laws: reading a term: both programs read the same, and fail at the same place. No condition but sizes. -/
namespace Go.Proofs.YtkdceefdipljaaaTt.Ev
open Go
set_option autoImplicit false
set_option linter.unusedVariables false
set_option linter.unusedSimpArgs false

/-- What a reader gives: the place of a fault, or what was read and how far. -/
inductive Rd (α : Type) where
  | bad (c : Nat)
  | ok (x : α) (c : Nat)

/-- Operands, each behind its sign. -/
def rdK (T : List UInt8 → Rd (List Int)) : Nat → Nat → List UInt8 → Rd (List Int)
  | _, 0, _ => .ok [] 0
  | _, _ + 1, [] => .bad 0
  | sg, m + 1, b :: r => if b.toNat = sg then
      match T r with
      | .bad c => .bad (1 + c)
      | .ok t c => match rdK T 44 m (r.drop c) with
        | .bad c' => .bad (1 + c + c')
        | .ok t' c' => .ok (t ++ t') (1 + c + c')
    else .bad 0
/-- A term. -/
def rdT (a : List Int) : Nat → List UInt8 → Rd (List Int)
  | 0, _ => .bad 0
  | _ + 1, [] => .bad 0
  | f + 1, b :: r =>
    if 65 ≤ b.toNat ∧ b.toNat ≤ 76 then .ok [-1 - ((b.toNat : Int) - 65)] 1
    else if 97 ≤ b.toNat ∧ b.toNat < 97 + a.length then
      match rdK (rdT a f) 40 (ar a ((b.toNat : Int) - 97)).toNat r with
      | .bad c => .bad (1 + c)
      | .ok t c => if ar a ((b.toNat : Int) - 97) ≤ 0 then .ok (((b.toNat : Int) - 97) :: t) (1 + c) else
        match r.drop c with
        | [] => .bad (1 + c)
        | b' :: _ => if b'.toNat = 41 then .ok (((b.toNat : Int) - 97) :: t) (1 + c + 1) else .bad (1 + c)
    else .bad 0

def Rd.within {α : Type} (n : Nat) : Rd α → Prop
  | .bad c => c ≤ n
  | .ok _ c => c ≤ n
theorem rdK_le {T : List UInt8 → Rd (List Int)} (hT : ∀ r, (T r).within r.length ∧ ∀ t c, T r = .ok t c → t.length ≤ c) : ∀ (m sg : Nat) (r : List UInt8), (rdK T sg m r).within r.length ∧ ∀ t c, rdK T sg m r = .ok t c → t.length ≤ c
  | 0, _, _ => ⟨Nat.zero_le _, fun t c h => by simp only [rdK, Rd.ok.injEq] at h; rw [← h.1]; simp⟩
  | m + 1, sg, [] => ⟨Nat.zero_le _, fun t c h => by simp [rdK] at h⟩
  | m + 1, sg, b :: r => by
    simp only [rdK]
    have h1 := hT r
    by_cases hb : b.toNat = sg
    · rw [if_pos hb]
      cases hr : T r with
      | bad c =>
        rw [hr] at h1
        have := h1.1
        simp only [Rd.within] at this
        exact ⟨by simp only [Rd.within, List.length_cons]; omega, fun t c h => by simp at h⟩
      | ok t c =>
        rw [hr] at h1
        have g1 := h1.1
        have g2 := h1.2 t c rfl
        have h2 := rdK_le hT m 44 (r.drop c)
        simp only [Rd.within] at g1
        simp only
        cases hk : rdK T 44 m (r.drop c) with
        | bad c' =>
          rw [hk] at h2
          have := h2.1
          simp only [Rd.within, List.length_drop] at this
          exact ⟨by simp only [Rd.within, List.length_cons]; omega, fun t c h => by simp at h⟩
        | ok t' c' =>
          rw [hk] at h2
          have k1 := h2.1
          have k2 := h2.2 t' c' rfl
          simp only [Rd.within, List.length_drop] at k1
          exact ⟨by simp only [Rd.within, List.length_cons]; omega, fun t c h => by simp only [Rd.ok.injEq] at h; rw [← h.1, ← h.2]; simp; omega⟩
    · rw [if_neg hb]
      exact ⟨Nat.zero_le _, fun t c h => by simp at h⟩
theorem rdT_le {a : List Int} : ∀ (f : Nat) (r : List UInt8), (rdT a f r).within r.length ∧ ∀ t c, rdT a f r = .ok t c → t.length ≤ c
  | 0, _ => ⟨Nat.zero_le _, fun t c h => by simp [rdT] at h⟩
  | f + 1, [] => ⟨Nat.zero_le _, fun t c h => by simp [rdT] at h⟩
  | f + 1, b :: r => by
    simp only [rdT]
    have hk := rdK_le (rdT_le (a := a) f) (ar a ((b.toNat : Int) - 97)).toNat 40 r
    split
    · exact ⟨by simp [Rd.within], fun t c h => by simp only [Rd.ok.injEq] at h; rw [← h.1, ← h.2]; simp⟩
    · split
      · split
        · rename_i c hc
          rw [hc] at hk
          have := hk.1
          simp only [Rd.within] at this
          exact ⟨by simp only [Rd.within, List.length_cons]; omega, fun t c h => by simp at h⟩
        · rename_i t c hc
          rw [hc] at hk
          have g1 := hk.1
          have g2 := hk.2 t c rfl
          simp only [Rd.within] at g1
          split
          · exact ⟨by simp only [Rd.within, List.length_cons]; omega, fun t c h => by simp only [Rd.ok.injEq] at h; rw [← h.1, ← h.2]; simp; omega⟩
          · split
            · exact ⟨by simp only [Rd.within, List.length_cons]; omega, fun t c h => by simp at h⟩
            · rename_i b' r' hd
              have hl := congrArg List.length hd
              simp only [List.length_drop, List.length_cons] at hl
              split
              · exact ⟨by simp only [Rd.within, List.length_cons]; omega, fun t c h => by simp only [Rd.ok.injEq] at h; rw [← h.1, ← h.2]; simp; omega⟩
              · exact ⟨by simp only [Rd.within, List.length_cons]; omega, fun t c h => by simp at h⟩
      · exact ⟨Nat.zero_le _, fun t c h => by simp at h⟩

theorem byte_ge {b : UInt8} : IntKind.i64.wrap ((b.toNat : Nat) : Int) = (b.toNat : Int) := by
  have := b.toNat_lt
  exact w64 (by omega) (by omega)

/-! ### The reference's reader -/
def spT (at0 : Nat) : Rd (List Int) → (List Int × Int × Bool × Unit) × Unit
  | .bad c => (([], ((at0 + c : Nat) : Int), false, ()), ())
  | .ok t c => ((t, ((at0 + c : Nat) : Int), true, ()), ())

theorem p_spT_loop {a : List Int} (hg : gS a = true) (X : List UInt8) (hX : X.length ≤ 1000) (f : Nat) (ih : ∀ at0 : Nat, at0 ≤ X.length → X.length - at0 < f → c_spec_l1ReadTerm M (a, ()) X at0 = some (spT at0 (rdT a f (X.drop at0))))
    (b : Nat) (hb : 97 ≤ b ∧ b < 97 + a.length) : ∀ (m i at0 : Nat) (out : List Int), ((i + m : Nat) : Int) = ar a ((b : Int) - 97) → at0 ≤ X.length → X.length - at0 ≤ f → out.length ≤ at0 →
      l_spec_l1ReadTerm_2042 M X at0 (a, ()) b out i = some (match rdK (rdT a f) (if i = 0 then 40 else 44) m (X.drop at0) with
        | .bad c => .inr (([], ((at0 + c : Nat) : Int), false, ()), ())
        | .ok t c => .inl (X, ((at0 + c : Nat) : Int), (a, ()), (b : Int), out ++ t, ())) := by
  have hsl : a.length ≤ 10 := by simp only [gS, Bool.and_eq_true, decide_eq_true_eq] at hg; exact hg.2.1
  have hbn : ¬ badN a ((b : Int) - 97) := by unfold badN; omega
  have hidx : idx a (IntKind.i64.wrap ((b : Int) - 97)) = some (ar a ((b : Int) - 97)) := by rw [w64 (by omega) (by omega)]; exact idx_ar hbn (by omega)
  have har := ar_ge hg ((b : Int) - 97)
  intro m
  induction m with
  | zero =>
    intro i at0 out hi ha hf ho
    apply el_spec_l1ReadTerm_2042
    simp only [ql_spec_l1ReadTerm_2042, hidx, Option.bind_some]
    rw [if_neg (by simp; omega)]
    simp [rdK]
  | succ m ihm =>
    intro i at0 out hi ha hf ho
    apply el_spec_l1ReadTerm_2042
    simp only [ql_spec_l1ReadTerm_2042, hidx, Option.bind_some]
    rw [if_pos (by simp; omega)]
    have key : ∀ sg : Int, sg = ((if i = 0 then 40 else 44 : Nat) : Int) → (if ((at0 : Int) == (List.length X : Int)) = true then (some (.inr (([], (at0 : Int), false, ()), ()))) else ((idx X at0).bind fun b3 => (if (((UInt8.toNat b3 : Nat) : Int) != sg) = true then (some (.inr (([], (at0 : Int), false, ()), ()))) else ((c_spec_l1ReadTerm M (a, ()) X (IntKind.i64.wrap ((at0 : Int) + (1 : Int)))).bind fun r4 => (if (!r4.1.2.2.1) = true then (some (.inr (([], r4.1.2.1, false, ()), ()))) else (if (List.length out + List.length r4.1.1) * 8 ≤ 140737488355328 then (l_spec_l1ReadTerm_2042 M X r4.1.2.1 (a, ()) b (out ++ r4.1.1) (IntKind.i64.wrap ((i : Int) + (1 : Int)))) else none)))))) = some (match rdK (rdT a f) (if i = 0 then 40 else 44) (m + 1) (X.drop at0) with
        | .bad c => .inr (([], ((at0 + c : Nat) : Int), false, ()), ())
        | .ok t c => .inl (X, ((at0 + c : Nat) : Int), (a, ()), (b : Int), out ++ t, ())) := by
      intro sg hsg
      by_cases hend : at0 = X.length
      · rw [if_pos (by simp [hend]), List.drop_eq_nil_of_le (by omega)]
        rfl
      · have hlt : at0 < X.length := by omega
        rw [if_neg (by simp; omega), idx_lt hlt, List.drop_eq_getElem_cons hlt]
        simp only [Option.bind_some, rdK]
        by_cases hs : (X[at0]).toNat = (if i = 0 then 40 else 44)
        · have hcall := ih (at0 + 1) (by omega) (by omega)
          rw [if_pos hs, if_neg (by rw [hsg, ← hs]; simp), inc_nat (by omega)]
          have hle := rdT_le (a := a) f (X.drop (at0 + 1))
          cases hr : rdT a f (X.drop (at0 + 1)) with
          | bad c =>
            rw [hr] at hcall
            have hcall' : c_spec_l1ReadTerm M (a, ()) X ((at0 + 1 : Nat) : Int) = some (([], ((at0 + 1 + c : Nat) : Int), false, ()), ()) := hcall
            rw [hcall']
            simp only [Option.bind_some]
            rw [if_pos (by simp), Nat.add_assoc]
          | ok t c =>
            rw [hr] at hle hcall
            have hcall' : c_spec_l1ReadTerm M (a, ()) X ((at0 + 1 : Nat) : Int) = some ((t, ((at0 + 1 + c : Nat) : Int), true, ()), ()) := hcall
            have g1 := hle.1
            have g2 := hle.2 t c rfl
            simp only [Rd.within, List.length_drop] at g1
            rw [hcall']
            simp only [Option.bind_some]
            rw [if_neg (by simp), if_pos (by omega), inc_nat (by omega), ihm (i + 1) (at0 + 1 + c) (out ++ t) (by omega) (by omega) (by omega) (by simp; omega)]
            rw [if_neg (by omega), List.drop_drop]
            cases rdK (rdT a f) 44 m (X.drop (at0 + 1 + c)) with
            | bad c' => simp only; rw [show at0 + 1 + c + c' = at0 + (1 + c + c') by omega]
            | ok t' c' => simp only; rw [show at0 + 1 + c + c' = at0 + (1 + c + c') by omega, List.append_assoc]
        · rw [if_neg hs, if_pos (by rw [hsg]; simp; omega)]
          rfl
    by_cases h0 : i = 0
    · subst h0
      rw [if_pos (by simp)]
      simp only [Option.bind_some, Sum.elim_inl]
      exact key 40 rfl
    · rw [if_neg (by simpa using h0)]
      simp only [Option.bind_some, Sum.elim_inl]
      exact key 44 (by rw [if_neg h0]; rfl)

theorem p_spT {a : List Int} (hg : gS a = true) (X : List UInt8) (hX : X.length ≤ 1000) : ∀ (f at0 : Nat), at0 ≤ X.length → X.length - at0 < f → c_spec_l1ReadTerm M (a, ()) X at0 = some (spT at0 (rdT a f (X.drop at0))) := by
  have hsl : a.length ≤ 10 := by simp only [gS, Bool.and_eq_true, decide_eq_true_eq] at hg; exact hg.2.1
  intro f
  induction f with
  | zero => intro at0 _ h; omega
  | succ f ih =>
    intro at0 ha hf
    apply e_spec_l1ReadTerm
    simp only [q_spec_l1ReadTerm]
    by_cases hend : at0 = X.length
    · rw [if_pos (by simp; omega), List.drop_eq_nil_of_le (by omega)]
      simp [rdT, spT, hend]
    · have hlt : at0 < X.length := by omega
      have hbl := (X[at0]).toNat_lt
      rw [if_neg (by simp; omega), idx_lt hlt, List.drop_eq_getElem_cons hlt]
      simp only [Option.bind_some, byte_ge, p_l1In]
      rw [w64 (x := (97 : Int) + (a.length : Int)) (by omega) (by omega), w64 (x := (97 : Int) + (a.length : Int) - 1) (by omega) (by omega), inc_nat (by omega)]
      simp only [rdT]
      by_cases h1 : 65 ≤ (X[at0]).toNat ∧ (X[at0]).toNat ≤ 76
      · rw [if_pos (by simp; omega), if_pos h1, w64 (x := ((X[at0]).toNat : Int) - 65) (by omega) (by omega), w64 (x := -1 - (((X[at0]).toNat : Int) - 65)) (by omega) (by omega)]
        rfl
      · rw [if_neg (by simp; omega), if_neg h1]
        by_cases h2 : 97 ≤ (X[at0]).toNat ∧ (X[at0]).toNat < 97 + a.length
        · have hbn : ¬ badN a (((X[at0]).toNat : Int) - 97) := by unfold badN; omega
          have hidx : idx a (IntKind.i64.wrap (((X[at0]).toNat : Int) - 97)) = some (ar a (((X[at0]).toNat : Int) - 97)) := by rw [w64 (by omega) (by omega)]; exact idx_ar hbn (by omega)
          have har := ar_ge hg (((X[at0]).toNat : Int) - 97)
          have hloop := p_spT_loop hg X hX f ih (X[at0]).toNat h2 (ar a (((X[at0]).toNat : Int) - 97)).toNat 0 (at0 + 1) [((X[at0]).toNat : Int) - 97] (by omega) (by omega) (by omega) (by simp)
          rw [show ((0 : Nat) : Int) = 0 from rfl, if_pos rfl] at hloop
          rw [if_neg (by simp; omega), if_pos h2, w64 (x := ((X[at0]).toNat : Int) - 97) (by omega) (by omega), hloop]
          have hkl := rdK_le (rdT_le (a := a) f) (ar a (((X[at0]).toNat : Int) - 97)).toNat 40 (X.drop (at0 + 1))
          cases hk : rdK (rdT a f) 40 (ar a (((X[at0]).toNat : Int) - 97)).toNat (X.drop (at0 + 1)) with
          | bad c =>
            simp only [Option.bind_some, Sum.elim_inr, spT]
            rw [show at0 + 1 + c = at0 + (1 + c) by omega]
          | ok t c =>
            rw [hk] at hkl
            have g1 := hkl.1
            simp only [Rd.within, List.length_drop] at g1
            simp only [Option.bind_some, Sum.elim_inl, hidx]
            by_cases h3 : ar a (((X[at0]).toNat : Int) - 97) ≤ 0
            · rw [if_neg (by simp; omega), if_pos h3]
              simp only [Option.bind_some, Sum.elim_inl, spT]
              rw [show at0 + 1 + c = at0 + (1 + c) by omega]
              rfl
            · rw [if_pos (by simp; omega), if_neg h3, List.drop_drop]
              by_cases h4 : at0 + 1 + c = X.length
              · rw [if_pos (by simp; omega), List.drop_eq_nil_of_le (by omega)]
                simp only [Option.map_some, Option.bind_some, Sum.elim_inr, spT]
                rw [show at0 + 1 + c = at0 + (1 + c) by omega]
              · have hlt2 : at0 + 1 + c < X.length := by omega
                rw [if_neg (by simp; omega), idx_lt hlt2, List.drop_eq_getElem_cons hlt2]
                simp only [Option.bind_some]
                by_cases h5 : (X[at0 + 1 + c]).toNat = 41
                · rw [if_neg (by simp [h5]), if_pos h5, inc_nat (by omega)]
                  simp only [Option.bind_some, Sum.elim_inl, spT]
                  rw [show at0 + 1 + c + 1 = at0 + (1 + c + 1) by omega]
                  rfl
                · rw [if_pos (by simp; omega), if_neg h5]
                  simp only [Option.map_some, Option.bind_some, Sum.elim_inr, spT]
                  rw [show at0 + 1 + c = at0 + (1 + c) by omega]
        · rw [if_pos (by simp; omega), if_neg h2]
          rfl

end Go.Proofs.YtkdceefdipljaaaTt.Ev

/- Plain laws: reading a term: the program's reader reads as the reference's does. No condition but sizes. -/
namespace Go.Proofs.YtkdceefdipljaaaTt.Ev
open Go
set_option autoImplicit false
set_option linter.unusedVariables false
set_option linter.unusedSimpArgs false

abbrev TP := (List Int × Unit) × List UInt8 × Int × Int × Bool × Unit
abbrev TQ := List Int × List UInt8 × Int × Int × Bool × Unit
/-- A reader at a place. -/
abbrev mkP (a : List Int) (X : List UInt8) (i : Nat) (b : Bool) : TP := ((a, ()), X, (i : Int), 12, b, ())
abbrev mkQ (a : List Int) (X : List UInt8) (i : Nat) (b : Bool) : TQ := (a, X, (i : Int), 12, b, ())
/-- The next byte, or 0. -/
def nx (X : List UInt8) (i : Nat) (b : Bool) : Nat := if b = true then 0 else match X[i]? with
  | some c => c.toNat
  | none => 0
theorem nx_lt (X : List UInt8) (i : Nat) (b : Bool) : nx X i b < 256 := by
  unfold nx
  split
  · omega
  · split
    · rename_i c _; exact c.toNat_lt
    · omega
theorem nx_true (X : List UInt8) (i : Nat) : nx X i true = 0 := rfl
theorem nx_get {X : List UInt8} {i : Nat} (h : i < X.length) : nx X i false = (X[i]).toNat := by simp [nx, h]
theorem nx_end {X : List UInt8} {i : Nat} (h : X.length ≤ i) (b : Bool) : nx X i b = 0 := by unfold nx; split <;> simp [h]

theorem p_nextP (a : List Int) (X : List UInt8) (i : Nat) (b : Bool) : c_impl_parser_next M (mkP a X i b) = some (((nx X i b : Int), ()), (mkP a X i b, ())) := by
  apply e_impl_parser_next
  simp only [q_impl_parser_next]
  cases b with
  | true => rfl
  | false =>
    rw [if_neg (by simp)]
    by_cases h : i < X.length
    · rw [if_neg (by simp; omega), idx_lt h, nx_get h]; rfl
    · rw [if_pos (by simp; omega), nx_end (by omega)]; rfl

theorem p_take_loop (a : List Int) (X : List UInt8) (i : Nat) (hi : i ≤ 1000000) (b : Bool) (w : List UInt8) (hw : w.length ≤ 1000) (c : Nat) : ∀ k j : Nat, j + k = w.length → l_impl_parser_take_58 M (mkQ a X i b) w c w.length j = some (if (w.drop j).any (fun x => x.toNat == c) = true ∧ c ≠ 0 then .inr (((c : Int), ()), (mkP a X (i + 1) b, ())) else .inl (mkQ a X i b, ())) := by
  intro k
  induction k with
  | zero =>
    intro j hj
    obtain rfl : j = w.length := by omega
    apply el_impl_parser_take_58
    simp [ql_impl_parser_take_58]
  | succ k ih =>
    intro j hj
    have hlt : j < w.length := by omega
    apply el_impl_parser_take_58
    simp only [ql_impl_parser_take_58]
    rw [if_pos (by simpa using hlt), idx_lt hlt, List.drop_eq_getElem_cons hlt, inc_nat (show j < 4611686018427387904 by omega), inc_nat (show i < 4611686018427387904 by omega)]
    simp only [Option.bind_some]
    have ihj := ih (j + 1) (by omega)
    by_cases h : (w[j]).toNat = c
    · rw [if_pos (by simp; omega)]
      by_cases h0 : c = 0
      · rw [if_neg (by simp; omega)]
        have e : (mkQ a X i b) = (a, X, (i : Int), 12, b, ()) := rfl
        rw [← e, ihj, if_neg (fun hh => hh.2 h0), if_neg (fun hh => hh.2 h0)]
      · rw [if_pos (by simp; omega), if_pos ⟨by simp only [List.any_cons, h, beq_self_eq_true, Bool.true_or], h0⟩]
    · rw [if_neg (by simp; omega)]
      have e : (mkQ a X i b) = (a, X, (i : Int), 12, b, ()) := rfl
      rw [← e, ihj]
      have : (w[j] :: w.drop (j + 1)).any (fun x => x.toNat == c) = (w.drop (j + 1)).any (fun x => x.toNat == c) := by simp only [List.any_cons, beq_false_of_ne h, Bool.false_or]
      rw [this]
theorem p_take (a : List Int) (X : List UInt8) (i : Nat) (hi : i ≤ 1000000) (b : Bool) (w : List UInt8) (hw : w.length ≤ 1000) :
    c_impl_parser_take M (mkP a X i b) w = some (if w.any (fun x => x.toNat == nx X i b) = true ∧ nx X i b ≠ 0 then (((nx X i b : Int), ()), (mkP a X (i + 1) b, ())) else ((0, ()), (mkP a X i true, ()))) := by
  apply e_impl_parser_take
  have e : ((mkP a X i b).1.1, ()) = (a, ()) := rfl
  simp only [q_impl_parser_take]
  have h1 := p_nextP a X i b
  have h2 := p_take_loop a X i hi b w hw (nx X i b) w.length 0 (by omega)
  rw [show ((0 : Nat) : Int) = 0 from rfl, List.drop_zero] at h2
  rw [show (((mkP a X i b).1.1, ()), (mkP a X i b).2.1, (mkP a X i b).2.2.1, (mkP a X i b).2.2.2.1, (mkP a X i b).2.2.2.2.1, ()) = mkP a X i b from rfl, h1]
  simp only [Option.bind_some]
  rw [h2]
  split <;> rfl

/-- What the program's reader of a term answers. -/
def imT (a : List Int) (X : List UInt8) (i : Nat) (y : Rd (List Int)) (r : (List Int × Unit) × (TP × Unit)) : Prop := match y with
  | .bad c => r.2.1 = mkP a X (i + c) true ∧ r.1.1.length ≤ c
  | .ok t c => r = ((t, ()), (mkP a X (i + c) false, ()))

theorem p_imT_after (a : List Int) (X : List UInt8) (i : Nat) (hi : i ≤ 1000000) (n : Int) (out : List Int) (cnt : Int) (k : Nat) (hk : k ≤ 1000) : ∃ r, l_impl_parser_term_1018 M (mkQ a X i true) n out cnt k = some r ∧ (r = .inr (([], ()), (mkP a X i true, ())) ∨ r = .inl (mkQ a X i true, n, out, ())) := by
  by_cases h : (k : Int) < cnt
  · refine ⟨.inr (([], ()), (mkP a X i true, ())), el_impl_parser_term_1018 _ _ _ _ _ ?_, .inl rfl⟩
    simp only [ql_impl_parser_term_1018]
    have t1 := p_take a X i hi true [40] (by simp)
    have t2 := p_take a X i hi true [44] (by simp)
    rw [if_neg (by simp [nx_true])] at t1 t2
    rw [if_pos (by simpa using h), t1, t2]
    by_cases h0 : k = 0
    · subst h0; rw [if_pos (by simp)]; rfl
    · rw [if_neg (by simpa using h0)]; rfl
  · refine ⟨.inl (mkQ a X i true, n, out, ()), el_impl_parser_term_1018 _ _ _ _ _ ?_, .inr rfl⟩
    simp only [ql_impl_parser_term_1018]
    rw [if_neg (by simpa using h)]

theorem p_imT_loop {a : List Int} (hg : gS a = true) (X : List UInt8) (hX : X.length ≤ 1000) (f : Nat) (ih : ∀ i : Nat, i ≤ X.length → X.length - i < f → ∃ r, c_impl_parser_term M (mkP a X i false) = some r ∧ imT a X i (rdT a f (X.drop i)) r)
    (n : Int) (cnt : Nat) (hcnt : cnt ≤ 3) : ∀ (m k i : Nat) (out : List Int), k + m = cnt → i ≤ X.length → X.length - i ≤ f → out.length ≤ i →
      ∃ r, l_impl_parser_term_1018 M (mkQ a X i false) n out cnt k = some r ∧ (match rdK (rdT a f) (if k = 0 then 40 else 44) m (X.drop i) with
        | .bad c => r = .inr (([], ()), (mkP a X (i + c) true, ())) ∨ ∃ o : List Int, r = .inl (mkQ a X (i + c) true, n, o, ()) ∧ o.length ≤ out.length + c
        | .ok t c => r = .inl (mkQ a X (i + c) false, n, out ++ t, ())) := by
  intro m
  induction m with
  | zero =>
    intro k i out hk hi hf ho
    refine ⟨.inl (mkQ a X i false, n, out, ()), el_impl_parser_term_1018 _ _ _ _ _ ?_, by simp [rdK]⟩
    simp only [ql_impl_parser_term_1018]
    rw [if_neg (by simp; omega)]
  | succ m ihm =>
    intro k i out hk hi hf ho
    have key : ∀ (sg : UInt8), sg.toNat = (if k = 0 then 40 else 44) → ∃ r, ((c_impl_parser_take M (mkP a X i false) [sg]).bind fun r2 => (if r2.2.1.2.2.2.2.1 = true then (some (Sum.inr (([], ()), (((r2.2.1.1.1, ()), r2.2.1.2.1, r2.2.1.2.2.1, r2.2.1.2.2.2.1, r2.2.1.2.2.2.2.1, ()), ())))) else ((c_impl_parser_term M ((r2.2.1.1.1, ()), r2.2.1.2.1, r2.2.1.2.2.1, r2.2.1.2.2.2.1, r2.2.1.2.2.2.2.1, ())).bind fun r4 => (if (List.length out + List.length r4.1.1) * 8 ≤ 140737488355328 then (l_impl_parser_term_1018 M (r4.2.1.1.1, r4.2.1.2.1, r4.2.1.2.2.1, r4.2.1.2.2.2.1, r4.2.1.2.2.2.2.1, ()) n (out ++ r4.1.1) cnt ((k + 1 : Nat) : Int)) else none)))) = some r ∧ (match rdK (rdT a f) (if k = 0 then 40 else 44) (m + 1) (X.drop i) with
        | .bad c => r = .inr (([], ()), (mkP a X (i + c) true, ())) ∨ ∃ o : List Int, r = .inl (mkQ a X (i + c) true, n, o, ()) ∧ o.length ≤ out.length + c
        | .ok t c => r = .inl (mkQ a X (i + c) false, n, out ++ t, ())) := by
      intro sg hsg
      have ht := p_take a X i (by omega) false [sg] (by simp)
      have hsg0 : sg.toNat ≠ 0 := by rw [hsg]; split <;> omega
      by_cases hend : i = X.length
      · rw [nx_end (by omega), if_neg (by simp)] at ht
        rw [ht, List.drop_eq_nil_of_le (by omega)]
        exact ⟨_, rfl, .inl rfl⟩
      · have hlt : i < X.length := by omega
        rw [nx_get hlt] at ht
        rw [List.drop_eq_getElem_cons hlt]
        simp only [rdK]
        by_cases hs : (X[i]).toNat = (if k = 0 then 40 else 44)
        · rw [if_pos ⟨by simp; omega, by omega⟩] at ht
          rw [ht, if_pos hs]
          simp only [Option.bind_some]
          rw [if_neg (by simp)]
          obtain ⟨r4, h1, h2⟩ := ih (i + 1) (by omega) (by omega)
          have h1' : c_impl_parser_term M (((mkP a X (i + 1) false).1.1, ()), (mkP a X (i + 1) false).2.1, (mkP a X (i + 1) false).2.2.1, (mkP a X (i + 1) false).2.2.2.1, (mkP a X (i + 1) false).2.2.2.2.1, ()) = some r4 := h1
          have hle := rdT_le (a := a) f (X.drop (i + 1))
          rw [h1']
          simp only [Option.bind_some]
          cases hr : rdT a f (X.drop (i + 1)) with
          | bad c =>
            rw [hr] at h2 hle
            have g1 := hle.1
            simp only [Rd.within, List.length_drop] at g1
            obtain ⟨⟨x, ⟨⟩⟩, ⟨p, ⟨⟩⟩⟩ := r4
            obtain ⟨h3, h4⟩ := h2
            simp only at h3 h4
            subst h3
            rw [if_pos (by simp only; omega)]
            obtain ⟨r, r1, r2⟩ := p_imT_after a X (i + 1 + c) (by omega) n (out ++ x) cnt (k + 1) (by omega)
            refine ⟨r, r1, ?_⟩
            simp only
            rw [show i + (1 + c) = i + 1 + c by omega]
            rcases r2 with r2 | r2
            · exact .inl r2
            · exact .inr ⟨out ++ x, r2, by simp; omega⟩
          | ok t c =>
            rw [hr] at h2 hle
            have g1 := hle.1
            have g2 := hle.2 t c rfl
            simp only [Rd.within, List.length_drop] at g1
            have h3 : r4 = ((t, ()), (mkP a X (i + 1 + c) false, ())) := h2
            subst h3
            rw [if_pos (by simp only; omega)]
            obtain ⟨r, r1, r2⟩ := ihm (k + 1) (i + 1 + c) (out ++ t) (by omega) (by omega) (by omega) (by simp; omega)
            refine ⟨r, r1, ?_⟩
            rw [if_neg (by omega)] at r2
            simp only
            rw [List.drop_drop]
            cases hk2 : rdK (rdT a f) 44 m (X.drop (i + 1 + c)) with
            | bad c' =>
              rw [hk2] at r2
              simp only at r2 ⊢
              rw [show i + (1 + c + c') = i + 1 + c + c' by omega]
              rcases r2 with r2 | ⟨o, o1, o2⟩
              · exact .inl r2
              · exact .inr ⟨o, o1, by simp at o2; omega⟩
            | ok t' c' =>
              rw [hk2] at r2
              simp only at r2 ⊢
              rw [show i + (1 + c + c') = i + 1 + c + c' by omega, r2, List.append_assoc]
        · rw [if_neg (fun hh => by
            have := hh.1
            simp at this
            omega)] at ht
          rw [ht, if_neg hs]
          exact ⟨_, rfl, .inl rfl⟩
    by_cases h0 : k = 0
    · obtain ⟨r, r1, r2⟩ := key 40 (by rw [if_pos h0]; rfl)
      refine ⟨r, el_impl_parser_term_1018 _ _ _ _ _ ?_, r2⟩
      rw [← r1]
      simp only [ql_impl_parser_term_1018]
      rw [if_pos (by simp; omega), if_pos (by simp [h0])]
      rw [Option.bind_assoc]
      simp only [Option.bind_some, Sum.elim_inl, inc_nat (show k < 4611686018427387904 by omega)]
    · obtain ⟨r, r1, r2⟩ := key 44 (by rw [if_neg h0]; rfl)
      refine ⟨r, el_impl_parser_term_1018 _ _ _ _ _ ?_, r2⟩
      rw [← r1]
      simp only [ql_impl_parser_term_1018]
      rw [if_pos (by simp; omega), if_neg (by simpa using h0)]
      rw [Option.bind_assoc]
      simp only [Option.bind_some, Sum.elim_inl, inc_nat (show k < 4611686018427387904 by omega)]

theorem p_imT {a : List Int} (hg : gS a = true) (X : List UInt8) (hX : X.length ≤ 1000) : ∀ (f i : Nat), i ≤ X.length → X.length - i < f → ∃ r, c_impl_parser_term M (mkP a X i false) = some r ∧ imT a X i (rdT a f (X.drop i)) r := by
  have hsl : a.length ≤ 10 := by simp only [gS, Bool.and_eq_true, decide_eq_true_eq] at hg; exact hg.2.1
  intro f
  induction f with
  | zero => intro i _ h; omega
  | succ f ih =>
    intro i hi hf
    have hnext := p_nextP a X i false
    have hn8 := nx_lt X i false
    have hin : IntKind.i64.wrap ((i : Int) + 1) = ((i + 1 : Nat) : Int) := inc_nat (by omega)
    have bad : ∀ (hbad : nx X i false < 97 ∧ ¬ (65 ≤ nx X i false ∧ nx X i false ≤ 76) ∨ 97 + a.length ≤ nx X i false), c_impl_parser_term M (mkP a X i false) = some (([], ()), (mkP a X i true, ())) := by
      intro hbad
      apply e_impl_parser_term
      simp only [q_impl_parser_term]
      rw [show (((mkP a X i false).1.1, ()), (mkP a X i false).2.1, (mkP a X i false).2.2.1, (mkP a X i false).2.2.2.1, (mkP a X i false).2.2.2.2.1, ()) = mkP a X i false from rfl, hnext]
      simp only [Option.bind_some]
      by_cases h65 : 65 ≤ nx X i false
      · rw [if_pos (by simp; omega), w8 (x := (nx X i false : Int) - 65) (by omega) (by omega), w64 (x := (nx X i false : Int) - 65) (by omega) (by omega), if_neg (by simp; omega)]
        by_cases h97 : nx X i false < 97
        · rw [if_pos (by simp; omega)]
        · rw [if_neg (by simp; omega), w8 (x := (nx X i false : Int) - 97) (by omega) (by omega), w64 (x := (nx X i false : Int) - 97) (by omega) (by omega), if_pos (by simp; omega)]
      · rw [if_neg (by simp; omega), if_pos (by simp; omega)]
    by_cases hend : i = X.length
    · have h0 := nx_end (X := X) (i := i) (by omega) false
      refine ⟨_, bad (by omega), ?_⟩
      rw [List.drop_eq_nil_of_le (by omega)]
      simp [rdT, imT]
    · have hlt : i < X.length := by omega
      have hnx := nx_get hlt
      rw [List.drop_eq_getElem_cons hlt]
      simp only [rdT]
      rw [← hnx]
      by_cases h1 : 65 ≤ nx X i false ∧ nx X i false ≤ 76
      · rw [if_pos h1]
        refine ⟨(([-1 - ((nx X i false : Int) - 65)], ()), (mkP a X (i + 1) false, ())), e_impl_parser_term _ ?_, rfl⟩
        simp only [q_impl_parser_term]
        rw [show (((mkP a X i false).1.1, ()), (mkP a X i false).2.1, (mkP a X i false).2.2.1, (mkP a X i false).2.2.2.1, (mkP a X i false).2.2.2.2.1, ()) = mkP a X i false from rfl, hnext]
        simp only [Option.bind_some]
        rw [if_pos (by simp; omega), w8 (x := (nx X i false : Int) - 65) (by omega) (by omega), w64 (x := (nx X i false : Int) - 65) (by omega) (by omega), if_pos (by simp; omega), w64 (x := -1 - ((nx X i false : Int) - 65)) (by omega) (by omega), hin]
      · rw [if_neg h1]
        by_cases h2 : 97 ≤ nx X i false ∧ nx X i false < 97 + a.length
        · rw [if_pos h2]
          have hbn : ¬ badN a ((nx X i false : Int) - 97) := by unfold badN; omega
          have hidx : idx a ((nx X i false : Int) - 97) = some (ar a ((nx X i false : Int) - 97)) := idx_ar hbn (by omega)
          have har := ar_ge hg ((nx X i false : Int) - 97)
          obtain ⟨r, r1, r2⟩ := p_imT_loop hg X hX f ih ((nx X i false : Int) - 97) (ar a ((nx X i false : Int) - 97)).toNat (by omega) (ar a ((nx X i false : Int) - 97)).toNat 0 (i + 1) [(nx X i false : Int) - 97] (by omega) (by omega) (by omega) (by simp)
          rw [show ((0 : Nat) : Int) = 0 from rfl, show (((ar a ((nx X i false : Int) - 97)).toNat : Nat) : Int) = ar a ((nx X i false : Int) - 97) by omega] at r1
          rw [if_pos rfl] at r2
          have pre : ∀ R, ((some r).bind (Sum.elim (fun y3 : TQ × Int × List Int × Unit => ((((idx y3.1.1 y3.2.1).bind fun x6 => (if (decide (x6 > (0 : Int))) = true then (if (!y3.1.2.2.2.2.1) = true then ((c_impl_parser_take M ((y3.1.1, ()), y3.1.2.1, y3.1.2.2.1, y3.1.2.2.2.1, y3.1.2.2.2.2.1, ()) ([41] : List UInt8)).bind fun r7 => (some (.inl ((r7.2.1.1.1, r7.2.1.2.1, r7.2.1.2.2.1, r7.2.1.2.2.2.1, r7.2.1.2.2.2.2.1, ()), y3.2.2.1, ())))) else (some (.inl ((y3.1.1, y3.1.2.1, y3.1.2.2.1, y3.1.2.2.2.1, y3.1.2.2.2.2.1, ()), y3.2.2.1, ())))) else (some (.inl ((y3.1.1, y3.1.2.1, y3.1.2.2.1, y3.1.2.2.2.1, y3.1.2.2.2.2.1, ()), y3.2.2.1, ()))))) : Option ((TQ × (List Int) × Unit) ⊕ ((List Int) × Unit) × (TP × Unit))).bind (Sum.elim (fun q5 => (some ((q5.2.1, ()), (((q5.1.1, ()), q5.1.2.1, q5.1.2.2.1, q5.1.2.2.2.1, q5.1.2.2.2.2.1, ()), ())))) (fun r => some r)))) (fun r4 => (some r4)))) = some R → c_impl_parser_term M (mkP a X i false) = some R := by
            intro R hR
            apply e_impl_parser_term
            simp only [q_impl_parser_term]
            rw [show (((mkP a X i false).1.1, ()), (mkP a X i false).2.1, (mkP a X i false).2.2.1, (mkP a X i false).2.2.2.1, (mkP a X i false).2.2.2.2.1, ()) = mkP a X i false from rfl, hnext]
            simp only [Option.bind_some]
            rw [if_pos (by simp; omega), w8 (x := (nx X i false : Int) - 65) (by omega) (by omega), w64 (x := (nx X i false : Int) - 65) (by omega) (by omega), if_neg (by simp; omega), if_neg (by simp; omega), w8 (x := (nx X i false : Int) - 97) (by omega) (by omega), w64 (x := (nx X i false : Int) - 97) (by omega) (by omega), if_neg (by simp; omega), hidx, hin]
            simp only [Option.bind_some]
            rw [show (((mkP a X i false).1.1, (mkP a X i false).2.1, ((i + 1 : Nat) : Int), (mkP a X i false).2.2.2.1, (mkP a X i false).2.2.2.2.1, ()) : TQ) = mkQ a X (i + 1) false from rfl, r1]
            exact hR
          have hle := rdK_le (rdT_le (a := a) f) (ar a ((nx X i false : Int) - 97)).toNat 40 (X.drop (i + 1))
          cases hk : rdK (rdT a f) 40 (ar a ((nx X i false : Int) - 97)).toNat (X.drop (i + 1)) with
          | bad c =>
            rw [hk] at r2
            simp only at r2 ⊢
            rcases r2 with r2 | ⟨o, o1, o2⟩
            · refine ⟨(([], ()), (mkP a X (i + 1 + c) true, ())), pre _ (by rw [r2]; rfl), ?_⟩
              simp only [imT]
              exact ⟨by rw [show i + (1 + c) = i + 1 + c by omega], by simp⟩
            · refine ⟨((o, ()), (mkP a X (i + 1 + c) true, ())), pre _ ?_, ?_⟩
              · rw [o1]
                simp only [Option.bind_some, Sum.elim_inl, hidx]
                by_cases h3 : ar a ((nx X i false : Int) - 97) > 0
                · rw [if_pos (by simpa using h3), if_neg (by simp)]; rfl
                · rw [if_neg (by simpa using h3)]; rfl
              · simp only [imT]
                exact ⟨by rw [show i + (1 + c) = i + 1 + c by omega], by simp at o2; omega⟩
          | ok t c =>
            rw [hk] at r2 hle
            have g1 := hle.1
            simp only [Rd.within, List.length_drop] at g1
            simp only at r2 ⊢
            by_cases h3 : ar a ((nx X i false : Int) - 97) ≤ 0
            · rw [if_pos h3]
              refine ⟨((((nx X i false : Int) - 97) :: t, ()), (mkP a X (i + 1 + c) false, ())), pre _ ?_, ?_⟩
              · rw [r2]
                simp only [Option.bind_some, Sum.elim_inl, hidx]
                rw [if_neg (by simp; omega)]
                rfl
              · simp only [imT]
                rw [show i + (1 + c) = i + 1 + c by omega]
            · rw [if_neg h3, List.drop_drop]
              have ht := p_take a X (i + 1 + c) (by omega) false [41] (by simp)
              have step : ∀ (j : Nat) (b : Bool) (x : Int), c_impl_parser_take M (mkP a X (i + 1 + c) false) [41] = some ((x, ()), (mkP a X j b, ())) → c_impl_parser_term M (mkP a X i false) = some ((((nx X i false : Int) - 97) :: t, ()), (mkP a X j b, ())) := by
                intro j b x hx
                apply pre
                rw [r2]
                simp only [Option.bind_some, Sum.elim_inl, hidx]
                rw [if_pos (by simp; omega), if_pos (by simp)]
                have hx' : c_impl_parser_take M (((mkQ a X (i + 1 + c) false).1, ()), (mkQ a X (i + 1 + c) false).2.1, (mkQ a X (i + 1 + c) false).2.2.1, (mkQ a X (i + 1 + c) false).2.2.2.1, (mkQ a X (i + 1 + c) false).2.2.2.2.1, ()) [41] = some ((x, ()), (mkP a X j b, ())) := hx
                rw [hx']
                rfl
              by_cases h4 : i + 1 + c = X.length
              · rw [nx_end (by omega), if_neg (by simp)] at ht
                rw [List.drop_eq_nil_of_le (by omega)]
                refine ⟨_, step _ _ _ ht, ?_⟩
                simp only [imT]
                have hlen := hle.2 t c rfl
                exact ⟨by rw [show i + (1 + c) = i + 1 + c by omega], by simp; omega⟩
              · have hlt2 : i + 1 + c < X.length := by omega
                rw [nx_get hlt2] at ht
                rw [List.drop_eq_getElem_cons hlt2]
                simp only
                by_cases h5 : (X[i + 1 + c]).toNat = 41
                · rw [if_pos ⟨by simp [h5], by omega⟩] at ht
                  rw [if_pos h5]
                  refine ⟨_, step _ _ _ ht, ?_⟩
                  simp only [imT]
                  rw [show i + (1 + c + 1) = i + 1 + c + 1 by omega]
                · rw [if_neg (fun hh => by have := hh.1; simp at this; omega)] at ht
                  rw [if_neg h5]
                  refine ⟨_, step _ _ _ ht, ?_⟩
                  simp only [imT]
                  have hlen := hle.2 t c rfl
                  exact ⟨by rw [show i + (1 + c) = i + 1 + c by omega], by simp; omega⟩
        · rw [if_neg h2]
          exact ⟨_, bad (by omega), by simp [imT]⟩

end Go.Proofs.YtkdceefdipljaaaTt.Ev

/- Plain laws: reading a term inverts writing it, and writing what was read. No condition but sizes. -/
namespace Go.Proofs.YtkdceefdipljaaaTt.Ev
open Go
set_option autoImplicit false
set_option linter.unusedVariables false
set_option linter.unusedSimpArgs false

theorem bytesStr_cons (n : Int) (r : List Int) : bytesStr (n :: r) = bytesStr [n] ++ bytesStr r := by simp [bytesStr]
theorem bytesStr_nat {n : Nat} (h : n < 256) : ∃ b : UInt8, bytesStr [(n : Int)] = [b] ∧ b.toNat = n := by
  refine ⟨UInt8.ofNat n, by simp [bytesStr], ?_⟩
  simp; omega
theorem bytesStr_int {n : Int} (h : 0 ≤ n) (k : n < 256) : ∃ b : UInt8, bytesStr [n] = [b] ∧ (b.toNat : Int) = n := by
  obtain ⟨m, rfl⟩ : ∃ m : Nat, n = (m : Int) := ⟨n.toNat, by omega⟩
  obtain ⟨b, h1, h2⟩ := bytesStr_nat (n := m) (by omega)
  exact ⟨b, h1, by omega⟩
theorem bytesStr_byte (b : UInt8) {n : Int} (h : n = (b.toNat : Int)) : bytesStr [n] = [b] := by
  subst h; simp [bytesStr]

/-- What was written is read back. -/
def Back (a u : List Int) : Prop := u.length ≤ (tb a u).length ∧ ∀ (f : Nat) (post : List UInt8), u.length ≤ f → rdT a f (bytesStr (tb a u) ++ post) = .ok u (tb a u).length

theorem rdK_gl {a : List Int} {T : List UInt8 → Rd (List Int)} : ∀ (us : List (List Int)) (fl : Bool) (post : List UInt8), (∀ u ∈ us, ∀ post, T (bytesStr (tb a u) ++ post) = .ok u (tb a u).length) → rdK T (if fl = true then 40 else 44) us.length (bytesStr (gl a fl us) ++ post) = .ok us.flatten (gl a fl us).length := by
  intro us
  induction us with
  | nil => intro fl post _; rfl
  | cons u us ih =>
    intro fl post h
    have hu := h u (by simp)
    have hus := ih false post (fun v hv => h v (by simp [hv]))
    obtain ⟨b, hb1, hb2⟩ := bytesStr_nat (n := if fl = true then 40 else 44) (by split <;> omega)
    have e : bytesStr (gl a fl (u :: us)) ++ post = b :: (bytesStr (tb a u) ++ (bytesStr (gl a false us) ++ post)) := by
      simp only [gl]
      rw [bytesStr_cons, show (if fl = true then (40 : Int) else 44) = ((if fl = true then 40 else 44 : Nat) : Int) by split <;> rfl, hb1, bytesStr_app]
      simp
    rw [e]
    simp only [List.length_cons, rdK]
    rw [if_pos hb2, hu]
    have hd : (bytesStr (tb a u) ++ (bytesStr (gl a false us) ++ post)).drop (tb a u).length = bytesStr (gl a false us) ++ post := by
      rw [← bytesStr_len (tb a u), List.drop_left]
    simp only [hd]
    rw [show (44 : Nat) = if false = true then 40 else 44 from rfl, hus]
    simp [gl]; omega
theorem gl_ge {a : List Int} : ∀ (us : List (List Int)) (fl : Bool), (∀ u ∈ us, u.length ≤ (tb a u).length) → us.flatten.length ≤ (gl a fl us).length
  | [], _, _ => by simp [gl]
  | u :: us, fl, h => by
    have h1 := h u (by simp)
    have h2 := gl_ge us false (fun v hv => h v (by simp [hv]))
    simp only [gl, List.length_cons, List.length_append, List.flatten_cons]
    omega

theorem back_all {a : List Int} (hg : gS a = true) : ∀ (N : Nat) (u : List Int), u.length ≤ N → N ≤ 1000 → Tm a u → Back a u := by
  have hsl : a.length ≤ 10 := by simp only [gS, Bool.and_eq_true, decide_eq_true_eq] at hg; exact hg.2.1
  intro N
  induction N with
  | zero => intro u hu _ h; have := h.pos; omega
  | succ N ih =>
    intro u hu hN h
    obtain ⟨n, us, rfl, hb, hl, hk⟩ := h.parts hg
    simp only [List.length_cons] at hu
    have hsub : ∀ v ∈ us, v.length ≤ us.flatten.length := fun v hv => (List.sublist_flatten_of_mem hv).length_le
    have kid : ∀ v ∈ us, TX a v (tb a v) := fun v hv => tb_ok (TX_all hg N v (by have := hsub v hv; omega) (by omega) (hk v hv))
    have kb : ∀ v ∈ us, Back a v := fun v hv => ih v (by have := hsub v hv; omega) (by omega) (hk v hv)
    have hb' := hb
    unfold badN at hb'
    by_cases h0 : n < 0
    · have h3 : ar a n = 0 := by simp [ar, h0]
      obtain rfl : us = [] := List.eq_nil_of_length_eq_zero (by omega)
      have e := tb_eq (by simp) (TX_var hsl hb h0)
      obtain ⟨b, b1, b2⟩ := bytesStr_int (n := 64 - n) (by omega) (by omega)
      refine ⟨by simp only [List.flatten_nil, e, List.length_cons, List.length_nil]; omega, fun f post hf => ?_⟩
      simp only [List.flatten_nil] at hf ⊢
      rw [e, b1]
      cases f with
      | zero => simp at hf
      | succ f =>
        simp only [List.cons_append, List.nil_append, rdT]
        rw [if_pos (by omega), show -1 - ((b.toNat : Int) - 65) = n by omega]
        rfl
    · have hn := ar_ge hg n
      have e := tb_eq (by simp [-List.length_flatten]; omega) (TX_app hg hb h0 hl hk kid (by omega))
      obtain ⟨b, b1, b2⟩ := bytesStr_int (n := 97 + n) (by omega) (by omega)
      have hge := gl_ge us true (fun v hv => (kb v hv).1)
      refine ⟨by rw [e]; simp only [List.length_cons, List.length_append]; omega, fun f post hf => ?_⟩
      rw [e]
      cases f with
      | zero => simp at hf
      | succ f =>
        simp only [List.length_cons] at hf
        rw [bytesStr_cons, b1, bytesStr_app]
        simp only [List.cons_append, List.nil_append, List.append_assoc, rdT]
        rw [if_neg (by omega), if_pos (by omega), show (b.toNat : Int) - 97 = n by omega]
        have hk2 := rdK_gl (a := a) (T := rdT a f) us true (bytesStr (if 0 < ar a n then [41] else []) ++ post) (fun v hv p => (kb v hv).2 f p (by have := hsub v hv; omega))
        rw [if_pos rfl, show us.length = (ar a n).toNat by omega] at hk2
        rw [hk2]
        simp only
        by_cases h4 : 0 < ar a n
        · rw [if_neg (by omega), if_pos h4]
          rw [← bytesStr_len (gl a true us), List.drop_left]
          have : bytesStr [(41 : Int)] = [41] := rfl
          rw [this]
          simp [bytesStr_len]; omega
        · rw [if_pos (by omega), if_neg h4]
          simp; omega

/-! ### What was read is written back -/
theorem rdK_inv {a : List Int} {T : List UInt8 → Rd (List Int)} (hT : ∀ r t c, r.length ≤ 1000 → T r = .ok t c → Tm a t ∧ r.take c = bytesStr (tb a t) ∧ c ≤ r.length) : ∀ (m : Nat) (fl : Bool) (r : List UInt8) (t : List Int) (c : Nat), r.length ≤ 1000 → rdK T (if fl = true then 40 else 44) m r = .ok t c → ∃ us : List (List Int), us.length = m ∧ t = us.flatten ∧ (∀ u ∈ us, Tm a u) ∧ r.take c = bytesStr (gl a fl us) ∧ c ≤ r.length := by
  intro m
  induction m with
  | zero =>
    intro fl r t c hr h
    simp only [rdK, Rd.ok.injEq] at h
    exact ⟨[], rfl, by rw [← h.1]; rfl, by simp, by rw [← h.2]; simp [gl, bytesStr], by omega⟩
  | succ m ih =>
    intro fl r t c hr h
    cases r with
    | nil => simp [rdK] at h
    | cons b r =>
      simp only [List.length_cons] at hr
      simp only [rdK] at h
      by_cases hb : b.toNat = (if fl = true then 40 else 44)
      · rw [if_pos hb] at h
        cases h1 : T r with
        | bad c1 => rw [h1] at h; simp at h
        | ok t1 c1 =>
          rw [h1] at h
          simp only at h
          obtain ⟨g1, g2, g3⟩ := hT r t1 c1 (by omega) h1
          cases h2 : rdK T 44 m (r.drop c1) with
          | bad c2 => rw [h2] at h; simp at h
          | ok t2 c2 =>
            rw [h2] at h
            simp only [Rd.ok.injEq] at h
            obtain ⟨us, u1, u2, u3, u4, u5⟩ := ih false (r.drop c1) t2 c2 (by simp; omega) (by simpa using h2)
            simp only [List.length_drop] at u5
            refine ⟨t1 :: us, by simp [u1], by rw [← h.1, u2]; simp, by simpa using ⟨g1, u3⟩, ?_, by rw [← h.2]; simp only [List.length_cons]; omega⟩
            rw [← h.2, show 1 + c1 + c2 = (c1 + c2) + 1 by omega, List.take_succ_cons, List.take_add, g2, u4]
            simp only [gl]
            rw [bytesStr_cons, bytesStr_byte b (by rw [hb]; cases fl <;> rfl), bytesStr_app]
            simp
      · rw [if_neg hb] at h; simp at h

theorem rdT_inv {a : List Int} (hg : gS a = true) : ∀ (f : Nat) (r : List UInt8) (t : List Int) (c : Nat), r.length ≤ 1000 → rdT a f r = .ok t c → Tm a t ∧ r.take c = bytesStr (tb a t) ∧ c ≤ r.length := by
  have hsl : a.length ≤ 10 := by simp only [gS, Bool.and_eq_true, decide_eq_true_eq] at hg; exact hg.2.1
  intro f
  induction f with
  | zero => intro r t c _ h; simp [rdT] at h
  | succ f ih =>
    intro r t c hr h
    have hle := rdT_le (a := a) (f + 1) r
    rw [h] at hle
    have hw := hle.1
    have hl := hle.2 t c rfl
    simp only [Rd.within] at hw
    cases r with
    | nil => simp [rdT] at h
    | cons b r =>
      have hbl := b.toNat_lt
      simp only [List.length_cons] at hr hw
      simp only [rdT] at h
      split at h
      · rename_i h1
        simp only [Rd.ok.injEq] at h
        have hbn : ¬ badN a (-1 - ((b.toNat : Int) - 65)) := by unfold badN; omega
        have e := tb_eq (by simp) (TX_var hsl hbn (by omega))
        obtain ⟨rfl, rfl⟩ := h
        refine ⟨?_, ?_, by simp⟩
        · unfold Tm sE
          rw [if_neg (by omega), if_neg hbn]
          have : ar a (-1 - ((b.toNat : Int) - 65)) = 0 := by unfold ar; rw [if_pos (by omega)]
          rw [this]
          simp [sE]
        · rw [e, bytesStr_byte b (by omega)]; simp
      · split at h
        · rename_i h1 h2
          have hbn : ¬ badN a ((b.toNat : Int) - 97) := by unfold badN; omega
          have har := ar_ge hg ((b.toNat : Int) - 97)
          cases hk : rdK (rdT a f) 40 (ar a ((b.toNat : Int) - 97)).toNat r with
          | bad c1 => rw [hk] at h; simp at h
          | ok t1 c1 =>
            rw [hk] at h
            simp only at h
            obtain ⟨us, u1, u2, u3, u4, u5⟩ := rdK_inv (a := a) (T := rdT a f) (fun r t c => ih r t c) _ true r t1 c1 (by omega) (by simpa using hk)
            subst u2
            have hul : (us.length : Int) = ar a ((b.toNat : Int) - 97) := by omega
            have fin : ∀ q : List UInt8, t = ((b.toNat : Int) - 97) :: us.flatten → (b :: r).take c = b :: (r.take c1 ++ q) → q = bytesStr (if 0 < ar a ((b.toNat : Int) - 97) then [41] else []) → Tm a t ∧ (b :: r).take c = bytesStr (tb a t) := by
              intro q q1 q2 q3
              subst q1
              have hlu : us.flatten.length ≤ 999 := by simp only [List.length_cons] at hl; omega
              have hsub : ∀ v ∈ us, v.length ≤ us.flatten.length := fun v hv => (List.sublist_flatten_of_mem hv).length_le
              have kid : ∀ v ∈ us, TX a v (tb a v) := fun v hv => tb_ok (TX_all hg 1000 v (by have := hsub v hv; omega) (by omega) (u3 v hv))
              have e := tb_eq (by simp [-List.length_flatten]; omega) (TX_app hg hbn (by omega) hul u3 kid hlu)
              refine ⟨?_, ?_⟩
              · have kids : ∀ (us : List (List Int)), (∀ u ∈ us, Tm a u) → sE a us.length us.flatten = some [] := by
                  intro us
                  induction us with
                  | nil => intro _; simp [sE]
                  | cons v us ih2 =>
                    intro hv
                    have := sE_app hg v 1 us.length us.flatten (by omega) (by omega) (hv v (by simp))
                    rw [List.flatten_cons, List.length_cons, show ((us.length + 1 : Nat) : Int) = 1 + (us.length : Int) by omega, this]
                    exact ih2 (fun w hw => hv w (by simp [hw]))
                unfold Tm sE
                rw [if_neg (by omega), if_neg hbn, ← hul, show (1 : Int) - 1 + (us.length : Int) = us.length by omega]
                exact kids us u3
              · rw [e, q2, bytesStr_cons, bytesStr_byte b (by omega), bytesStr_app, u4, q3]
                rfl
            by_cases h3 : ar a ((b.toNat : Int) - 97) ≤ 0
            · rw [if_pos h3] at h
              simp only [Rd.ok.injEq] at h
              have := fin [] h.1.symm (by rw [← h.2, show 1 + c1 = c1 + 1 by omega, List.take_succ_cons]; simp) (by rw [if_neg (by omega)]; rfl)
              exact ⟨this.1, this.2, by simp only [List.length_cons]; omega⟩
            · rw [if_neg h3] at h
              cases hd : r.drop c1 with
              | nil => rw [hd] at h; simp at h
              | cons b' r' =>
                rw [hd] at h
                simp only at h
                split at h
                · rename_i hb'
                  simp only [Rd.ok.injEq] at h
                  have := fin [b'] h.1.symm (by rw [← h.2, show 1 + c1 + 1 = (c1 + 1) + 1 by omega, List.take_succ_cons, List.take_add, hd]; simp) (by rw [if_pos (by omega), bytesStr_byte b' (by omega)])
                  exact ⟨this.1, this.2, by simp only [List.length_cons]; omega⟩
                · simp at h
        · simp at h

end Go.Proofs.YtkdceefdipljaaaTt.Ev
