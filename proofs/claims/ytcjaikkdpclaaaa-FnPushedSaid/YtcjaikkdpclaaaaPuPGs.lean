/- Texts laid together: PAa, PBa, PB, PAb, PCa, PW, PHo, PXa, PYb, PYa, PFd, QPa, PLa, RCa, REa, QPb, PG, PJ, PO, QAa, QA, QAb, PGs; no condition but those that each theorem names. -/
import Derived.Test.YtcjaikkdpclaaaaPuEq
/- Plain laws: numbers and rows. No condition but sizes. -/
namespace Go.Proofs.YtcjaikkdpclaaaaPu.Ev
open Go
set_option autoImplicit false
set_option linter.unusedVariables false
set_option linter.unusedSimpArgs false

theorem w64 {x : Int} (h : -9223372036854775808 ≤ x) (k : x < 9223372036854775808) : IntKind.i64.wrap x = x := by
  rw [IntKind.wrap_i64]
  omega
theorem w8 {x : Int} (h : 0 ≤ x) (k : x < 256) : IntKind.u8.wrap x = x := by
  simp only [IntKind.wrap, IntKind.bits, IntKind.signed, Bool.false_and, Bool.false_eq_true, if_false]
  omega
theorem idx_nat {α : Type} (xs : List α) (i : Nat) : idx xs (i : Int) = xs[i]? := by simp [idx]
theorem idx_zero {α : Type} (xs : List α) : idx xs 0 = xs[0]? := by simp [idx]
theorem idx_lt {α : Type} {xs : List α} {i : Nat} (h : i < xs.length) : idx xs (i : Int) = some xs[i] := by simp [idx, h]
theorem inc_nat {i : Nat} (h : i < 4611686018427387904) : IntKind.i64.wrap ((i : Int) + 1) = ((i + 1 : Nat) : Int) := by
  rw [w64 (by omega) (by omega)]; rfl

abbrev TSign := List Int × Unit
abbrev TLit := Bool × List Int × List Int × Unit

/-- Lists of no more than 2^20 numbers. -/
def smL (x : TLit) : Prop := x.2.1.length ≤ 1048576 ∧ x.2.2.1.length ≤ 1048576

end Go.Proofs.YtcjaikkdpclaaaaPu.Ev

/- Plain laws: good signatures. No condition but sizes. -/
namespace Go.Proofs.YtcjaikkdpclaaaaPu.Ev
open Go
set_option autoImplicit false
set_option linter.unusedVariables false
set_option linter.unusedSimpArgs false

theorem p_l1In (x lo hi : Int) : c_spec_l1In M x lo hi = some ((decide (lo ≤ x) && decide (x ≤ hi), ()), ()) := by
  apply e_spec_l1In
  simp only [q_spec_l1In, decide_eq_true_eq]
  by_cases h : x ≥ lo
  · rw [if_pos h]; simp [h]
  · rw [if_neg h]; simp; omega

theorem p_l1All_loop (a : List Int) (lo up : Int) (ha : a.length ≤ 17592186044416) : ∀ k i : Nat, i + k = a.length → l_spec_l1All_26 M lo up a a.length i = some (if (a.drop i).all (fun x => decide (lo ≤ x) && decide (x ≤ up)) = true then .inl () else .inr ((false, ()), ())) := by
  intro k
  induction k with
  | zero =>
    intro i hi
    obtain rfl : i = a.length := by omega
    apply el_spec_l1All_26
    simp [ql_spec_l1All_26]
  | succ k ih =>
    intro i hi
    apply el_spec_l1All_26
    have h1 : i < a.length := by omega
    simp only [ql_spec_l1All_26]
    rw [if_pos (by simpa using h1), idx_lt h1, inc_nat (by omega)]
    simp only [Option.bind_some, p_l1In, ih (i + 1) (by omega)]
    rw [List.drop_eq_getElem_cons h1, List.all_cons]
    generalize (decide (lo ≤ a[i]) && decide (a[i] ≤ up)) = b
    cases b <;> rfl

theorem p_l1All (a : List Int) (lo hi : Int) (ha : a.length ≤ 17592186044416) : c_spec_l1All M a lo hi = some ((a.all (fun x => decide (lo ≤ x) && decide (x ≤ hi)), ()), ()) := by
  apply e_spec_l1All
  simp only [q_spec_l1All]
  have := p_l1All_loop a lo hi ha a.length 0 (by omega)
  rw [show ((0 : Nat) : Int) = 0 from rfl] at this
  rw [this, List.drop_zero]
  cases a.all (fun x => decide (lo ≤ x) && decide (x ≤ hi)) <;> simp

/-- A signature that is good. -/
def gS (a : List Int) : Bool := decide (1 ≤ a.length) && (decide (a.length ≤ 10) && (a.all (fun x => decide (0 ≤ x) && decide (x ≤ 3)) && decide (a[0]? = some 0)))

theorem p_spec_GoodSign (s : TSign) (ha : s.1.length ≤ 17592186044416) : c_spec_GoodSign M s = some ((gS s.1, ()), ()) := by
  apply e_spec_GoodSign
  simp only [q_spec_GoodSign, p_l1In, p_l1All s.1 0 3 ha, Option.bind_some, gS]
  rcases hs : s.1 with _ | ⟨x, r⟩
  · simp
  · rw [idx_zero]
    simp only [List.length_cons, List.getElem?_cons_zero, Option.bind_some]
    by_cases h : r.length + 1 ≤ 10
    · rw [if_pos (by simp; omega)]
      cases (x :: r).all (fun x => decide (0 ≤ x) && decide (x ≤ 3)) <;> simp [h]
      rw [Bool.eq_iff_iff]; simp
    · rw [if_neg (by simp; omega)]
      simp [h]

theorem p_gs1 (x : Int) : c_impl_GoodSign_1 M x = some ((!(decide (0 ≤ x) && decide (x ≤ 3)), ()), ()) := by
  apply e_impl_GoodSign_1
  simp only [q_impl_GoodSign_1, decide_eq_true_eq]
  by_cases h : x < 0
  · rw [if_pos h]; simp; omega
  · rw [if_neg h]
    have h0 : 0 ≤ x := by omega
    rw [decide_eq_true h0, Bool.true_and]
    by_cases h3 : x ≤ 3
    · rw [decide_eq_true h3, decide_eq_false (by omega)]; rfl
    · rw [decide_eq_false h3, decide_eq_true (by omega)]; rfl

theorem p_gsIdx_loop (a : List Int) (ha : a.length ≤ 17592186044416) : ∀ k i : Nat, i + k = a.length → ∃ r, l_slices_IndexFunc_int_int__impl_GoodSign_1_26 M a () a.length i = some r ∧ (match r with | .inl _ => (a.drop i).all (fun x => decide (0 ≤ x) && decide (x ≤ 3)) = true | .inr r => 0 ≤ r.1.1 ∧ (a.drop i).all (fun x => decide (0 ≤ x) && decide (x ≤ 3)) = false) := by
  intro k
  induction k with
  | zero =>
    intro i hi
    obtain rfl : i = a.length := by omega
    refine ⟨.inl (), el_slices_IndexFunc_int_int__impl_GoodSign_1_26 _ _ _ _ (by simp [ql_slices_IndexFunc_int_int__impl_GoodSign_1_26]), by simp⟩
  | succ k ih =>
    intro i hi
    have h1 : i < a.length := by omega
    obtain ⟨r, hr, hm⟩ := ih (i + 1) (by omega)
    rw [List.drop_eq_getElem_cons h1, List.all_cons]
    by_cases hp : (decide (0 ≤ a[i]) && decide (a[i] ≤ 3)) = true
    · refine ⟨r, el_slices_IndexFunc_int_int__impl_GoodSign_1_26 _ _ _ _ ?_, by rw [hp, Bool.true_and]; exact hm⟩
      simp only [ql_slices_IndexFunc_int_int__impl_GoodSign_1_26]
      rw [if_pos (by simpa using h1), idx_lt h1, inc_nat (by omega)]
      simp only [Option.bind_some, p_gs1, hp, Bool.not_true, Bool.false_eq_true, if_false]
      exact hr
    · rw [Bool.not_eq_true] at hp
      refine ⟨.inr (((i : Int), ()), ()), el_slices_IndexFunc_int_int__impl_GoodSign_1_26 _ _ _ _ ?_, Int.natCast_nonneg i, by rw [hp, Bool.false_and]⟩
      simp only [ql_slices_IndexFunc_int_int__impl_GoodSign_1_26]
      rw [if_pos (by simpa using h1), idx_lt h1]
      simp only [Option.bind_some, p_gs1, hp, Bool.not_false, if_true]

theorem p_gsContains (a : List Int) (ha : a.length ≤ 17592186044416) : c_slices_ContainsFunc_int_int__impl_GoodSign_1 M a () = some ((!(a.all (fun x => decide (0 ≤ x) && decide (x ≤ 3))), ()), ()) := by
  apply e_slices_ContainsFunc_int_int__impl_GoodSign_1
  simp only [q_slices_ContainsFunc_int_int__impl_GoodSign_1]
  obtain ⟨r, hr, hm⟩ := p_gsIdx_loop a ha a.length 0 (by omega)
  rw [show ((0 : Nat) : Int) = 0 from rfl] at hr
  rw [List.drop_zero] at hm
  cases r with
  | inl r =>
    rw [e_slices_IndexFunc_int_int__impl_GoodSign_1 a () (r := ((-1, ()), ())) (by simp only [q_slices_IndexFunc_int_int__impl_GoodSign_1, hr, Option.bind_some, Sum.elim_inl])]
    simp only at hm
    simp [hm]
  | inr r =>
    rw [e_slices_IndexFunc_int_int__impl_GoodSign_1 a () (r := r) (by simp only [q_slices_IndexFunc_int_int__impl_GoodSign_1, hr, Option.bind_some, Sum.elim_inr])]
    simp only at hm
    simp [hm]

theorem p_impl_GoodSign (s : TSign) (ha : s.1.length ≤ 17592186044416) : c_impl_GoodSign M s = some ((gS s.1, ()), ()) := by
  apply e_impl_GoodSign
  simp only [q_impl_GoodSign, p_gsContains s.1 ha, Option.bind_some, gS, decide_eq_true_eq]
  rcases hs : s.1 with _ | ⟨x, r⟩
  · simp
  · rw [idx_zero]
    simp only [List.length_cons, List.getElem?_cons_zero, Option.bind_some]
    rw [if_neg (by omega)]
    by_cases h : r.length + 1 ≤ 10
    · rw [if_neg (by omega)]
      by_cases hx : x = 0
      · subst hx; simp [h]
      · rw [if_pos (by simpa using hx)]; simp [hx]
    · rw [if_pos (by omega)]
      simp [h]

theorem sign_eta (x : TSign) : (x.1, ()) = x := rfl
theorem lit_eta (x : TLit) : (x.1, x.2.1, x.2.2.1, ()) = x := rfl
theorem sign_eta' (x : TSign) : (x.1, ()) = x := rfl

end Go.Proofs.YtcjaikkdpclaaaaPu.Ev

/- Plain laws: signatures and terms: both programs tell the same signatures and terms. No condition but sizes. -/
namespace Go.Proofs.YtcjaikkdpclaaaaPu.Ev
open Go
set_option autoImplicit false
set_option linter.unusedVariables false
set_option linter.unusedSimpArgs false

/-! ### Terms -/
def ar (a : List Int) (n : Int) : Int := if n < 0 then 0 else (a[n.toNat]?).getD 0
def badN (a : List Int) (n : Int) : Prop := n < -12 ∨ (a.length : Int) ≤ n
instance (a : List Int) (n : Int) : Decidable (badN a n) := inferInstanceAs (Decidable (_ ∨ _))
/-- What stands behind some terms. -/
def sE (a : List Int) : Int → List Int → Option (List Int)
  | k, [] => if k ≤ 0 then some [] else none
  | k, n :: t => if k ≤ 0 then some (n :: t) else if badN a n then none else sE a (k - 1 + ar a n) t

theorem ar_ge {a : List Int} (hg : gS a = true) (n : Int) : 0 ≤ ar a n ∧ ar a n ≤ 3 := by
  unfold ar
  split
  · omega
  · cases h : a[n.toNat]? with
    | none => simp
    | some x =>
      simp only [gS, Bool.and_eq_true, List.all_eq_true, decide_eq_true_eq] at hg
      have := hg.2.2.1 x (List.mem_of_getElem? h)
      simpa using this
theorem idx_ar {a : List Int} {n : Int} (h : ¬ badN a n) (h0 : ¬ n < 0) : idx a n = some (ar a n) := by
  unfold badN at h
  have h1 : n.toNat < a.length := by omega
  unfold ar idx
  rw [if_pos (by omega), if_neg h0, List.getElem?_eq_getElem h1]
  rfl

theorem sE_zero (a : List Int) (t : List Int) : sE a 0 t = some t := by cases t <;> simp [sE]
theorem sE_app {a : List Int} (hg : gS a = true) : ∀ (u : List Int) (j k : Int) (x : List Int), 0 ≤ j → 0 ≤ k → sE a j u = some [] → sE a (j + k) (u ++ x) = sE a k x := by
  intro u
  induction u with
  | nil =>
    intro j k x hj hk h
    simp only [sE] at h
    split at h
    · obtain rfl : j = 0 := by omega
      simp
    · cases h
  | cons n u ih =>
    intro j k x hj hk h
    simp only [sE] at h
    split at h
    · cases h
    · rename_i hj'
      split at h
      · cases h
      · rename_i hb
        have hn := ar_ge hg n
        rw [List.cons_append]
        conv => lhs; unfold sE
        rw [if_neg (by omega), if_neg hb]
        have := ih (j - 1 + ar a n) k x (by omega) hk h
        rw [← this]
        congr 1; omega
theorem sE_split {a : List Int} (hg : gS a = true) : ∀ (t : List Int) (j k : Int) (r : List Int), 0 ≤ j → 0 ≤ k → sE a (j + k) t = some r → ∃ u x, t = u ++ x ∧ sE a j u = some [] ∧ sE a k x = some r := by
  intro t
  induction t with
  | nil =>
    intro j k r hj hk h
    simp only [sE] at h
    split at h
    · obtain rfl : j = 0 := by omega
      obtain rfl : k = 0 := by omega
      exact ⟨[], [], rfl, by simp [sE], by simpa [sE] using h⟩
    · cases h
  | cons n t ih =>
    intro j k r hj hk h
    by_cases h0 : j = 0
    · subst h0
      exact ⟨[], n :: t, rfl, by simp [sE], by simpa using h⟩
    · simp only [sE] at h
      split at h
      · omega
      · split at h
        · cases h
        · rename_i hb
          have hn := ar_ge hg n
          obtain ⟨u, x, rfl, h1, h2⟩ := ih (j - 1 + ar a n) k r (by omega) hk (by rw [← h]; congr 1; omega)
          refine ⟨n :: u, x, rfl, ?_, h2⟩
          unfold sE
          rw [if_neg (by omega), if_neg hb]
          exact h1
/-- A term. -/
abbrev Tm (a : List Int) (u : List Int) : Prop := sE a 1 u = some []
theorem sE_kids {a : List Int} (hg : gS a = true) : ∀ (k : Nat) (t r : List Int), sE a k t = some r → ∃ us : List (List Int), us.length = k ∧ t = us.flatten ++ r ∧ ∀ u ∈ us, Tm a u := by
  intro k
  induction k with
  | zero =>
    intro t r h
    rw [show ((0 : Nat) : Int) = 0 from rfl, sE_zero] at h
    obtain rfl := Option.some.inj h
    exact ⟨[], rfl, rfl, by simp⟩
  | succ k ih =>
    intro t r h
    obtain ⟨u, x, rfl, h1, h2⟩ := sE_split hg t 1 k r (by omega) (by omega) (by rw [← h]; congr 1; omega)
    obtain ⟨us, hl, rfl, hu⟩ := ih x r h2
    exact ⟨u :: us, by simp [hl], by simp, by simpa using ⟨h1, hu⟩⟩
theorem Tm.parts {a : List Int} (hg : gS a = true) {u : List Int} (h : Tm a u) : ∃ (n : Int) (us : List (List Int)), u = n :: us.flatten ∧ ¬ badN a n ∧ (us.length : Int) = ar a n ∧ ∀ v ∈ us, Tm a v := by
  cases u with
  | nil => simp [Tm, sE] at h
  | cons n t =>
    simp only [Tm, sE] at h
    rw [if_neg (by omega)] at h
    split at h
    · cases h
    · rename_i hb
      have hn := ar_ge hg n
      obtain ⟨us, hl, ht, hu⟩ := sE_kids hg (ar a n).toNat t [] (by rw [← h]; congr 1; omega)
      exact ⟨n, us, by rw [ht]; simp, hb, by omega, hu⟩
theorem Tm.rest {a : List Int} (hg : gS a = true) {u : List Int} (h : Tm a u) (x : List Int) : sE a 1 (u ++ x) = some x := by
  have := sE_app hg u 1 0 x (by omega) (by omega) h
  rw [sE_zero] at this
  simpa using this
theorem Tm.pos {a u : List Int} (h : Tm a u) : 0 < u.length := by
  cases u with
  | nil => simp [Tm, sE] at h
  | cons n t => simp

theorem p_l1End_loop (s : TSign) (hg : gS s.1 = true) (t : List Int) (ht : t.length ≤ 1048576) : ∀ (k i : Nat) (need : Int), i + k = t.length → 0 ≤ need → need + 3 * k ≤ 4000000 →
    l_spec_l1End_28 M t i s need = some (match sE s.1 need (t.drop i) with | none => .inr (((-1 : Int), ()), ()) | some r => .inl ((t.length : Int) - r.length, ())) := by
  have hs : s.1.length ≤ 10 := by simp only [gS, Bool.and_eq_true, decide_eq_true_eq] at hg; exact hg.2.1
  intro k
  induction k with
  | zero =>
    intro i need hi h0 hn
    obtain rfl : i = t.length := by omega
    apply el_spec_l1End_28
    simp only [ql_spec_l1End_28, List.drop_length, sE, decide_eq_true_eq]
    by_cases h : need > 0
    · rw [if_pos h, if_pos (by omega), if_neg (by omega)]
    · rw [if_neg h, if_pos (by omega)]; simp
  | succ k ih =>
    intro i need hi h0 hn
    apply el_spec_l1End_28
    have h1 : i < t.length := by omega
    rw [List.drop_eq_getElem_cons h1]
    simp only [ql_spec_l1End_28, sE, decide_eq_true_eq]
    by_cases h : need > 0
    · rw [if_pos h, if_neg (by omega), if_neg (by omega), idx_lt h1]
      simp only [Option.bind_some, p_l1In]
      rw [w64 (x := (s.1.length : Int) - 1) (by omega) (by omega)]
      by_cases hb : badN s.1 t[i]
      · rw [if_pos hb, if_pos (by unfold badN at hb; simp; omega)]
      · rw [if_neg hb, if_neg (by unfold badN at hb; simp; omega)]
        have ha := ar_ge hg t[i]
        have hw : IntKind.i64.wrap (need - 1) = need - 1 := w64 (by omega) (by omega)
        by_cases hx : t[i] ≥ 0
        · rw [if_pos hx, idx_ar hb (by omega), hw]
          simp only [Option.bind_some, Sum.elim_inl]
          rw [w64 (x := need - 1 + _) (by omega) (by omega), inc_nat (by omega)]
          exact ih (i + 1) _ (by omega) (by omega) (by omega)
        · have : ar s.1 t[i] = 0 := by unfold ar; rw [if_pos (by omega)]
          rw [if_neg hx, hw, this]
          simp only [Option.bind_some, Sum.elim_inl]
          rw [inc_nat (by omega), Int.add_zero]
          exact ih (i + 1) _ (by omega) (by omega) (by omega)
    · rw [if_neg h, if_pos (by omega)]
      simp only [List.length_cons, List.length_drop]
      congr 3
      omega

theorem p_l1End (s : TSign) (hg : gS s.1 = true) (t : List Int) (i : Nat) (hi : i ≤ t.length) (ht : t.length ≤ 1048576) :
    c_spec_l1End M s t i = some ((match sE s.1 1 (t.drop i) with | none => (-1 : Int) | some r => (t.length : Int) - r.length, ()), ()) := by
  apply e_spec_l1End
  simp only [q_spec_l1End]
  rw [p_l1End_loop s hg t ht (t.length - i) i 1 (by omega) (by omega) (by omega)]
  cases sE s.1 1 (t.drop i) <;> rfl

theorem sE_len {a : List Int} : ∀ (t : List Int) (k : Int) (r : List Int), sE a k t = some r → r.length ≤ t.length := by
  intro t
  induction t with
  | nil => intro k r h; simp only [sE] at h; split at h <;> simp_all
  | cons n t ih =>
    intro k r h
    simp only [sE] at h
    split at h
    · obtain rfl := Option.some.inj h; simp
    · split at h
      · cases h
      · have := ih _ _ h; simp; omega

/-- A term of no more than 40 numbers. -/
def isT (a t : List Int) : Bool := decide (t.length ≤ 40) && decide (Tm a t)

theorem p_l1Term (s : TSign) (hg : gS s.1 = true) (t : List Int) (ht : t.length ≤ 1048576) : c_spec_l1Term M s t = some ((isT s.1 t, ()), ()) := by
  apply e_spec_l1Term
  have := p_l1End s hg t 0 (by omega) ht
  rw [show ((0 : Nat) : Int) = 0 from rfl, List.drop_zero] at this
  simp only [q_spec_l1Term, p_l1In, Option.bind_some, this, isT]
  by_cases h0 : t = []
  · subst h0; simp [Tm, sE]
  · have : 0 < t.length := List.length_pos_iff.2 h0
    by_cases h : t.length ≤ 40
    · rw [if_pos (by simp; omega)]
      simp only [Option.some.injEq, Prod.mk.injEq, and_true]
      rw [Bool.eq_iff_iff]
      simp only [Bool.and_eq_true, decide_eq_true_eq, Tm, beq_iff_eq]
      cases hE : sE s.1 1 t with
      | none => simp
      | some r =>
        have := sE_len _ _ _ hE
        simp only [Option.some.injEq]
        constructor
        · intro h'; exact ⟨h, List.eq_nil_of_length_eq_zero (by omega)⟩
        · rintro ⟨-, rfl⟩; simp
    · rw [if_neg (by simp; omega)]
      simp [h]

theorem p_args (s : TSign) (n : Int) (h : ¬ badN s.1 n) : c_impl_Sign_args M s n = some ((ar s.1 n, ()), ()) := by
  apply e_impl_Sign_args
  simp only [q_impl_Sign_args, decide_eq_true_eq]
  by_cases hn : n < 0
  · rw [if_pos hn]; simp [ar, hn]
  · rw [if_neg hn, idx_ar h hn]; rfl

theorem p_isTerm_loop (s : TSign) (hg : gS s.1 = true) (t : List Int) (ht : t.length ≤ 40) : ∀ (k i : Nat) (left : Int), i + k = t.length → 0 ≤ left → left + 3 * k ≤ 4000000 →
    ∃ r, l_impl_Sign_isTerm_122 M s left t t.length i = some r ∧ Sum.elim (fun y => y.1 == 0) (fun r => r.1.1) r = decide (sE s.1 left (t.drop i) = some []) := by
  intro k
  induction k with
  | zero =>
    intro i left hi h0 hn
    obtain rfl : i = t.length := by omega
    refine ⟨.inl (left, ()), el_impl_Sign_isTerm_122 _ _ _ _ _ ?_, ?_⟩
    · simp [ql_impl_Sign_isTerm_122]
    · rw [List.drop_length]
      simp only [Sum.elim_inl, sE]
      rw [Bool.eq_iff_iff]; simp; omega
  | succ k ih =>
    intro i left hi h0 hn
    have h1 : i < t.length := by omega
    rw [List.drop_eq_getElem_cons h1]
    have pre : ∀ r, (if (left == 0) = true then some (.inr ((false, ()), ())) else if decide (t[i] < -12) = true then some (.inr ((false, ()), ())) else if decide (t[i] ≥ (s.1.length : Int)) = true then some (.inr ((false, ()), ())) else (c_impl_Sign_args M (s.1, ()) t[i]).bind fun r2 => l_impl_Sign_isTerm_122 M (s.1, ()) (IntKind.i64.wrap (left + IntKind.i64.wrap (r2.1.1 - 1))) t t.length (IntKind.i64.wrap ((i : Int) + 1))) = some r → l_impl_Sign_isTerm_122 M s left t t.length i = some r := by
      intro r hr
      apply el_impl_Sign_isTerm_122
      simp only [ql_impl_Sign_isTerm_122]
      rw [if_pos (by simpa using h1), idx_lt h1]
      exact hr
    by_cases hl : left = 0
    · subst hl
      refine ⟨.inr ((false, ()), ()), pre _ rfl, (decide_eq_false (by rw [sE_zero]; exact fun h => by cases h)).symm⟩
    · by_cases hb : badN s.1 t[i]
      · refine ⟨.inr ((false, ()), ()), pre _ ?_, by simp [sE, hb]; omega⟩
        rw [if_neg (by simpa using hl)]
        unfold badN at hb
        by_cases h2 : t[i] < -12
        · rw [if_pos (by simpa using h2)]
        · rw [if_neg (by simpa using h2), if_pos (by simp; omega)]
      · have ha := ar_ge hg t[i]
        obtain ⟨r, hr, hm⟩ := ih (i + 1) (left - 1 + ar s.1 t[i]) (by omega) (by omega) (by omega)
        refine ⟨r, pre _ ?_, ?_⟩
        · have hb' := hb
          unfold badN at hb'
          rw [if_neg (by simpa using hl), if_neg (by simp; omega), if_neg (by simp; omega), p_args (s.1, ()) _ hb]
          simp only [Option.bind_some]
          rw [w64 (x := ar s.1 t[i] - 1) (by omega) (by omega), w64 (by omega) (by omega), inc_nat (by omega), show left + (ar s.1 t[i] - 1) = left - 1 + ar s.1 t[i] by omega]
          exact hr
        · rw [hm]
          conv => rhs; unfold sE
          rw [if_neg (by omega), if_neg hb]

theorem p_isTerm (s : TSign) (hg : gS s.1 = true) (t : List Int) : c_impl_Sign_isTerm M s t = some ((isT s.1 t, ()), ()) := by
  apply e_impl_Sign_isTerm
  simp only [q_impl_Sign_isTerm, decide_eq_true_eq, isT]
  by_cases h : t.length ≤ 40
  · obtain ⟨r, hr, hm⟩ := p_isTerm_loop s hg t h t.length 0 1 (by omega) (by omega) (by omega)
    rw [show ((0 : Nat) : Int) = 0 from rfl] at hr
    rw [List.drop_zero] at hm
    rw [if_neg (by omega), show ((s.1, ()) : TSign) = s from rfl, hr]
    cases r with
    | inl r => simp only [Sum.elim_inl, Option.bind_some] at hm ⊢; rw [hm]; simp [h, Tm]
    | inr r => obtain ⟨⟨b, _⟩, _⟩ := r; simp only [Sum.elim_inr, Option.bind_some] at hm ⊢; rw [hm]; simp [h, Tm]
  · rw [if_pos (by omega)]; simp [h]

end Go.Proofs.YtcjaikkdpclaaaaPu.Ev

/- Plain laws: bytes and numbers. No condition but sizes. -/
namespace Go.Proofs.YtcjaikkdpclaaaaPu.Ev
open Go
set_option autoImplicit false
set_option linter.unusedVariables false
set_option linter.unusedSimpArgs false

theorem wu64 {x : Int} (h : 0 ≤ x) (k : x < 18446744073709551616) : IntKind.u64.wrap x = x := by
  simp only [IntKind.wrap, IntKind.bits, IntKind.signed, Bool.false_and, Bool.false_eq_true, if_false]
  omega

theorem bytesStr_app (x y : List Int) : bytesStr (x ++ y) = bytesStr x ++ bytesStr y := by simp [bytesStr]

theorem bytesStr_len (x : List Int) : (bytesStr x).length = x.length := by simp [bytesStr]

theorem bytesStr_one (n : Nat) : bytesStr [(n : Int)] = [UInt8.ofNat n] := by simp [bytesStr]

theorem bytesStr_str (x : List UInt8) : bytesStr (strBytes x) = x := by
  induction x with
  | nil => rfl
  | cons b r ih => simp only [strBytes, bytesStr, List.map_cons] at ih ⊢; rw [ih]; simp

theorem strBytes_app (x y : List UInt8) : strBytes (x ++ y) = strBytes x ++ strBytes y := by simp [strBytes]

theorem strBytes_len (x : List UInt8) : (strBytes x).length = x.length := by simp [strBytes]

theorem strBytes_one {n : Nat} (h : n < 256) : strBytes [UInt8.ofNat n] = [(n : Int)] := by
  simp [strBytes]; omega

end Go.Proofs.YtcjaikkdpclaaaaPu.Ev

/- Plain laws: places of a term's operands. No condition but sizes. -/
namespace Go.Proofs.YtcjaikkdpclaaaaPu.Ev
open Go
set_option autoImplicit false
set_option linter.unusedVariables false
set_option linter.unusedSimpArgs false


def posOf : Nat → List (List Int) → List Int
  | _, [] => []
  | p, u :: us => (p : Int) :: posOf (p + u.length) us
theorem posOf_len : ∀ (us : List (List Int)) (p : Nat), (posOf p us).length = us.length
  | [], _ => rfl
  | _ :: us, p => by simp [posOf, posOf_len us]

theorem drop_split {T u x : List Int} {i : Nat} (h : T.drop i = u ++ x) : T.drop (i + u.length) = x := by
  rw [← List.drop_drop, h, List.drop_left]
theorem drop_len {T u : List Int} {i : Nat} (h : T.drop i = u) : u.length = T.length - i := by rw [← h, List.length_drop]

theorem p_l1Args_loop {a : List Int} (hg : gS a = true) (T : List Int) (hT : T.length ≤ 1000) : ∀ (us : List (List Int)) (p : Nat) (x out : List Int), (∀ u ∈ us, Tm a u) → us.length ≤ 1000 → T.drop p = us.flatten ++ x → out.length + us.length ≤ 1000 →
    l_spec_l1Args_250 M T (a, ()) out p us.length = some (.inl (out ++ posOf p us, ())) := by
  intro us
  induction us with
  | nil =>
    intro p x out _ _ _ _
    apply el_spec_l1Args_250
    simp [ql_spec_l1Args_250, posOf]
  | cons u us ih =>
    intro p x out hu hl hd ho
    simp only [List.length_cons] at hl ho
    simp only [List.flatten_cons, List.append_assoc] at hd
    have h1 := hu u (by simp)
    apply el_spec_l1Args_250
    simp only [ql_spec_l1Args_250, List.length_cons]
    have hp : p ≤ T.length := by
      have := drop_len hd
      have h2 := h1.pos
      simp at this
      omega
    rw [if_pos (by simp), if_pos (by simp [-List.length_flatten]; omega), p_l1End (a, ()) hg T p hp (by omega), hd, h1.rest hg]
    have hx := drop_len hd
    have hlen : (T.length : Int) - (us.flatten ++ x).length = ((p + u.length : Nat) : Int) := by
      simp only [List.length_append] at hx ⊢
      omega
    simp only [Option.bind_some, hlen]
    rw [w64 (by omega) (by omega), show ((us.length + 1 : Nat) : Int) - 1 = (us.length : Int) by omega, ih (p + u.length) x (out ++ [(p : Int)]) (fun v hv => hu v (by simp [hv])) (by omega) (drop_split hd) (by simp [-List.length_flatten]; omega)]
    simp [posOf]

end Go.Proofs.YtcjaikkdpclaaaaPu.Ev

/- Plain laws: what is drawn. No condition but that the bytes are bytes and fit in memory. -/
namespace Go.Proofs.YtcjaikkdpclaaaaPu.Ev
open Go
set_option autoImplicit false
set_option linter.unusedVariables false
set_option linter.unusedSimpArgs false

abbrev TCur := List Int × Int × Int × Unit
theorem cur_eta (c : TCur) : (c.1, c.2.1, c.2.2.1, ()) = c := rfl
/-- A reader of choices over some bytes, no further than a place. -/
def Cu (code : List Int) (j : Int) (c : TCur) : Prop := c.1 = code ∧ 0 ≤ c.2.1 ∧ c.2.1 ≤ j
def isBytes (code : List Int) : Prop := code.length ≤ 1048576 ∧ ∀ b ∈ code, 0 ≤ b ∧ b ≤ 255

theorem and255 (x : Int) : 0 ≤ bitsI .and .u64 x 255 ∧ bitsI .and .u64 x 255 ≤ 255 := by
  have h : (BitVec.ofInt 64 x &&& BitVec.ofInt 64 255).toNat ≤ 255 := by
    rw [BitVec.toNat_and]
    exact Nat.le_trans Nat.and_le_right (by decide)
  have e : bitsI .and .u64 x 255 = IntKind.u64.wrap (((BitVec.ofInt 64 x &&& BitVec.ofInt 64 255).toNat : Nat) : Int) := rfl
  rw [e, wu64 (by omega) (by omega)]
  omega

theorem p_next {code : List Int} (hb : isBytes code) {j : Int} (hj : j ≤ 1000000000) {c : TCur} (hc : Cu code j c) : ∃ x c', c_spec_l1Cur_next M c = some ((x, ()), (c', ())) ∧ 0 ≤ x ∧ x ≤ 255 ∧ Cu code (j + 1) c' := by
  obtain ⟨h1, h2, h3⟩ := hc
  have hin : IntKind.i64.wrap (c.2.1 + 1) = c.2.1 + 1 := w64 (by omega) (by omega)
  have tail : ∀ (x0 : Int), 0 ≤ x0 → x0 ≤ 255 → (∃ r : (Int × Unit) × (TCur × Unit), (if (decide ((IntKind.i64.wrap (c.2.1 + (1 : Int))) ≤ (List.length c.1 : Int))) = true then (some ((x0, ()), ((c.1, (IntKind.i64.wrap (c.2.1 + (1 : Int))), (IntKind.u64.wrap ((IntKind.u64.wrap ((IntKind.u64.wrap (c.2.2.1 * (6364136223846793005 : Int))) + (IntKind.u64.wrap x0))) + (1442695040888963407 : Int))), ()), ()))) else (if (40 : Int) < 0 then none else (some (((IntKind.i64.wrap (bitsI .and .u64 (shrI .u64 (IntKind.u64.wrap ((IntKind.u64.wrap ((IntKind.u64.wrap (c.2.2.1 * (6364136223846793005 : Int))) + (IntKind.u64.wrap x0))) + (1442695040888963407 : Int))) (40 : Int)) (255 : Int))), ()), ((c.1, (IntKind.i64.wrap (c.2.1 + (1 : Int))), (IntKind.u64.wrap ((IntKind.u64.wrap ((IntKind.u64.wrap (c.2.2.1 * (6364136223846793005 : Int))) + (IntKind.u64.wrap x0))) + (1442695040888963407 : Int))), ()), ()))))) = some r ∧ 0 ≤ r.1.1 ∧ r.1.1 ≤ 255 ∧ Cu code (j + 1) r.2.1) := by
    intro x0 g0 g1
    rw [hin]
    by_cases hq : c.2.1 + 1 ≤ (List.length c.1 : Int)
    · rw [if_pos (by simpa using hq)]
      exact ⟨_, rfl, g0, g1, h1, by show 0 ≤ c.2.1 + 1; omega, by show c.2.1 + 1 ≤ j + 1; omega⟩
    · rw [if_neg (by simpa using hq), if_neg (by omega)]
      have ha := and255 (shrI .u64 (IntKind.u64.wrap ((IntKind.u64.wrap ((IntKind.u64.wrap (c.2.2.1 * (6364136223846793005 : Int))) + (IntKind.u64.wrap x0))) + (1442695040888963407 : Int))) (40 : Int))
      refine ⟨_, rfl, ?_, ?_, h1, by show 0 ≤ c.2.1 + 1; omega, by show c.2.1 + 1 ≤ j + 1; omega⟩
      · show 0 ≤ IntKind.i64.wrap _
        rw [w64 (by omega) (by omega)]; exact ha.1
      · show IntKind.i64.wrap _ ≤ 255
        rw [w64 (by omega) (by omega)]; exact ha.2
  by_cases hl : c.2.1 < (List.length c.1 : Int)
  · obtain ⟨m, hm⟩ : ∃ m : Nat, c.2.1 = (m : Int) := ⟨c.2.1.toNat, by omega⟩
    have hml : m < c.1.length := by omega
    have hbb := hb.2 (c.1[m]) (by rw [← h1]; exact List.getElem_mem hml)
    obtain ⟨r, r1, r2, r3, r4⟩ := tail c.1[m] hbb.1 hbb.2
    refine ⟨r.1.1, r.2.1, e_spec_l1Cur_next _ ?_, r2, r3, r4⟩
    simp only [q_spec_l1Cur_next]
    have hix : idx c.1 c.2.1 = some c.1[m] := by rw [hm, idx_lt hml]
    rw [if_pos (by simpa using hl), hix]
    simp only [Option.bind_some]
    rw [w64 (x := c.1[m]) (by omega) (by omega)]
    simp only [Option.bind_some, Sum.elim_inl]
    exact r1
  · obtain ⟨r, r1, r2, r3, r4⟩ := tail 0 (by omega) (by omega)
    refine ⟨r.1.1, r.2.1, e_spec_l1Cur_next _ ?_, r2, r3, r4⟩
    simp only [q_spec_l1Cur_next]
    rw [if_neg (by simpa using hl)]
    simp only [Option.bind_some, Sum.elim_inl]
    exact r1

theorem p_pick {code : List Int} (hb : isBytes code) {j : Int} (hj : j ≤ 100000000) {c : TCur} (hc : Cu code j c) (n : Int) (hn : n ≤ 1000000000) : ∃ x c', c_spec_l1Cur_pick M c n = some ((x, ()), (c', ())) ∧ 0 ≤ x ∧ (x < n ∨ x = 0) ∧ Cu code (j + 2) c' := by
  by_cases h1 : n ≤ 1
  · refine ⟨0, c, e_spec_l1Cur_pick _ _ ?_, by omega, .inr rfl, hc.1, hc.2.1, by have := hc.2.2; omega⟩
    simp only [q_spec_l1Cur_pick]
    rw [if_pos (by simpa using h1)]
  · obtain ⟨x, c', n1, n2, n3, n4⟩ := p_next hb (by omega) hc
    by_cases h2 : n > 200
    · obtain ⟨y, c'', m1, m2, m3, m4⟩ := p_next hb (by omega) n4
      have hw : IntKind.i64.wrap (IntKind.i64.wrap (x * 256) + y) = x * 256 + y := by rw [w64 (x := x * 256) (by omega) (by omega), w64 (by omega) (by omega)]
      refine ⟨Int.tmod (x * 256 + y) n, c'', e_spec_l1Cur_pick _ _ ?_, Int.tmod_nonneg _ (by omega), .inl (Int.tmod_lt_of_pos _ (by omega)), m4.1, m4.2.1, by have := m4.2.2; omega⟩
      simp only [q_spec_l1Cur_pick]
      rw [if_neg (by simpa using h1), cur_eta, n1]
      simp only [Option.bind_some]
      rw [if_pos (by simpa using h2), cur_eta, m1]
      simp only [Option.bind_some, Sum.elim_inl]
      rw [if_neg (by omega), hw]
    · refine ⟨Int.tmod x n, c', e_spec_l1Cur_pick _ _ ?_, Int.tmod_nonneg _ (by omega), .inl (Int.tmod_lt_of_pos _ (by omega)), n4.1, n4.2.1, by have := n4.2.2; omega⟩
      simp only [q_spec_l1Cur_pick]
      rw [if_neg (by simpa using h1), cur_eta, n1]
      simp only [Option.bind_some]
      rw [if_neg (by simpa using h2)]
      simp only [Option.bind_some, Sum.elim_inl]
      rw [if_neg (by omega)]

theorem p_one {code : List Int} (hb : isBytes code) {j : Int} (hj : j ≤ 100000000) {c : TCur} (hc : Cu code j c) (n : Int) (hn : n ≤ 1000000000) : ∃ x c', c_spec_l1Cur_one M c n = some ((x, ()), (c', ())) ∧ Cu code (j + 2) c' := by
  obtain ⟨x, c', n1, _, _, n4⟩ := p_pick hb hj hc n hn
  refine ⟨x == 0, c', e_spec_l1Cur_one _ _ ?_, n4⟩
  simp only [q_spec_l1Cur_one, cur_eta, n1, Option.bind_some]
theorem cu0 (code : List Int) : Cu code 0 (code, 0, 0, ()) := ⟨rfl, Int.le_refl _, Int.le_refl _⟩

end Go.Proofs.YtcjaikkdpclaaaaPu.Ev

/- Plain laws: that something is answered, and what holds of it. No condition. -/
namespace Go.Proofs.YtcjaikkdpclaaaaPu.Ev
open Go
set_option autoImplicit false
set_option linter.unusedVariables false
set_option linter.unusedSimpArgs false

/-- Something is answered, and this holds of it. -/
def Okk {α : Type} (P : α → Prop) (o : Option α) : Prop := ∃ x, o = some x ∧ P x
theorem Okk.pure {α : Type} {P : α → Prop} {x : α} (h : P x) : Okk P (some x) := ⟨x, rfl, h⟩
theorem Okk.bind {α β : Type} {P : α → Prop} {Q : β → Prop} {o : Option α} {f : α → Option β} (h : Okk P o) (k : ∀ x, P x → Okk Q (f x)) : Okk Q (o.bind f) := by
  obtain ⟨x, rfl, hx⟩ := h
  exact k x hx
theorem Okk.ite {α : Type} {P : α → Prop} {c : Prop} [Decidable c] {a b : Option α} (h : c → Okk P a) (k : ¬ c → Okk P b) : Okk P (if c then a else b) := by
  by_cases hc : c
  · rw [if_pos hc]; exact h hc
  · rw [if_neg hc]; exact k hc
theorem Okk.iteT {α : Type} {P : α → Prop} {c : Prop} [Decidable c] {a b : Option α} (hc : c) (h : Okk P a) : Okk P (if c then a else b) := by rw [if_pos hc]; exact h
theorem Okk.iteF {α : Type} {P : α → Prop} {c : Prop} [Decidable c] {a b : Option α} (hc : ¬ c) (h : Okk P b) : Okk P (if c then a else b) := by rw [if_neg hc]; exact h
theorem Okk.mono {α : Type} {P Q : α → Prop} {o : Option α} (h : Okk P o) (k : ∀ x, P x → Q x) : Okk Q o := by
  obtain ⟨x, hx, p⟩ := h
  exact ⟨x, hx, k x p⟩
theorem Okk.lift {α : Type} {P : α → Prop} {o c : Option α} (h : Okk P o) (k : ∀ {r}, o = some r → c = some r) : Okk P c := by
  obtain ⟨x, hx, p⟩ := h
  exact ⟨x, k hx, p⟩
theorem Okk.idx {α : Type} {l : List α} {i : Int} (h : 0 ≤ i) (k : i < l.length) : Okk (fun x => x ∈ l) (idx l i) := by
  obtain ⟨m, rfl⟩ : ∃ m : Nat, i = (m : Int) := ⟨i.toNat, by omega⟩
  have hm : m < l.length := by omega
  exact ⟨l[m], idx_lt hm, List.getElem_mem hm⟩
theorem Okk.get {α : Type} {l : List α} {i : Nat} (k : i < l.length) : Okk (fun x => x ∈ l) (l[i]?) := ⟨l[i], by simp [k], List.getElem_mem k⟩

theorem Cu.mono {code : List Int} {i j : Int} {c : TCur} (h : Cu code i c) (k : i ≤ j) : Cu code j c := ⟨h.1, h.2.1, by have := h.2.2; omega⟩
section
variable {code : List Int} (hb : isBytes code) {j : Int} {c : TCur} (hc : Cu code j c)
include hb hc
theorem d_next (hj : j ≤ 1000000000) : Okk (fun r => 0 ≤ r.1.1 ∧ r.1.1 ≤ 255 ∧ Cu code (j + 1) r.2.1) (c_spec_l1Cur_next M c) := by
  obtain ⟨x, c', h, h1, h2, h3⟩ := p_next hb hj hc
  exact ⟨_, h, h1, h2, h3⟩
theorem d_pick (n : Int) (hj : j ≤ 100000000) (hn : n ≤ 1000000000) : Okk (fun r => 0 ≤ r.1.1 ∧ (r.1.1 < n ∨ r.1.1 = 0) ∧ Cu code (j + 2) r.2.1) (c_spec_l1Cur_pick M c n) := by
  obtain ⟨x, c', h, h1, h2, h3⟩ := p_pick hb hj hc n hn
  exact ⟨_, h, h1, h2, h3⟩
theorem d_one (n : Int) (hj : j ≤ 100000000) (hn : n ≤ 1000000000) : Okk (fun r => Cu code (j + 2) r.2.1) (c_spec_l1Cur_one M c n) := by
  obtain ⟨x, c', h, h1⟩ := p_one hb hj hc n hn
  exact ⟨_, h, h1⟩
end

end Go.Proofs.YtcjaikkdpclaaaaPu.Ev

/- Plain laws: signatures and terms that are drawn are answered, and small. No condition but sizes. -/
namespace Go.Proofs.YtcjaikkdpclaaaaPu.Ev
open Go
set_option autoImplicit false
set_option linter.unusedVariables false
set_option linter.unusedSimpArgs false

/-- A signature as it is drawn. -/
def SgD (a : List Int) : Prop := a.length ≤ 10 ∧ ∀ x ∈ a, 0 ≤ x ∧ x ≤ 3
theorem dec64 {x : Int} (h : -9223372036854775807 ≤ x) (k : x < 9223372036854775808) : IntKind.i64.wrap (x - 1) = x - 1 := w64 (by omega) (by omega)
section
variable {code : List Int} (hb : isBytes code)
include hb
theorem d_sign {j : Int} (hj : j ≤ 1000000) {c : TCur} (hc : Cu code j c) : Okk (fun r => SgD r.1.1.1 ∧ Cu code (j + 2) r.2.1) (c_spec_l1Cur_sign M c) := by
  refine Okk.lift ?_ (e_spec_l1Cur_sign c)
  simp only [q_spec_l1Cur_sign]
  refine Okk.bind (P := fun y => ∃ c' a, y = .inl (c', ([], ()), (a, ()), ()) ∧ SgD a ∧ Cu code (j + 2) c') ?_ ?_
  · refine Okk.bind (d_pick hb hc 40 (by omega) (by omega)) ?_
    rintro ⟨⟨x, ⟨⟩⟩, ⟨c', ⟨⟩⟩⟩ ⟨_, _, h⟩
    refine Okk.ite (fun _ => .pure ⟨c', _, rfl, by simp [SgD], h⟩) fun _ => Okk.ite (fun _ => .pure ⟨c', _, rfl, by simp [SgD], h⟩) fun _ => Okk.ite (fun _ => .pure ⟨c', _, rfl, by simp [SgD], h⟩) fun _ => .pure ⟨c', _, rfl, by simp [SgD], h⟩
  · rintro _ ⟨c', a, rfl, h1, h2⟩
    exact .pure ⟨h1, h2⟩

theorem d_term_step {a : List Int} (ha : SgD a) (vars : Int) (hv : vars ≤ 1000) (deep : Int) {j : Int} (hj : j ≤ 1000000) {c : TCur} (hc : Cu code j c) (N : Nat) (hN : 1 ≤ N) (K : Int) (hK : j + 6 ≤ K)
    (hL : 1 < deep → ∀ (n v : Int) (c4 : TCur), 0 ≤ v → v ≤ 3 → Cu code (j + 6) c4 → Okk (fun y => ∃ (c5 : TCur) (t : List Int), y = .inl (c5, t, ()) ∧ 0 < t.length ∧ t.length ≤ N ∧ Cu code K c5) (l_spec_l1Cur_term_2042 M c4 deep vars (a, ()) [n] v)) :
    Okk (fun r => r.1.1.length ≤ N ∧ 0 < r.1.1.length ∧ Cu code K r.2.1) (c_spec_l1Cur_term M c (a, ()) deep vars) := by
  refine Okk.lift ?_ (e_spec_l1Cur_term c (a, ()) deep vars)
  simp only [q_spec_l1Cur_term, cur_eta]
  have hal := ha.1
  refine Okk.ite (fun _ => .pure ⟨hN, by simp, hc.mono (by omega)⟩) fun h0 => ?_
  have hpos : 0 < a.length := by simp at h0; exact List.length_pos_iff.2 h0
  have A : ∀ (x : Int) (c3 : TCur), 0 ≤ x → (x < (a.length : Int) ∨ x = 0) → Cu code (j + 4) c3 → Okk (fun y => ∃ (c4 : TCur) (n : Int), y = .inl (c4, deep, vars, (a, ()), n, ()) ∧ 0 ≤ n ∧ n < a.length ∧ Cu code (j + 6) c4) ((((idx a x).bind fun x5 => (if (decide (x5 > (0 : Int))) = true then (if (decide (deep ≤ (1 : Int))) = true then ((c_spec_l1Cur_pick M c3 (List.length a : Int)).bind fun r6 => (if (2 : Int) = 0 then none else (some (.inl ((r6.2.1.1, r6.2.1.2.1, r6.2.1.2.2.1, ()), deep, vars, (a, ()), (IntKind.i64.wrap (Int.tdiv r6.1.1 (2 : Int))), ()))))) else (some (.inl (c3, deep, vars, (a, ()), x, ())))) else (some (.inl (c3, deep, vars, (a, ()), x, ()))))) : Option ((((List Int) × Int × Int × Unit) × Int × Int × ((List Int) × Unit) × Int × Unit) ⊕ ((List Int) × Unit) × (((List Int) × Int × Int × Unit) × Unit)))) := by
    intro x c3 hx0 hx1 hc3
    refine Okk.bind (Okk.idx hx0 (by omega)) fun y hy => ?_
    refine Okk.ite (fun _ => Okk.ite (fun _ => ?_) fun _ => .pure ⟨c3, x, rfl, hx0, by omega, hc3.mono (by omega)⟩) fun _ => .pure ⟨c3, x, rfl, hx0, by omega, hc3.mono (by omega)⟩
    refine Okk.bind (d_pick hb hc3 _ (by omega) (by omega)) ?_
    rintro ⟨⟨z, ⟨⟩⟩, ⟨c4, ⟨⟩⟩⟩ ⟨h1, h2, h3⟩
    simp only at h1 h2 h3
    have h5 := Int.tdiv_nonneg h1 (show (0 : Int) ≤ 2 by omega)
    have h6 : Int.tdiv z 2 ≤ z := by rw [Int.tdiv_eq_ediv_of_nonneg h1]; omega
    refine Okk.iteF (by omega) (.pure ⟨c4, _, rfl, ?_, ?_, h3.mono (by omega)⟩)
    · simp only; rw [w64 (by omega) (by omega)]; exact h5
    · simp only; rw [w64 (by omega) (by omega)]; omega
  have B : ∀ (n : Int) (c4 : TCur), 0 ≤ n → n < (a.length : Int) → Cu code (j + 6) c4 → Okk (fun r : ((List Int) × Unit) × (TCur × Unit) => r.1.1.length ≤ N ∧ 0 < r.1.1.length ∧ Cu code K r.2.1) ((idx a n).bind fun x7 => (if (decide (x7 > (0 : Int))) = true then (if (decide (deep ≤ (1 : Int))) = true then (some ((([(0 : Int)] : List Int), ()), (c4, ()))) else ((idx a n).bind fun x8 => ((l_spec_l1Cur_term_2042 M c4 deep vars (a, ()) ([n] : List Int) x8).bind (Sum.elim (fun y9 => (some ((y9.2.1, ()), ((y9.1.1, y9.1.2.1, y9.1.2.2.1, ()), ())))) (fun r10 => (some r10)))))) else ((idx a n).bind fun x11 => ((l_spec_l1Cur_term_2042 M c4 deep vars (a, ()) ([n] : List Int) x11).bind (Sum.elim (fun y12 => (some ((y12.2.1, ()), ((y12.1.1, y12.1.2.1, y12.1.2.2.1, ()), ())))) (fun r13 => (some r13))))))) := by
    intro n c4 hn0 hn1 hc4
    obtain ⟨v, hv1, hv2⟩ := Okk.idx (l := a) hn0 hn1
    rw [hv1]
    simp only [Option.bind_some]
    have := ha.2 v hv2
    refine Okk.ite (fun hv3 => ?_) fun hv3 => ?_
    · refine Okk.ite (fun _ => .pure ⟨hN, by simp, hc4.mono (by omega)⟩) fun hd => ?_
      refine Okk.bind (hL (by simp at hd; omega) n v c4 (by omega) (by omega) hc4) ?_
      rintro _ ⟨c5, t, rfl, t1, t2, t3⟩
      exact .pure ⟨t2, t1, t3⟩
    · obtain rfl : v = 0 := by simp at hv3; omega
      have hl : l_spec_l1Cur_term_2042 M c4 deep vars (a, ()) [n] 0 = some (.inl (c4, [n], ())) := by
        apply el_spec_l1Cur_term_2042
        simp [ql_spec_l1Cur_term_2042, cur_eta]
      rw [hl]
      exact .pure ⟨hN, by simp, hc4.mono (by omega)⟩
  refine Okk.ite (fun _ => ?_) fun _ => ?_
  · refine Okk.bind (d_one hb hc 3 (by omega) (by omega)) ?_
    rintro ⟨⟨x, ⟨⟩⟩, ⟨c2, ⟨⟩⟩⟩ h2
    refine Okk.ite (fun _ => ?_) fun _ => ?_
    · refine Okk.bind (d_pick hb h2 vars (by omega) (by omega)) ?_
      rintro ⟨⟨y, ⟨⟩⟩, ⟨c3, ⟨⟩⟩⟩ ⟨_, _, h3⟩
      exact .pure ⟨hN, by simp, h3.mono (by omega)⟩
    · refine Okk.bind (d_pick hb h2 _ (by omega) (by omega)) ?_
      rintro ⟨⟨y, ⟨⟩⟩, ⟨c3, ⟨⟩⟩⟩ ⟨g1, g2, h3⟩
      refine Okk.bind (A y c3 g1 g2 (h3.mono (by omega))) ?_
      rintro _ ⟨c4, n, rfl, k1, k2, k3⟩
      exact B n c4 k1 k2 k3
  · refine Okk.bind (d_pick hb hc _ (by omega) (by omega)) ?_
    rintro ⟨⟨y, ⟨⟩⟩, ⟨c3, ⟨⟩⟩⟩ ⟨g1, g2, h3⟩
    refine Okk.bind (A y c3 g1 g2 (h3.mono (by omega))) ?_
    rintro _ ⟨c4, n, rfl, k1, k2, k3⟩
    exact B n c4 k1 k2 k3

/-- How many numbers a term of some levels takes at most, and how many draws. -/
def dl : Nat → Nat
  | 0 => 1
  | d + 1 => 1 + 3 * dl d
def dk : Nat → Int
  | 0 => 6
  | d + 1 => 6 + 3 * dk d
omit hb in
theorem dl_pos (d : Nat) : 1 ≤ dl d := by cases d <;> simp [dl]
omit hb in
theorem dk_pos (d : Nat) : 6 ≤ dk d := by
  induction d with
  | zero => simp [dk]
  | succ d ih => simp [dk]; omega
theorem d_term {a : List Int} (ha : SgD a) (vars : Int) (hv : vars ≤ 1000) : ∀ (d : Nat) (deep : Int) (j : Int) (c : TCur), deep ≤ (d : Int) + 1 → d ≤ 5 → j + dk d ≤ 200000 → Cu code j c → Okk (fun r => r.1.1.length ≤ dl d ∧ 0 < r.1.1.length ∧ Cu code (j + dk d) r.2.1) (c_spec_l1Cur_term M c (a, ()) deep vars) := by
  intro d
  induction d with
  | zero =>
    intro deep j c hd _ hj hc
    simp only [dk] at hj
    exact d_term_step hb ha vars hv deep (by omega) hc 1 (by omega) (j + 6) (by omega) (fun h => by omega)
  | succ d ih =>
    intro deep j c hd hd5 hj hc
    have hdl : dl d ≤ 1000 := by
      have : d ≤ 4 := by omega
      rcases d with _ | _ | _ | _ | _ | d <;> first | (simp [dl]; done) | omega
    have hdk : dk d ≤ 10000 := by
      rcases d with _ | _ | _ | _ | _ | d <;> first | (simp [dk]; done) | omega
    have hp := dk_pos d
    simp only [dk] at hj
    have loop : 1 < deep → ∀ (k : Nat) (out : List Int) (j' : Int) (c4 : TCur), k ≤ 3 → 0 < out.length → out.length + k * dl d ≤ 10000 → j' + k * dk d ≤ j + 6 + 3 * dk d → Cu code j' c4 → Okk (fun y => ∃ (c5 : TCur) (t : List Int), y = .inl (c5, t, ()) ∧ 0 < t.length ∧ t.length ≤ out.length + k * dl d ∧ Cu code (j' + k * dk d) c5) (l_spec_l1Cur_term_2042 M c4 deep vars (a, ()) out (k : Int)) := by
      intro hdeep k
      induction k with
      | zero =>
        intro out j' c4 _ h0 _ _ hc4
        refine Okk.lift ?_ (el_spec_l1Cur_term_2042 _ _ _ _ _ _)
        simp only [ql_spec_l1Cur_term_2042, cur_eta]
        refine Okk.iteF (by simp) (.pure ⟨c4, out, rfl, h0, by omega, hc4.mono (by simp)⟩)
      | succ k ihk =>
        intro out j' c4 hk h0 ho hj2 hc4
        have e1 : ((k + 1 : Nat) : Int) * dk d = k * dk d + dk d := by rw [Int.natCast_add, Int.add_mul]; simp
        have e2 : (k + 1) * dl d = k * dl d + dl d := by rw [Nat.add_mul]; simp
        have e3 : 0 ≤ (k : Int) * dk d := Int.mul_nonneg (by omega) (by omega)
        rw [e1] at hj2
        rw [e2] at ho
        refine Okk.lift ?_ (el_spec_l1Cur_term_2042 _ _ _ _ _ _)
        simp only [ql_spec_l1Cur_term_2042, cur_eta]
        refine Okk.iteT (by simp <;> omega) ?_
        rw [dec64 (x := deep) (by omega) (by omega), dec64 (x := ((k + 1 : Nat) : Int)) (by omega) (by omega), show ((k + 1 : Nat) : Int) - 1 = (k : Int) by omega]
        refine Okk.bind (ih (deep - 1) j' c4 (by omega) (by omega) (by omega) hc4) ?_
        rintro ⟨⟨t, ⟨⟩⟩, ⟨c5, ⟨⟩⟩⟩ ⟨g1, g2, g3⟩
        simp only at g1 g2 g3
        refine Okk.iteT (by simp only; omega) ?_
        refine Okk.mono (ihk (out ++ t) (j' + dk d) c5 (by omega) (by simp; omega) (by rw [List.length_append]; omega) (by omega) g3) ?_
        rintro _ ⟨c6, t', rfl, h1, h2, h3⟩
        refine ⟨c6, t', rfl, h1, ?_, h3.mono (by rw [e1]; omega)⟩
        rw [List.length_append] at h2
        rw [e2]; omega
    refine d_term_step hb ha vars hv deep (by omega) hc (dl (d + 1)) (dl_pos _) (j + dk (d + 1)) (by simp only [dk]; omega) ?_
    intro hdeep n v c4 hv0 hv3 hc4
    obtain ⟨k, rfl⟩ : ∃ m : Nat, v = (m : Int) := ⟨v.toNat, by omega⟩
    have e4 : (k : Int) * dk d ≤ 3 * dk d := Int.mul_le_mul_of_nonneg_right (by omega) (by omega)
    have e5 : k * dl d ≤ 3 * dl d := Nat.mul_le_mul_right _ (by omega)
    refine Okk.mono (loop hdeep k [n] (j + 6) c4 (by omega) (by simp) (by simp only [List.length_cons, List.length_nil]; omega) (by omega) hc4) ?_
    rintro _ ⟨c6, t', rfl, h1, h2, h3⟩
    refine ⟨c6, t', rfl, h1, ?_, h3.mono (by simp only [dk]; omega)⟩
    simp only [List.length_cons, List.length_nil] at h2
    simp only [dl]; omega

end
end Go.Proofs.YtcjaikkdpclaaaaPu.Ev

/- Plain laws: the laws' comparing of lists; whether bytes are too many. No condition but sizes. -/
namespace Go.Proofs.YtcjaikkdpclaaaaPu.Ev
open Go
set_option autoImplicit false
set_option linter.unusedVariables false
set_option linter.unusedSimpArgs false

theorem p_sameInts_loop (a : List Int) (ha : a.length ≤ 17592186044416) : ∀ k i : Nat, i + k = a.length → l_laws_sameInts_58 M a a a.length i = some (.inl ()) := by
  intro k
  induction k with
  | zero =>
    intro i hi
    apply el_laws_sameInts_58
    simp only [ql_laws_sameInts_58]
    rw [if_neg (by simp; omega)]
  | succ k ih =>
    intro i hi
    have h1 : i < a.length := by omega
    apply el_laws_sameInts_58
    simp only [ql_laws_sameInts_58]
    rw [if_pos (by simpa using h1), idx_lt h1, inc_nat (by omega)]
    simp only [Option.bind_some]
    rw [if_neg (by simp)]
    exact ih (i + 1) (by omega)
theorem p_sameInts (a : List Int) (ha : a.length ≤ 17592186044416) : c_laws_sameInts M a a = some ((true, ()), ()) := by
  apply e_laws_sameInts
  simp only [q_laws_sameInts]
  have := p_sameInts_loop a ha a.length 0 (by omega)
  rw [show ((0 : Nat) : Int) = 0 from rfl] at this
  rw [if_neg (by simp), this]
  rfl
/-- Whether bytes are too many. -/
theorem p_big (a b : List Int) (la : a.length ≤ 9223372036854775807) (lb : b.length ≤ 9223372036854775807) : c_laws_big M a b = some ((decide (1048576 < a.length) || decide (1048576 - (a.length : Int) < b.length), ()), ()) := by
  apply e_laws_big
  simp only [q_laws_big]
  by_cases h : 1048576 < a.length
  · rw [if_pos (by simp; omega)]; simp [h]
  · rw [if_neg (by simp; omega), w64 (by omega) (by omega)]; simp [h]
end Go.Proofs.YtcjaikkdpclaaaaPu.Ev

/- Plain laws: the laws' comparing of terms. No condition but sizes. -/
namespace Go.Proofs.YtcjaikkdpclaaaaPu.Ev
open Go
set_option autoImplicit false
set_option linter.unusedVariables false
set_option linter.unusedSimpArgs false

theorem p_sameTerm (a : List Int) (ha : a.length ≤ 17592186044416) : c_laws_sameTerm M a a = some ((true, ()), ()) := by
  apply e_laws_sameTerm
  simp only [q_laws_sameTerm, p_sameInts a ha, Option.bind_some]
end Go.Proofs.YtcjaikkdpclaaaaPu.Ev

/- Plain laws: nodes of formulas. Definitions. -/
namespace Go.Proofs.YtcjaikkdpclaaaaPu.Ev
open Go
set_option autoImplicit false
set_option linter.unusedVariables false
set_option linter.unusedSimpArgs false

abbrev TForm := Int × Int × List Int × List Int × Unit

theorem form_eta (x : TForm) : (x.1, x.2.1, x.2.2.1, x.2.2.2.1, ()) = x := rfl

/-- Lists of no more than 2^20 numbers. -/
def smF (x : TForm) : Prop := x.2.2.1.length ≤ 1048576 ∧ x.2.2.2.1.length ≤ 1048576
end Go.Proofs.YtcjaikkdpclaaaaPu.Ev

/- Plain laws: formulas that are drawn. No condition but that bytes are bytes. -/
namespace Go.Proofs.YtcjaikkdpclaaaaPu.Ev
open Go
set_option autoImplicit false
set_option linter.unusedVariables false
set_option linter.unusedSimpArgs false

theorem p_sameForm_loop (a : List TForm) (ha : a.length ≤ 1048576) (hx : ∀ x ∈ a, smF x) : ∀ k i : Nat, i + k = a.length → l_laws_sameForm_58 M a a a.length i = some (.inl ()) := by
  intro k
  induction k with
  | zero =>
    intro i hi
    apply el_laws_sameForm_58
    simp only [ql_laws_sameForm_58]
    rw [if_neg (by simp; omega)]
  | succ k ih =>
    intro i hi
    have h1 : i < a.length := by omega
    have h2 := hx _ (List.getElem_mem h1)
    have h3 := h2.1
    have h4 := h2.2
    apply el_laws_sameForm_58
    simp only [ql_laws_sameForm_58]
    rw [if_pos (by simpa using h1), idx_lt h1, inc_nat (by omega)]
    simp only [Option.bind_some]
    rw [if_neg (by simp), if_neg (by simp), p_sameTerm _ (by omega)]
    simp only [Option.bind_some]
    rw [if_neg (by simp), p_sameTerm _ (by omega)]
    simp only [Option.bind_some]
    rw [if_neg (by simp)]
    exact ih (i + 1) (by omega)
theorem p_sameForm (a : List TForm) (ha : a.length ≤ 1048576) (hx : ∀ x ∈ a, smF x) : c_laws_sameForm M a a = some ((true, ()), ()) := by
  apply e_laws_sameForm
  simp only [q_laws_sameForm]
  have := p_sameForm_loop a ha hx a.length 0 (by omega)
  rw [show ((0 : Nat) : Int) = 0 from rfl] at this
  rw [if_neg (by simp), this]
  rfl

/-- How many nodes a formula of some levels has at most, and how many draws. -/
def fl : Nat → Nat
  | 0 => 1
  | d + 1 => 1 + 2 * fl d
def fk : Nat → Int
  | 0 => 40
  | d + 1 => 40 + 2 * fk d
theorem fl_le : ∀ d : Nat, d ≤ 5 → fl d ≤ 100 := by
  intro d h
  rcases d with _ | _ | _ | _ | _ | _ | d <;> first | (simp [fl]; done) | omega
theorem fk_le : ∀ d : Nat, d ≤ 5 → fk d ≤ 5000 := by
  intro d h
  rcases d with _ | _ | _ | _ | _ | _ | d <;> first | (simp [fk]; done) | omega
theorem fk_pos (d : Nat) : 40 ≤ fk d := by
  induction d with
  | zero => simp [fk]
  | succ d ih => simp [fk]; omega
theorem fl_pos (d : Nat) : 1 ≤ fl d := by cases d <;> simp [fl]
theorem smF_nil (x v : Int) : smF (x, v, [], [], ()) := by simp [smF]
theorem smF_add {a : List TForm} {x : TForm} (h : ∀ y ∈ a, smF y) (hx : smF x) : ∀ y ∈ a ++ [x], smF y := by
  intro y hy
  rcases List.mem_append.1 hy with h1 | h1
  · exact h y h1
  · rw [List.mem_singleton.1 h1]; exact hx

section
variable {code : List Int} (hb : isBytes code)
include hb
/-- An equation. -/
theorem d_eqn {a : List Int} (ha : SgD a) (vars : Int) (hv : vars ≤ 1000) {j : Int} (hj : j ≤ 100000) {c : TCur} (hc : Cu code j c) (N : Nat) (hN : 1 ≤ N) (K : Int) (hK : j + 36 ≤ K) :
    Okk (fun r : (List TForm × Unit) × (TCur × Unit) => 0 < r.1.1.length ∧ r.1.1.length ≤ N ∧ (∀ x ∈ r.1.1, smF x) ∧ Cu code K r.2.1) ((c_spec_l1Cur_pick M c (2 : Int)).bind fun r1 => ((c_spec_l1Cur_term M (r1.2.1.1, r1.2.1.2.1, r1.2.1.2.2.1, ()) (a, ()) (IntKind.i64.wrap ((1 : Int) + r1.1.1)) vars).bind fun r2 => ((c_spec_l1Cur_term M (r2.2.1.1, r2.2.1.2.1, r2.2.1.2.2.1, ()) (a, ()) (1 : Int) vars).bind fun r3 => (some ((([((1 : Int), (0 : Int), r2.1.1, r3.1.1, ())] : List (Int × Int × (List Int) × (List Int) × Unit)), ()), ((r3.2.1.1, r3.2.1.2.1, r3.2.1.2.2.1, ()), ())))))) := by
  refine Okk.bind (d_pick hb hc 2 (by omega) (by omega)) ?_
  rintro ⟨⟨x, ⟨⟩⟩, ⟨c1, ⟨⟩⟩⟩ ⟨h1, h2, h3⟩
  simp only [cur_eta] at h1 h2 h3 ⊢
  rw [w64 (x := 1 + x) (by omega) (by omega)]
  refine Okk.bind (d_term hb ha vars hv 1 (1 + x) (j + 2) c1 (by omega) (by omega) (by simp [dk]; omega) h3) ?_
  rintro ⟨⟨t, ⟨⟩⟩, ⟨c2, ⟨⟩⟩⟩ ⟨g1, g2, g3⟩
  simp only [dl, dk] at g1 g2 g3 ⊢
  refine Okk.bind (d_term hb ha vars hv 0 1 _ c2 (by omega) (by omega) (by simp [dk]; omega) g3) ?_
  rintro ⟨⟨u, ⟨⟩⟩, ⟨c3, ⟨⟩⟩⟩ ⟨k1, k2, k3⟩
  simp only [dl, dk] at k1 k2 k3
  refine .pure ⟨by simp, by simpa using hN, ?_, k3.mono (by omega)⟩
  intro y hy
  rw [List.mem_singleton.1 hy]
  exact ⟨by simp only; omega, by simp only; omega⟩
theorem d_form {a : List Int} (ha : SgD a) : ∀ (d : Nat) (deep vars j : Int) (c : TCur), 0 ≤ deep → deep ≤ (d : Int) → d ≤ 5 → 0 ≤ vars → vars ≤ 1000 → j + fk d ≤ 90000 → Cu code j c → Okk (fun r => 0 < r.1.1.length ∧ r.1.1.length ≤ fl d ∧ (∀ x ∈ r.1.1, smF x) ∧ Cu code (j + fk d) r.2.1) (c_spec_l1Cur_form M c (a, ()) deep vars) := by
  intro d
  induction d with
  | zero =>
    intro deep vars j c h0 h1 _ v0 v1 hj hc
    simp only [fk] at hj
    refine Okk.lift ?_ (e_spec_l1Cur_form c (a, ()) deep vars)
    simp only [q_spec_l1Cur_form, cur_eta]
    refine Okk.iteT (by simp; omega) ?_
    exact d_eqn hb ha vars v1 (by omega) hc (fl 0) (by simp [fl]) (j + fk 0) (by simp [fk])
  | succ d ih =>
    intro deep vars j c h0 h1 h5 v0 v1 hj hc
    have l1 := fl_le d (by omega)
    have l2 := fk_le d (by omega)
    have l3 := fk_pos d
    have l4 := fl_pos d
    simp only [fk] at hj
    refine Okk.lift ?_ (e_spec_l1Cur_form c (a, ()) deep vars)
    simp only [q_spec_l1Cur_form, cur_eta]
    refine Okk.ite (fun _ => ?_) fun hd => ?_
    · exact d_eqn hb ha vars v1 (by omega) hc (fl (d + 1)) (fl_pos _) (j + fk (d + 1)) (by simp [fk]; omega)
    have hd1 : 1 ≤ deep := by simp at hd; omega
    refine Okk.bind (d_one hb hc 5 (by omega) (by omega)) ?_
    rintro ⟨⟨b, ⟨⟩⟩, ⟨c1, ⟨⟩⟩⟩ g1
    simp only at g1 ⊢
    refine Okk.ite (fun _ => ?_) fun _ => ?_
    · exact d_eqn hb ha vars v1 (by omega) g1 (fl (d + 1)) (fl_pos _) (j + fk (d + 1)) (by simp [fk]; omega)
    refine Okk.bind (d_pick hb g1 6 (by omega) (by omega)) ?_
    rintro ⟨⟨x, ⟨⟩⟩, ⟨c2, ⟨⟩⟩⟩ ⟨x1, x2, g2⟩
    simp only at x1 x2 g2 ⊢
    rw [dec64 (by omega) (by omega)]
    have one : ∀ (w : Int), 0 ≤ w → w ≤ 1000 → Okk (fun r => 0 < r.1.1.length ∧ r.1.1.length ≤ fl d ∧ (∀ x ∈ r.1.1, smF x) ∧ Cu code (j + 4 + fk d) r.2.1) (c_spec_l1Cur_form M c2 (a, ()) (deep - 1) w) := fun w w0 w1 =>
      ih (deep - 1) w (j + 4) c2 (by omega) (by omega) (by omega) w0 w1 (by omega) (g2.mono (by omega))
    have two : ∀ (c3 : TCur), Cu code (j + 4 + fk d) c3 → Okk (fun r => 0 < r.1.1.length ∧ r.1.1.length ≤ fl d ∧ (∀ x ∈ r.1.1, smF x) ∧ Cu code (j + 4 + fk d + fk d) r.2.1) (c_spec_l1Cur_form M c3 (a, ()) (deep - 1) vars) := fun c3 h3 =>
      ih (deep - 1) vars (j + 4 + fk d) c3 (by omega) (by omega) (by omega) v0 v1 (by omega) h3
    have bin : ∀ (op : Int), Okk (fun r : (List TForm × Unit) × (TCur × Unit) => 0 < r.1.1.length ∧ r.1.1.length ≤ fl (d + 1) ∧ (∀ x ∈ r.1.1, smF x) ∧ Cu code (j + fk (d + 1)) r.2.1) ((c_spec_l1Cur_form M c2 (a, ()) (deep - 1) vars).bind fun r10 => ((c_spec_l1Cur_form M (r10.2.1.1, r10.2.1.2.1, r10.2.1.2.2.1, ()) (a, ()) (deep - 1) vars).bind fun r11 => (if (List.length r10.1.1 + List.length r11.1.1) * 64 ≤ 140737488355328 then (if (List.length (r10.1.1 ++ r11.1.1) + List.length ([(op, (0 : Int), [], [], ())] : List (Int × Int × (List Int) × (List Int) × Unit))) * 64 ≤ 140737488355328 then (some ((((r10.1.1 ++ r11.1.1) ++ ([(op, (0 : Int), [], [], ())] : List (Int × Int × (List Int) × (List Int) × Unit))), ()), ((r11.2.1.1, r11.2.1.2.1, r11.2.1.2.2.1, ()), ()))) else none) else none))) := by
      intro op
      refine Okk.bind (one vars v0 v1) ?_
      rintro ⟨⟨g, ⟨⟩⟩, ⟨c3, ⟨⟩⟩⟩ ⟨e1, e2, e3, e4⟩
      simp only [cur_eta] at e1 e2 e3 e4 ⊢
      refine Okk.bind (two c3 e4) ?_
      rintro ⟨⟨h, ⟨⟩⟩, ⟨c4, ⟨⟩⟩⟩ ⟨k1, k2, k3, k4⟩
      simp only [cur_eta] at k1 k2 k3 k4 ⊢
      refine Okk.iteT (by omega) (Okk.iteT (by simp; omega) (.pure ⟨by simp only [List.length_append, List.length_singleton]; omega, by simp only [List.length_append, List.length_singleton, fl]; omega, ?_, k4.mono (by simp only [fk]; omega)⟩))
      refine smF_add ?_ (smF_nil _ _)
      intro y hy
      rcases List.mem_append.1 hy with h1 | h1
      · exact e3 y h1
      · exact k3 y h1
    refine Okk.ite (fun _ => ?_) fun _ => Okk.ite (fun _ => bin 3) fun _ => Okk.ite (fun _ => bin 4) fun _ => Okk.ite (fun _ => ?_) fun _ => ?_
    · refine Okk.bind (one vars v0 v1) ?_
      rintro ⟨⟨g, ⟨⟩⟩, ⟨c3, ⟨⟩⟩⟩ ⟨e1, e2, e3, e4⟩
      simp only [cur_eta] at e1 e2 e3 e4 ⊢
      exact Okk.iteT (by simp; omega) (.pure ⟨by simp only [List.length_append, List.length_singleton]; omega, by simp only [List.length_append, List.length_singleton, fl]; omega, smF_add e3 (smF_nil _ _), e4.mono (by simp only [fk]; omega)⟩)
    · refine Okk.bind (P := fun r => 0 ≤ r.1.1 ∧ r.1.1 ≤ 1000) (Okk.lift ?_ (e_spec_l1Most vars 1)) ?_
      · simp only [q_spec_l1Most]
        exact Okk.ite (fun _ => .pure ⟨v0, v1⟩) fun _ => .pure ⟨by simp, by simp⟩
      rintro ⟨⟨w, ⟨⟩⟩, ⟨⟩⟩ ⟨w0, w1⟩
      simp only at w0 w1 ⊢
      refine Okk.bind (one w w0 w1) ?_
      rintro ⟨⟨g, ⟨⟩⟩, ⟨c3, ⟨⟩⟩⟩ ⟨e1, e2, e3, e4⟩
      simp only [cur_eta] at e1 e2 e3 e4 ⊢
      exact Okk.iteT (by simp; omega) (.pure ⟨by simp only [List.length_append, List.length_singleton]; omega, by simp only [List.length_append, List.length_singleton, fl]; omega, smF_add e3 (smF_nil _ _), e4.mono (by simp only [fk]; omega)⟩)
    · refine Okk.bind (P := fun r => 0 ≤ r.1.1 ∧ r.1.1 ≤ 3) (Okk.lift ?_ (e_spec_l1Least vars 3)) ?_
      · simp only [q_spec_l1Least]
        exact Okk.ite (fun h => .pure ⟨v0, by simp at h; simp only; omega⟩) fun _ => .pure ⟨by simp, by simp⟩
      rintro ⟨⟨w, ⟨⟩⟩, ⟨⟩⟩ ⟨w0, w1⟩
      simp only at w0 w1 ⊢
      rw [w64 (x := w + 1) (by omega) (by omega)]
      refine Okk.bind (one (w + 1) (by omega) (by omega)) ?_
      rintro ⟨⟨g, ⟨⟩⟩, ⟨c3, ⟨⟩⟩⟩ ⟨e1, e2, e3, e4⟩
      simp only [cur_eta] at e1 e2 e3 e4 ⊢
      refine Okk.bind (d_pick hb e4 2 (by omega) (by omega)) ?_
      rintro ⟨⟨y, ⟨⟩⟩, ⟨c4, ⟨⟩⟩⟩ ⟨_, _, k4⟩
      simp only [cur_eta] at k4 ⊢
      exact Okk.iteT (by simp; omega) (.pure ⟨by simp only [List.length_append, List.length_singleton]; omega, by simp only [List.length_append, List.length_singleton, fl]; omega, smF_add e3 (smF_nil _ _), k4.mono (by simp only [fk]; omega)⟩)
theorem d_anyForm {a : List Int} (ha : SgD a) {j : Int} (hj : j ≤ 5000) {c : TCur} (hc : Cu code j c) : Okk (fun r => r.1.1.length ≤ 100 ∧ (∀ x ∈ r.1.1, smF x) ∧ Cu code (j + 10000) r.2.1) (c_spec_l1Cur_anyForm M c (a, ())) := by
  refine Okk.lift ?_ (e_spec_l1Cur_anyForm c (a, ()))
  simp only [q_spec_l1Cur_anyForm, cur_eta]
  refine Okk.bind (d_pick hb hc 4 (by omega) (by omega)) ?_
  rintro ⟨⟨x, ⟨⟩⟩, ⟨c1, ⟨⟩⟩⟩ ⟨h1, h2, h3⟩
  simp only at h1 h2 h3 ⊢
  refine Okk.bind (d_pick hb h3 12 (by omega) (by omega)) ?_
  rintro ⟨⟨w, ⟨⟩⟩, ⟨c2, ⟨⟩⟩⟩ ⟨w1, w2, w3⟩
  simp only at w1 w2 w3 ⊢
  have hw0 := Int.tdiv_nonneg w1 (show (0 : Int) ≤ 10 by omega)
  have hw1 : Int.tdiv w 10 ≤ w := by rw [Int.tdiv_eq_ediv_of_nonneg w1]; omega
  refine Okk.iteF (by omega) ?_
  rw [w64 (x := 1 + x) (by omega) (by omega), w64 (x := Int.tdiv w 10) (by omega) (by omega)]
  have := fk_le 4 (by omega)
  have := fl_le 4 (by omega)
  refine Okk.bind (d_form hb ha 4 (1 + x) (Int.tdiv w 10) (j + 2 + 2) c2 (by omega) (by omega) (by omega) hw0 (by omega) (by omega) w3) ?_
  rintro ⟨⟨f, ⟨⟩⟩, ⟨c3, ⟨⟩⟩⟩ ⟨g0, g1, g2, g3⟩
  simp only at g0 g1 g2 g3 ⊢
  refine Okk.bind (P := fun y => ∃ (c' : TCur) (u : List TForm), y = .inl (c', u, ()) ∧ u.length ≤ 100 ∧ (∀ x ∈ u, smF x) ∧ Cu code (j + 10000) c') ?_ ?_
  · refine Okk.bind (d_pick hb g3 40 (by omega) (by omega)) ?_
    rintro ⟨⟨y, ⟨⟩⟩, ⟨c4, ⟨⟩⟩⟩ ⟨_, _, k3⟩
    simp only at k3
    refine Okk.ite (fun _ => ?_) fun _ => Okk.ite (fun _ => ?_) fun _ => Okk.ite (fun _ => ?_) fun _ => ?_
    · refine Okk.iteT (by simp; omega) (.pure ⟨c4, _, rfl, by simp; omega, ?_, k3.mono (by omega)⟩)
      intro z hz
      exact g2 z (List.mem_of_mem_take (List.mem_of_mem_drop hz))
    · refine Okk.iteT (by omega) ?_
      refine Okk.bind (P := smF) ⟨f[0], by simp, g2 _ (List.getElem_mem _)⟩ fun z hz => ?_
      refine .pure ⟨c4, _, rfl, by simp; omega, ?_, k3.mono (by omega)⟩
      intro q hq
      rcases List.mem_or_eq_of_mem_set hq with h | rfl
      · exact g2 q h
      · exact hz
    · refine Okk.bind (d_pick hb k3 8 (by omega) (by omega)) ?_
      rintro ⟨⟨y, ⟨⟩⟩, ⟨c5, ⟨⟩⟩⟩ ⟨_, _, k5⟩
      simp only at k5 ⊢
      rw [dec64 (by omega) (by omega)]
      refine Okk.iteT (by omega) ?_
      have hlt : Int.toNat ((f.length : Int) - 1) < f.length := by omega
      refine Okk.bind (P := smF) ⟨f[Int.toNat ((f.length : Int) - 1)], by rw [List.getElem?_eq_getElem hlt], g2 _ (List.getElem_mem _)⟩ fun z hz => ?_
      refine .pure ⟨c5, _, rfl, by simp; omega, ?_, k5.mono (by omega)⟩
      intro q hq
      rcases List.mem_or_eq_of_mem_set hq with h | rfl
      · exact g2 q h
      · exact hz
    · exact .pure ⟨c4, f, rfl, by omega, g2, k3.mono (by omega)⟩
  · rintro _ ⟨c', u, rfl, k1, k2, k3⟩
    exact .pure ⟨k1, k2, k3⟩
theorem d_DrawGoodForm : Okk (fun r => SgD r.1.1.1 ∧ r.1.2.1.length ≤ 100 ∧ ∀ x ∈ r.1.2.1, smF x) (c_spec_DrawGoodForm M code) := by
  refine Okk.lift ?_ (e_spec_DrawGoodForm code)
  simp only [q_spec_DrawGoodForm]
  refine Okk.bind (d_sign hb (by omega) (cu0 code)) ?_
  rintro ⟨⟨⟨a, ⟨⟩⟩, ⟨⟩⟩, ⟨c1, ⟨⟩⟩⟩ ⟨h1, h2⟩
  refine Okk.bind (d_anyForm hb h1 (by omega) h2) ?_
  rintro ⟨⟨t, ⟨⟩⟩, ⟨c2, ⟨⟩⟩⟩ ⟨h3, h4, h5⟩
  exact .pure ⟨h1, h3, h4⟩
end
end Go.Proofs.YtcjaikkdpclaaaaPu.Ev

/- Plain laws: powers, elements and worlds, as both programs check them. No condition but sizes. -/
namespace Go.Proofs.YtcjaikkdpclaaaaPu.Ev
open Go
set_option autoImplicit false
set_option linter.unusedVariables false
set_option linter.unusedSimpArgs false

/-- A list of no more than 2^20 numbers. -/
def smS (x : List Int) : Prop := x.length ≤ 1048576
abbrev TWorld := Int × List (List Int) × Unit
theorem world_eta (x : TWorld) : (x.1, x.2.1, ()) = x := rfl

/-! ### Powers, elements, worlds -/
def pw (s : Int) : Nat → Int
  | 0 => 1
  | k + 1 => s * pw s k
theorem pw_pos {s : Int} (hs : 1 ≤ s) : ∀ k, 1 ≤ pw s k
  | 0 => Int.le_refl _
  | k + 1 => by
    have h := pw_pos hs k
    have : 1 * 1 ≤ s * pw s k := Int.mul_le_mul hs h (by omega) (by omega)
    simpa [pw] using this
theorem pw_le {s : Int} (h1 : 1 ≤ s) (h3 : s ≤ 3) {k : Nat} (hk : k ≤ 3) : pw s k ≤ 27 := by
  have hs : s = 1 ∨ s = 2 ∨ s = 3 := by omega
  have hk' : k = 0 ∨ k = 1 ∨ k = 2 ∨ k = 3 := by omega
  rcases hs with rfl | rfl | rfl <;> rcases hk' with rfl | rfl | rfl | rfl <;> decide

theorem mul_step {s n : Int} {k : Nat} (h1 : 1 ≤ s) (hn : 0 ≤ n) (hb : n * pw s (k + 1) ≤ 1000000) : 0 ≤ n * s ∧ n * s ≤ 1000000 ∧ (n * s) * pw s k ≤ 1000000 := by
  have hp := pw_pos h1 k
  have h0 : 0 ≤ n * s := Int.mul_nonneg hn (by omega)
  have e : (n * s) * pw s k = n * pw s (k + 1) := by rw [Int.mul_assoc]; rfl
  have : (n * s) * 1 ≤ (n * s) * pw s k := Int.mul_le_mul_of_nonneg_left hp h0
  rw [Int.mul_one] at this
  exact ⟨h0, by omega, by omega⟩

theorem p_l5Long_loop (s : Int) (h1 : 1 ≤ s) : ∀ (k : Nat) (n : Int), 0 ≤ n → n * pw s k ≤ 1000000 → k ≤ 1000 → l_spec_l5Long_28 M s k n = some (.inl (n * pw s k, ())) := by
  intro k
  induction k with
  | zero =>
    intro n _ _ _
    apply el_spec_l5Long_28
    simp [ql_spec_l5Long_28, pw]
  | succ k ih =>
    intro n hn hb hk
    obtain ⟨g0, g1, g2⟩ := mul_step h1 hn hb
    apply el_spec_l5Long_28
    simp only [ql_spec_l5Long_28]
    rw [if_pos (by simp <;> omega), w64 (x := n * s) (by omega) (by omega), w64 (by omega) (by omega), show ((k + 1 : Nat) : Int) - 1 = (k : Int) by omega, ih (n * s) g0 g2 (by omega), Int.mul_assoc]
    rfl
theorem p_l5Long (s : Int) (h1 : 1 ≤ s) (h3 : s ≤ 3) (k : Int) (k0 : 0 ≤ k) (k3 : k ≤ 3) : c_spec_l5Long M s k = some ((pw s k.toNat, ()), ()) := by
  apply e_spec_l5Long
  have := p_l5Long_loop s h1 k.toNat 1 (by omega) (by have := pw_le h1 h3 (k := k.toNat) (by omega); omega) (by omega)
  rw [show ((k.toNat : Nat) : Int) = k by omega, Int.one_mul] at this
  simp only [q_spec_l5Long, this, Option.bind_some, Sum.elim_inl]

theorem p_entries_loop (s : Int) (h1 : 1 ≤ s) (m : Nat) (hm : m ≤ 1000) : ∀ (k i : Nat) (n : Int), i + k = m → 0 ≤ n → n * pw s k ≤ 1000000 → l_impl_entries_58 M s n m i = some (.inl (n * pw s k, ())) := by
  intro k
  induction k with
  | zero =>
    intro i n hi _ _
    obtain rfl : i = m := by omega
    apply el_impl_entries_58
    simp [ql_impl_entries_58, pw]
  | succ k ih =>
    intro i n hi hn hb
    obtain ⟨g0, g1, g2⟩ := mul_step h1 hn hb
    apply el_impl_entries_58
    simp only [ql_impl_entries_58]
    rw [if_pos (by simp <;> omega), w64 (x := n * s) (by omega) (by omega), inc_nat (by omega), ih (i + 1) (n * s) (by omega) g0 g2, Int.mul_assoc]
    rfl
theorem p_entries (s : Int) (h1 : 1 ≤ s) (h3 : s ≤ 3) (k : Int) (k0 : 0 ≤ k) (k3 : k ≤ 3) : c_impl_entries M s k = some ((pw s k.toNat, ()), ()) := by
  apply e_impl_entries
  have := p_entries_loop s h1 k.toNat (by omega) k.toNat 0 1 (by omega) (by omega) (by have := pw_le h1 h3 (k := k.toNat) (by omega); omega)
  rw [show ((k.toNat : Nat) : Int) = k by omega, Int.one_mul, show ((0 : Nat) : Int) = 0 from rfl] at this
  simp only [q_impl_entries, this, Option.bind_some, Sum.elim_inl]

/-- Numbers of elements. -/
def elOK (s : Int) (l : List Int) : Bool := l.all fun x => decide (0 ≤ x) && decide (x < s)
theorem p_ae1 (x s : Int) : c_impl_areElements_1 M x s = some ((!(decide (0 ≤ x) && decide (x < s)), ()), ()) := by
  apply e_impl_areElements_1
  simp only [q_impl_areElements_1, decide_eq_true_eq]
  by_cases h : x < 0
  · rw [if_pos h]; simp; omega
  · rw [if_neg h]
    have h0 : 0 ≤ x := by omega
    rw [decide_eq_true h0, Bool.true_and]
    by_cases h3 : x < s
    · rw [decide_eq_true h3, decide_eq_false (by omega)]; rfl
    · rw [decide_eq_false h3, decide_eq_true (by omega)]; rfl
theorem p_aeIdx_loop (s : Int) (a : List Int) (ha : a.length ≤ 17592186044416) : ∀ k i : Nat, i + k = a.length → ∃ r, l_slices_IndexFunc_int_int__impl_areElements_1_26 M a (s, ()) a.length i = some r ∧ (match r with | .inl _ => (a.drop i).all (fun x => decide (0 ≤ x) && decide (x < s)) = true | .inr r => 0 ≤ r.1.1 ∧ (a.drop i).all (fun x => decide (0 ≤ x) && decide (x < s)) = false) := by
  intro k
  induction k with
  | zero =>
    intro i hi
    obtain rfl : i = a.length := by omega
    refine ⟨.inl (), el_slices_IndexFunc_int_int__impl_areElements_1_26 _ _ _ _ (by simp [ql_slices_IndexFunc_int_int__impl_areElements_1_26]), by simp⟩
  | succ k ih =>
    intro i hi
    have h1 : i < a.length := by omega
    obtain ⟨r, hr, hm⟩ := ih (i + 1) (by omega)
    rw [List.drop_eq_getElem_cons h1, List.all_cons]
    by_cases hp : (decide (0 ≤ a[i]) && decide (a[i] < s)) = true
    · refine ⟨r, el_slices_IndexFunc_int_int__impl_areElements_1_26 _ _ _ _ ?_, by rw [hp, Bool.true_and]; exact hm⟩
      simp only [ql_slices_IndexFunc_int_int__impl_areElements_1_26]
      rw [if_pos (by simpa using h1), idx_lt h1, inc_nat (by omega)]
      simp only [Option.bind_some, p_ae1, hp, Bool.not_true, Bool.false_eq_true, if_false]
      exact hr
    · rw [Bool.not_eq_true] at hp
      refine ⟨.inr (((i : Int), ()), ()), el_slices_IndexFunc_int_int__impl_areElements_1_26 _ _ _ _ ?_, Int.natCast_nonneg i, by rw [hp, Bool.false_and]⟩
      simp only [ql_slices_IndexFunc_int_int__impl_areElements_1_26]
      rw [if_pos (by simpa using h1), idx_lt h1]
      simp only [Option.bind_some, p_ae1, hp, Bool.not_false, if_true]

theorem p_aeContains (s : Int) (a : List Int) (ha : a.length ≤ 17592186044416) : c_slices_ContainsFunc_int_int__impl_areElements_1 M a (s, ()) = some ((!(a.all (fun x => decide (0 ≤ x) && decide (x < s))), ()), ()) := by
  apply e_slices_ContainsFunc_int_int__impl_areElements_1
  simp only [q_slices_ContainsFunc_int_int__impl_areElements_1]
  obtain ⟨r, hr, hm⟩ := p_aeIdx_loop s a ha a.length 0 (by omega)
  rw [show ((0 : Nat) : Int) = 0 from rfl] at hr
  rw [List.drop_zero] at hm
  cases r with
  | inl r =>
    rw [e_slices_IndexFunc_int_int__impl_areElements_1 a (s, ()) (r := ((-1, ()), ())) (by simp only [q_slices_IndexFunc_int_int__impl_areElements_1, hr, Option.bind_some, Sum.elim_inl])]
    simp only at hm
    simp [hm]
  | inr r =>
    rw [e_slices_IndexFunc_int_int__impl_areElements_1 a (s, ()) (r := r) (by simp only [q_slices_IndexFunc_int_int__impl_areElements_1, hr, Option.bind_some, Sum.elim_inr])]
    simp only at hm
    simp [hm]


theorem p_areElements (s : Int) (l : List Int) (hl : l.length ≤ 17592186044416) : c_impl_areElements M s l = some ((elOK s l, ()), ()) := by
  apply e_impl_areElements
  simp only [q_impl_areElements, p_aeContains s l hl, Option.bind_some, Bool.not_not, elOK]
theorem p_elAll (s : Int) (l : List Int) (hl : l.length ≤ 17592186044416) (h1 : 1 ≤ s) (h3 : s ≤ 3) : c_spec_l1All M l 0 (IntKind.i64.wrap (s - 1)) = some ((elOK s l, ()), ()) := by
  rw [w64 (by omega) (by omega), p_l1All l 0 (s - 1) hl]
  simp only [elOK, Option.some.injEq, Prod.mk.injEq, and_true]
  congr 1
  funext x
  rw [show decide (x ≤ s - 1) = decide (x < s) by rw [decide_eq_decide]; omega]

def tabOK (s : Int) : List Int → List (List Int) → Bool
  | k :: ks, t :: ts => decide ((t.length : Int) = pw s k.toNat) && (elOK s t && tabOK s ks ts)
  | _, _ => true
/-- A world that fits a signature. -/
def wOK (a : List Int) (w : TWorld) : Bool := decide (1 ≤ w.1) && (decide (w.1 ≤ 3) && (decide (w.2.1.length = a.length) && tabOK w.1 a w.2.1))

theorem gS_all {a : List Int} (hg : gS a = true) : a.length ≤ 10 ∧ ∀ x ∈ a, 0 ≤ x ∧ x ≤ 3 := by
  simp only [gS, Bool.and_eq_true, List.all_eq_true, decide_eq_true_eq] at hg
  exact ⟨hg.2.1, fun x hx => by simpa using hg.2.2.1 x hx⟩

theorem p_l5World_loop (s : TSign) (hg : gS s.1 = true) (w : TWorld) (h1 : 1 ≤ w.1) (h3 : w.1 ≤ 3) (hl : w.2.1.length = s.1.length) (hx : ∀ y ∈ w.2.1, smS y) : ∀ k i : Nat, i + k = w.2.1.length → l_spec_l5World_58 M s w w.2.1 w.2.1.length i = some (if tabOK w.1 (s.1.drop i) (w.2.1.drop i) = true then .inl () else .inr ((false, ()), ())) := by
  obtain ⟨g1, g2⟩ := gS_all hg
  intro k
  induction k with
  | zero =>
    intro i hi
    obtain rfl : i = w.2.1.length := by omega
    apply el_spec_l5World_58
    simp [ql_spec_l5World_58, tabOK]
  | succ k ih =>
    intro i hi
    have h0 : i < w.2.1.length := by omega
    have h0' : i < s.1.length := by omega
    have ha := g2 _ (List.getElem_mem h0')
    have hy := hx _ (List.getElem_mem h0)
    unfold smS at hy
    apply el_spec_l5World_58
    rw [List.drop_eq_getElem_cons h0, List.drop_eq_getElem_cons h0']
    simp only [ql_spec_l5World_58]
    rw [if_pos (by simpa using h0), idx_lt h0, idx_lt h0', inc_nat (by omega)]
    simp only [Option.bind_some, p_l5Long w.1 h1 h3 _ ha.1 ha.2, p_elAll w.1 _ (show (w.2.1[i]).length ≤ 17592186044416 by omega) h1 h3, sign_eta', world_eta, ih (i + 1) (by omega)]
    by_cases e : ((w.2.1[i]).length : Int) = pw w.1 (s.1[i]).toNat
    · rw [if_neg (by simpa using e)]
      cases hE : elOK w.1 w.2.1[i] <;> simp [tabOK, e, hE]
    · rw [if_pos (by simpa using e)]; simp [tabOK, e]
theorem p_isWorld_loop (s : TSign) (hg : gS s.1 = true) (w : TWorld) (h1 : 1 ≤ w.1) (h3 : w.1 ≤ 3) (hl : w.2.1.length = s.1.length) (hx : ∀ y ∈ w.2.1, smS y) : ∀ k i : Nat, i + k = w.2.1.length → l_impl_Sign_isWorld_58 M s w w.2.1 w.2.1.length i = some (if tabOK w.1 (s.1.drop i) (w.2.1.drop i) = true then .inl () else .inr ((false, ()), ())) := by
  obtain ⟨g1, g2⟩ := gS_all hg
  intro k
  induction k with
  | zero =>
    intro i hi
    obtain rfl : i = w.2.1.length := by omega
    apply el_impl_Sign_isWorld_58
    simp [ql_impl_Sign_isWorld_58, tabOK]
  | succ k ih =>
    intro i hi
    have h0 : i < w.2.1.length := by omega
    have h0' : i < s.1.length := by omega
    have ha := g2 _ (List.getElem_mem h0')
    have hy := hx _ (List.getElem_mem h0)
    unfold smS at hy
    apply el_impl_Sign_isWorld_58
    rw [List.drop_eq_getElem_cons h0, List.drop_eq_getElem_cons h0']
    simp only [ql_impl_Sign_isWorld_58]
    rw [if_pos (by simpa using h0), idx_lt h0, idx_lt h0', inc_nat (by omega)]
    simp only [Option.bind_some, p_entries w.1 h1 h3 _ ha.1 ha.2, p_areElements w.1 _ (show (w.2.1[i]).length ≤ 17592186044416 by omega), sign_eta', world_eta, ih (i + 1) (by omega)]
    by_cases e : ((w.2.1[i]).length : Int) = pw w.1 (s.1[i]).toNat
    · rw [if_neg (by simpa using e)]
      cases hE : elOK w.1 w.2.1[i] <;> simp [tabOK, e, hE]
    · rw [if_pos (by simpa using e)]; simp [tabOK, e]

theorem p_l5World (s : TSign) (hg : gS s.1 = true) (w : TWorld) (hl : w.2.1.length ≤ 1048576) (hx : ∀ y ∈ w.2.1, smS y) : c_spec_l5World M s w = some ((wOK s.1 w, ()), ()) := by
  apply e_spec_l5World
  simp only [q_spec_l5World, p_l1In, Option.bind_some, sign_eta', world_eta, wOK]
  by_cases h1 : 1 ≤ w.1
  · by_cases h3 : w.1 ≤ 3
    · rw [if_neg (by simp [h1, h3])]
      by_cases he : w.2.1.length = s.1.length
      · have := p_l5World_loop s hg w h1 h3 he hx w.2.1.length 0 (by omega)
        rw [show ((0 : Nat) : Int) = 0 from rfl, List.drop_zero, List.drop_zero] at this
        rw [if_neg (by simp; omega), this]
        cases tabOK w.1 s.1 w.2.1 <;> simp [h1, h3, he]
      · rw [if_pos (by simp; omega)]; simp [he]
    · rw [if_pos (by simp [h3])]; simp [h3]
  · rw [if_pos (by simp [h1])]; simp [h1]
theorem p_isWorld (s : TSign) (hg : gS s.1 = true) (w : TWorld) (hl : w.2.1.length ≤ 1048576) (hx : ∀ y ∈ w.2.1, smS y) : c_impl_Sign_isWorld M s w = some ((wOK s.1 w, ()), ()) := by
  have hsz : c_impl_isSize M w.1 = some ((decide (1 ≤ w.1) && decide (w.1 ≤ 3), ()), ()) := by
    apply e_impl_isSize
    simp only [q_impl_isSize, decide_eq_true_eq]
    by_cases h : w.1 ≥ 1
    · rw [if_pos h, decide_eq_true h]; simp
    · rw [if_neg h, decide_eq_false (by omega)]; rfl
  apply e_impl_Sign_isWorld
  simp only [q_impl_Sign_isWorld, hsz, Option.bind_some, sign_eta', world_eta, wOK]
  by_cases h1 : 1 ≤ w.1
  · by_cases h3 : w.1 ≤ 3
    · rw [if_neg (by simp [h1, h3])]
      by_cases he : w.2.1.length = s.1.length
      · have := p_isWorld_loop s hg w h1 h3 he hx w.2.1.length 0 (by omega)
        rw [show ((0 : Nat) : Int) = 0 from rfl, List.drop_zero, List.drop_zero] at this
        rw [if_neg (by simp; omega), this]
        cases tabOK w.1 s.1 w.2.1 <;> simp [h1, h3, he]
      · rw [if_pos (by simp; omega)]; simp [he]
    · rw [if_pos (by simp [h3])]; simp [h3]
  · rw [if_pos (by simp [h1])]; simp [h1]
theorem p_spec_GoodWorld (s : TSign) (hs : s.1.length ≤ 1048576) (w : TWorld) (hl : w.2.1.length ≤ 1048576) (hx : ∀ y ∈ w.2.1, smS y) : c_spec_GoodWorld M s w = some ((gS s.1 && wOK s.1 w, ()), ()) := by
  apply e_spec_GoodWorld
  simp only [q_spec_GoodWorld, sign_eta', world_eta, p_spec_GoodSign s (by omega), Option.bind_some]
  cases hg : gS s.1 with
  | false => rfl
  | true => rw [if_pos rfl, p_l5World s hg w hl hx]; rfl

theorem tabOK_get {s : Int} : ∀ {a : List Int} {ts : List (List Int)} (i : Nat) (h : i < a.length) (h' : i < ts.length), tabOK s a ts = true → (ts[i].length : Int) = pw s (a[i]).toNat ∧ elOK s ts[i] = true
  | k :: ks, t :: ts, 0, _, _, ht => by
    simp only [tabOK, Bool.and_eq_true, decide_eq_true_eq] at ht
    exact ⟨ht.1, ht.2.1⟩
  | k :: ks, t :: ts, i + 1, h, h', ht => by
    simp only [tabOK, Bool.and_eq_true, decide_eq_true_eq] at ht
    exact tabOK_get i (by simpa using h) (by simpa using h') ht.2.2

end Go.Proofs.YtcjaikkdpclaaaaPu.Ev

/- Plain laws: sizes of worlds. No condition. -/
namespace Go.Proofs.YtcjaikkdpclaaaaPu.Ev
open Go
set_option autoImplicit false
set_option linter.unusedVariables false
set_option linter.unusedSimpArgs false

/-- How many entries a table has. -/
def en (S x : Int) : Nat := (pw S x.toNat).toNat
theorem en_ok {S x : Int} (h1 : 1 ≤ S) (h3 : S ≤ 3) (x0 : 0 ≤ x) (x3 : x ≤ 3) : ((en S x : Nat) : Int) = pw S x.toNat ∧ 1 ≤ en S x ∧ en S x ≤ 27 := by
  have a := pw_pos h1 x.toNat
  have b := pw_le h1 h3 (k := x.toNat) (by omega)
  unfold en
  omega
/-- A world that is not big. -/
def smW (w : TWorld) : Prop := w.2.1.length ≤ 1048576 ∧ ∀ y ∈ w.2.1, smS y
end Go.Proofs.YtcjaikkdpclaaaaPu.Ev

/- Plain laws: worlds that are drawn. No condition but that bytes are bytes. -/
namespace Go.Proofs.YtcjaikkdpclaaaaPu.Ev
open Go
set_option autoImplicit false
set_option linter.unusedVariables false
set_option linter.unusedSimpArgs false

section
variable {code : List Int} (hb : isBytes code)
include hb
theorem d_worldIn (w0 w1 : TWorld) (h1 : w1.1 ≤ 1000) (ar : List Int) (L i : Int) : ∀ (k : Nat) (j : Int) (c : TCur) (t : List Int), t.length + k ≤ 1000 → j + 2 * k ≤ 100000 → Cu code j c → Okk (fun y => ∃ (c' : TCur) (t' : List Int), y = .inl (c', w0, w1, t', ar, L, i, ()) ∧ t'.length = t.length + k ∧ Cu code (j + 2 * k) c') (l_spec_l1Cur_world_59802 M c w0 w1 t (k : Int) ar L i) := by
  intro k
  induction k with
  | zero =>
    intro j c t _ _ hc
    refine Okk.lift ?_ (el_spec_l1Cur_world_59802 _ _ _ _ _ _ _ _)
    simp only [ql_spec_l1Cur_world_59802, cur_eta, world_eta]
    exact Okk.iteF (by simp) (.pure ⟨c, t, rfl, by omega, hc.mono (by omega)⟩)
  | succ k ih =>
    intro j c t ht hj hc
    refine Okk.lift ?_ (el_spec_l1Cur_world_59802 _ _ _ _ _ _ _ _)
    simp only [ql_spec_l1Cur_world_59802, cur_eta, world_eta]
    refine Okk.iteT (by simp <;> omega) ?_
    refine Okk.bind (d_pick hb hc w1.1 (by omega) (by omega)) ?_
    rintro ⟨⟨x, ⟨⟩⟩, ⟨c1, ⟨⟩⟩⟩ ⟨_, _, g⟩
    simp only [cur_eta] at g ⊢
    refine Okk.iteT (by simp; omega) ?_
    rw [w64 (x := ((k + 1 : Nat) : Int) - 1) (by omega) (by omega), show ((k + 1 : Nat) : Int) - 1 = (k : Int) by omega]
    refine Okk.mono (ih (j + 2) c1 (t ++ [x]) (by simp; omega) (by omega) g) ?_
    rintro _ ⟨c', t', rfl, q1, q2⟩
    exact ⟨c', t', rfl, by rw [q1]; simp; omega, q2.mono (by omega)⟩
theorem d_world_loop {a : List Int} (ha : SgD a) (w0 : TWorld) (S : Int) (h1 : 1 ≤ S) (h3 : S ≤ 3) : ∀ (k i : Nat) (j : Int) (c : TCur) (o : List (List Int)), i + k = a.length → o.length = i → (∀ y ∈ o, smS y) → j + 60 * k ≤ 100000 → Cu code j c → Okk (fun y => ∃ (c' : TCur) (o' : List (List Int)), y = .inl (c', w0, (S, o', ()), ()) ∧ o'.length ≤ 10 ∧ (∀ y ∈ o', smS y) ∧ Cu code (j + 60 * k) c') (l_spec_l1Cur_world_58 M c w0 (S, o, ()) a (a.length : Int) (i : Int)) := by
  have ha10 := ha.1
  intro k
  induction k with
  | zero =>
    intro i j c o hi ho hx hj hc
    refine Okk.lift ?_ (el_spec_l1Cur_world_58 _ _ _ _ _ _)
    simp only [ql_spec_l1Cur_world_58, cur_eta, world_eta]
    exact Okk.iteF (by simp; omega) (.pure ⟨c, o, rfl, by omega, hx, hc.mono (by omega)⟩)
  | succ k ih =>
    intro i j c o hi ho hx hj hc
    have hi1 : i < a.length := by omega
    have hxa := ha.2 _ (List.getElem_mem hi1)
    obtain ⟨e1, e2, e3⟩ := en_ok h1 h3 hxa.1 hxa.2
    refine Okk.lift ?_ (el_spec_l1Cur_world_58 _ _ _ _ _ _)
    simp only [ql_spec_l1Cur_world_58, cur_eta, world_eta]
    refine Okk.iteT (by simp <;> omega) ?_
    rw [idx_lt hi1]
    simp only [Option.bind_some, p_l5Long S h1 h3 _ hxa.1 hxa.2]
    rw [← e1]
    refine Okk.bind (d_worldIn hb w0 (S, o, ()) (by simp only; omega) a a.length i (en S a[i]) j c [] (by simp; omega) (by omega) hc) ?_
    rintro _ ⟨c1, t, rfl, t1, t2⟩
    simp only [Sum.elim_inl, cur_eta, world_eta]
    refine Okk.iteT (by simp; omega) ?_
    rw [inc_nat (by omega)]
    refine Okk.mono (ih (i + 1) (j + 60) c1 (o ++ [t]) (by omega) (by simp [ho]) ?_ (by omega) (t2.mono (by omega))) ?_
    · intro y hy
      rcases List.mem_append.1 hy with h | h
      · exact hx y h
      · rw [List.mem_singleton.1 h]; unfold smS; rw [t1]; simp; omega
    · rintro _ ⟨c', o', rfl, q1, q2, q3⟩
      exact ⟨c', o', rfl, q1, q2, q3.mono (by omega)⟩
theorem d_worldS {a : List Int} (ha : SgD a) {j : Int} (hj : j ≤ 50000) {c : TCur} (hc : Cu code j c) : Okk (fun r => smW r.1.1 ∧ r.1.1.1 ≤ 1000 ∧ Cu code (j + 1000) r.2.1) (c_spec_l1Cur_world M c (a, ())) := by
  have ha10 := ha.1
  refine Okk.lift ?_ (e_spec_l1Cur_world c (a, ()))
  simp only [q_spec_l1Cur_world, cur_eta]
  refine Okk.bind (d_pick hb hc 3 (by omega) (by omega)) ?_
  rintro ⟨⟨x, ⟨⟩⟩, ⟨c1, ⟨⟩⟩⟩ ⟨x1, x2, g⟩
  simp only [cur_eta] at x1 x2 g ⊢
  rw [w64 (x := 1 + x) (by omega) (by omega)]
  have lp := d_world_loop hb ha (0, [], ()) (1 + x) (by omega) (by omega) a.length 0 (j + 2) c1 [] (by omega) rfl (by simp) (by omega) g
  rw [show ((0 : Nat) : Int) = 0 from rfl] at lp
  refine Okk.bind lp ?_
  rintro _ ⟨c2, o, rfl, o1, o2, o3⟩
  simp only [Sum.elim_inl, cur_eta]
  refine Okk.bind (P := fun y => ∃ (c' : TCur) (w : TWorld), y = .inl (c', (0, [], ()), w, ()) ∧ smW w ∧ w.1 ≤ 1000 ∧ Cu code (j + 1000) c') ?_ ?_
  · refine Okk.bind (d_pick hb o3 40 (by omega) (by omega)) ?_
    rintro ⟨⟨z, ⟨⟩⟩, ⟨c3, ⟨⟩⟩⟩ ⟨_, _, k3⟩
    simp only [cur_eta] at k3 ⊢
    refine Okk.ite (fun _ => ?_) fun _ => Okk.ite (fun _ => ?_) fun _ => ?_
    · exact .pure ⟨c3, _, rfl, ⟨by simp only; omega, o2⟩, by simp only; first | omega | (rw [w64 (by omega) (by omega)]; omega), k3.mono (by omega)⟩
    · exact .pure ⟨c3, _, rfl, ⟨by simp, by simp⟩, by simp only; omega, k3.mono (by omega)⟩
    · exact .pure ⟨c3, _, rfl, ⟨by simp only; omega, o2⟩, by simp only; first | omega | (rw [w64 (by omega) (by omega)]; omega), k3.mono (by omega)⟩
  · rintro _ ⟨c', w, rfl, q1, q2, q3⟩
    exact .pure ⟨q1, q2, q3⟩
theorem d_world {a : List Int} (ha : SgD a) {j : Int} (hj : j ≤ 50000) {c : TCur} (hc : Cu code j c) : Okk (fun r => smW r.1.1 ∧ Cu code (j + 1000) r.2.1) (c_spec_l1Cur_world M c (a, ())) :=
  (d_worldS hb ha hj hc).mono fun _ h => ⟨h.1, h.2.2⟩
end
end Go.Proofs.YtcjaikkdpclaaaaPu.Ev

/- Plain laws: what FnPushed draws. No condition but that bytes are bytes. -/
namespace Go.Proofs.YtcjaikkdpclaaaaPu.Ev
open Go
set_option autoImplicit false
set_option linter.unusedVariables false
set_option linter.unusedSimpArgs false

section
variable {code : List Int} (hb : isBytes code)
include hb
theorem d_env_loop (w : TWorld) (h1 : w.1 ≤ 1000) : ∀ (k i : Nat) (j : Int) (c : TCur) (o : List Int), i + k = 12 → o.length = i → j + 2 * k ≤ 100000 → Cu code j c → Okk (fun y => ∃ (c' : TCur) (o' : List Int), y = .inl (c', w, o', ()) ∧ o'.length = 12 ∧ Cu code (j + 2 * k) c') (l_spec_l1Cur_env_58 M c w o (i : Int)) := by
  intro k
  induction k with
  | zero =>
    intro i j c o hi ho hj hc
    refine Okk.lift ?_ (el_spec_l1Cur_env_58 _ _ _ _)
    simp only [ql_spec_l1Cur_env_58, cur_eta, world_eta]
    exact Okk.iteF (by simp; omega) (.pure ⟨c, o, rfl, by omega, hc.mono (by omega)⟩)
  | succ k ih =>
    intro i j c o hi ho hj hc
    refine Okk.lift ?_ (el_spec_l1Cur_env_58 _ _ _ _)
    simp only [ql_spec_l1Cur_env_58, cur_eta, world_eta]
    refine Okk.iteT (by simp <;> omega) ?_
    refine Okk.bind (P := fun r => 1 ≤ r.1.1 ∧ r.1.1 ≤ 1000) (Okk.lift ?_ (e_spec_l1Most 1 w.1)) ?_
    · simp only [q_spec_l1Most]
      exact Okk.ite (fun h => .pure ⟨by simp, by simp⟩) fun h => .pure ⟨by simp only [decide_eq_true_eq] at h; simp only; omega, by simp only; omega⟩
    rintro ⟨⟨S, ⟨⟩⟩, ⟨⟩⟩ ⟨s0, s1⟩
    simp only at s0 s1 ⊢
    refine Okk.bind (d_pick hb hc S (by omega) (by omega)) ?_
    rintro ⟨⟨x, ⟨⟩⟩, ⟨c1, ⟨⟩⟩⟩ ⟨_, _, g⟩
    simp only [cur_eta] at g ⊢
    refine Okk.iteT (by simp; omega) ?_
    rw [inc_nat (by omega)]
    refine Okk.mono (ih (i + 1) (j + 2) c1 (o ++ [x]) (by omega) (by simp [ho]) (by omega) g) ?_
    rintro _ ⟨c', o', rfl, q1, q2⟩
    exact ⟨c', o', rfl, q1, q2.mono (by omega)⟩
theorem d_env (w : TWorld) (h1 : w.1 ≤ 1000) {j : Int} (hj : j ≤ 50000) {c : TCur} (hc : Cu code j c) : Okk (fun r => Cu code (j + 100) r.2.1) (c_spec_l1Cur_env M c w) := by
  refine Okk.lift ?_ (e_spec_l1Cur_env c w)
  simp only [q_spec_l1Cur_env, cur_eta, world_eta]
  have lp := d_env_loop hb w h1 12 0 j c [] (by omega) rfl (by omega) hc
  rw [show ((0 : Nat) : Int) = 0 from rfl] at lp
  refine Okk.bind lp ?_
  rintro _ ⟨c1, o, rfl, o1, o2⟩
  simp only [Sum.elim_inl, cur_eta]
  refine Okk.bind (P := fun y => ∃ (c' : TCur) (e : List Int), y = .inl (c', e, ()) ∧ Cu code (j + 100) c') ?_ ?_
  · refine Okk.bind (d_one hb o2 40 (by omega) (by omega)) ?_
    rintro ⟨⟨b, ⟨⟩⟩, ⟨c2, ⟨⟩⟩⟩ g
    simp only [cur_eta] at g ⊢
    refine Okk.ite (fun _ => ?_) fun _ => .pure ⟨c2, o, rfl, g.mono (by omega)⟩
    refine Okk.iteT (by omega) ?_
    have hlt : Int.toNat (0 : Int) < o.length := by simp; omega
    refine Okk.bind (P := fun _ => True) ⟨o[Int.toNat (0 : Int)], by rw [List.getElem?_eq_getElem hlt], trivial⟩ fun z _ => ?_
    exact .pure ⟨c2, _, rfl, g.mono (by omega)⟩
  · rintro _ ⟨c', e, rfl, q⟩
    exact .pure q
theorem d_DrawPushNot : Okk (fun r => SgD r.1.1.1 ∧ r.1.2.1.length ≤ 100 ∧ ∀ x ∈ r.1.2.1, smF x) (c_spec_DrawPushNot M code) := by
  refine Okk.lift ?_ (e_spec_DrawPushNot code)
  simp only [q_spec_DrawPushNot]
  refine Okk.bind (d_sign hb (by omega) (cu0 code)) ?_
  rintro ⟨⟨⟨a, ⟨⟩⟩, ⟨⟩⟩, ⟨c1, ⟨⟩⟩⟩ ⟨h1, h2⟩
  refine Okk.bind (d_anyForm hb h1 (by omega) h2) ?_
  rintro ⟨⟨t, ⟨⟩⟩, ⟨c2, ⟨⟩⟩⟩ ⟨h3, h4, h5⟩
  simp only [cur_eta] at h3 h4 h5 ⊢
  refine Okk.bind (d_one hb h5 2 (by omega) (by omega)) ?_
  rintro ⟨⟨b, ⟨⟩⟩, ⟨c3, ⟨⟩⟩⟩ _
  exact .pure ⟨h1, h3, h4⟩
theorem d_DrawApartForm : Okk (fun r => SgD r.1.1.1 ∧ r.1.2.1.length ≤ 100 ∧ ∀ x ∈ r.1.2.1, smF x) (c_spec_DrawApartForm M code) := by
  refine Okk.lift ?_ (e_spec_DrawApartForm code)
  simp only [q_spec_DrawApartForm]
  refine Okk.bind (d_DrawGoodForm hb) ?_
  rintro ⟨⟨⟨a, ⟨⟩⟩, ⟨t, ⟨⟩⟩⟩, ⟨⟩⟩ h
  exact .pure h
theorem d_DrawIsPushed : Okk (fun r => SgD r.1.1.1 ∧ r.1.2.1.length ≤ 100 ∧ ∀ x ∈ r.1.2.1, smF x) (c_spec_DrawIsPushed M code) := by
  refine Okk.lift ?_ (e_spec_DrawIsPushed code)
  simp only [q_spec_DrawIsPushed]
  refine Okk.bind (d_DrawGoodForm hb) ?_
  rintro ⟨⟨⟨a, ⟨⟩⟩, ⟨t, ⟨⟩⟩⟩, ⟨⟩⟩ h
  exact .pure h
theorem d_DrawHoldsForm : Okk (fun r => SgD r.1.1.1 ∧ smW r.1.2.1 ∧ r.1.2.2.1.length ≤ 100 ∧ ∀ x ∈ r.1.2.2.1, smF x) (c_spec_DrawHoldsForm M code) := by
  refine Okk.lift ?_ (e_spec_DrawHoldsForm code)
  simp only [q_spec_DrawHoldsForm]
  refine Okk.bind (d_sign hb (by omega) (cu0 code)) ?_
  rintro ⟨⟨⟨a, ⟨⟩⟩, ⟨⟩⟩, ⟨c1, ⟨⟩⟩⟩ ⟨h1, h2⟩
  refine Okk.bind (d_worldS hb h1 (by omega) h2) ?_
  rintro ⟨⟨w, ⟨⟩⟩, ⟨c2, ⟨⟩⟩⟩ ⟨h3, h3', h4⟩
  refine Okk.bind (d_anyForm hb h1 (by omega) h4) ?_
  rintro ⟨⟨t, ⟨⟩⟩, ⟨c3, ⟨⟩⟩⟩ ⟨h5, h6, h7⟩
  simp only [cur_eta, world_eta] at h3 h3' h5 h6 h7 ⊢
  refine Okk.bind (d_env hb w (by omega) (by omega) h7) ?_
  rintro ⟨⟨e, ⟨⟩⟩, ⟨c4, ⟨⟩⟩⟩ _
  exact .pure ⟨h1, h3, h5, h6⟩
end
end Go.Proofs.YtcjaikkdpclaaaaPu.Ev

/- Plain laws: formulas: both programs tell the same formulas; the program's tree of a formula. No condition but sizes. -/
namespace Go.Proofs.YtcjaikkdpclaaaaPu.Ev
open Go
set_option autoImplicit false
set_option linter.unusedVariables false
set_option linter.unusedSimpArgs false

theorem p_ib1 (x : Int) : c_impl_Sign_isBound_1 M x = some ((!decide (-6 ≤ x), ()), ()) := by
  apply e_impl_Sign_isBound_1
  simp only [q_impl_Sign_isBound_1]
  rw [show decide (x < -6) = !decide (-6 ≤ x) by
    by_cases h : x < -6
    · rw [decide_eq_true h, decide_eq_false (by omega)]; rfl
    · rw [decide_eq_false h, decide_eq_true (by omega)]; rfl]

theorem p_ibIdx_loop (a : List Int) (ha : a.length ≤ 17592186044416) : ∀ k i : Nat, i + k = a.length → ∃ r, l_slices_IndexFunc_int_int__impl_Sign_isBound_1_26 M a () a.length i = some r ∧ (match r with | .inl _ => (a.drop i).all (fun x => decide (-6 ≤ x)) = true | .inr r => 0 ≤ r.1.1 ∧ (a.drop i).all (fun x => decide (-6 ≤ x)) = false) := by
  intro k
  induction k with
  | zero =>
    intro i hi
    obtain rfl : i = a.length := by omega
    refine ⟨.inl (), el_slices_IndexFunc_int_int__impl_Sign_isBound_1_26 _ _ _ _ (by simp [ql_slices_IndexFunc_int_int__impl_Sign_isBound_1_26]), by simp⟩
  | succ k ih =>
    intro i hi
    have h1 : i < a.length := by omega
    obtain ⟨r, hr, hm⟩ := ih (i + 1) (by omega)
    rw [List.drop_eq_getElem_cons h1, List.all_cons]
    by_cases hp : decide (-6 ≤ a[i]) = true
    · refine ⟨r, el_slices_IndexFunc_int_int__impl_Sign_isBound_1_26 _ _ _ _ ?_, by rw [hp, Bool.true_and]; exact hm⟩
      simp only [ql_slices_IndexFunc_int_int__impl_Sign_isBound_1_26]
      rw [if_pos (by simpa using h1), idx_lt h1, inc_nat (by omega)]
      simp only [Option.bind_some, p_ib1, hp, Bool.not_true, Bool.false_eq_true, if_false]
      exact hr
    · rw [Bool.not_eq_true] at hp
      refine ⟨.inr (((i : Int), ()), ()), el_slices_IndexFunc_int_int__impl_Sign_isBound_1_26 _ _ _ _ ?_, Int.natCast_nonneg i, by rw [hp, Bool.false_and]⟩
      simp only [ql_slices_IndexFunc_int_int__impl_Sign_isBound_1_26]
      rw [if_pos (by simpa using h1), idx_lt h1]
      simp only [Option.bind_some, p_ib1, hp, Bool.not_false, if_true]

theorem p_ibContains (a : List Int) (ha : a.length ≤ 17592186044416) : c_slices_ContainsFunc_int_int__impl_Sign_isBound_1 M a () = some ((!(a.all (fun x => decide (-6 ≤ x))), ()), ()) := by
  apply e_slices_ContainsFunc_int_int__impl_Sign_isBound_1
  simp only [q_slices_ContainsFunc_int_int__impl_Sign_isBound_1]
  obtain ⟨r, hr, hm⟩ := p_ibIdx_loop a ha a.length 0 (by omega)
  rw [show ((0 : Nat) : Int) = 0 from rfl] at hr
  rw [List.drop_zero] at hm
  cases r with
  | inl r =>
    rw [e_slices_IndexFunc_int_int__impl_Sign_isBound_1 a () (r := ((-1, ()), ())) (by simp only [q_slices_IndexFunc_int_int__impl_Sign_isBound_1, hr, Option.bind_some, Sum.elim_inl])]
    simp only at hm
    simp [hm]
  | inr r =>
    rw [e_slices_IndexFunc_int_int__impl_Sign_isBound_1 a () (r := r) (by simp only [q_slices_IndexFunc_int_int__impl_Sign_isBound_1, hr, Option.bind_some, Sum.elim_inr])]
    simp only at hm
    simp [hm]


/-- A term whose variables are those of formulas. -/
def isB (a t : List Int) : Bool := isT a t && t.all fun x => decide (-6 ≤ x)
theorem p_isBound (s : TSign) (hg : gS s.1 = true) (t : List Int) : c_impl_Sign_isBound M s t = some ((isB s.1 t, ()), ()) := by
  apply e_impl_Sign_isBound
  simp only [q_impl_Sign_isBound, sign_eta', p_isTerm s hg t, Option.bind_some, isB]
  by_cases h : isT s.1 t = true
  · have hl : t.length ≤ 40 := by simp only [isT, Bool.and_eq_true, decide_eq_true_eq] at h; exact h.1
    rw [if_pos h, p_ibContains t (by omega), h]
    simp
  · rw [if_neg h]
    rw [Bool.not_eq_true] at h
    rw [h]; rfl

/-! ### The variables of a term -/
theorem p_l1Put_loop (l : List Int) (hl : l.length ≤ 1000) (n : Int) : ∀ k i : Nat, i + k = l.length → ∃ j : Nat, i ≤ j ∧ j ≤ l.length ∧ l_spec_l1Put_28 M l n i = some (.inl (l, n, j, ())) := by
  intro k
  induction k with
  | zero =>
    intro i hi
    obtain rfl : i = l.length := by omega
    exact ⟨l.length, Nat.le_refl _, Nat.le_refl _, el_spec_l1Put_28 _ _ _ (by simp [ql_spec_l1Put_28])⟩
  | succ k ih =>
    intro i hi
    have h1 : i < l.length := by omega
    by_cases hx : l[i] < n
    · obtain ⟨j, g1, g2, g3⟩ := ih (i + 1) (by omega)
      refine ⟨j, by omega, g2, el_spec_l1Put_28 _ _ _ ?_⟩
      simp only [ql_spec_l1Put_28]
      rw [if_pos (by simpa using h1), if_pos (by omega), Int.toNat_natCast, List.getElem?_eq_getElem h1]
      simp only [Option.bind_some]
      rw [if_pos (by simpa using hx), inc_nat (by omega)]
      exact g3
    · refine ⟨i, Nat.le_refl _, by omega, el_spec_l1Put_28 _ _ _ ?_⟩
      simp only [ql_spec_l1Put_28]
      rw [if_pos (by simpa using h1), if_pos (by omega), Int.toNat_natCast, List.getElem?_eq_getElem h1]
      simp only [Option.bind_some]
      rw [if_neg (by simpa using hx)]
theorem p_l1Put (l : List Int) (hl : l.length ≤ 1000) (n : Int) : ∃ r : List Int, c_spec_l1Put M l n = some ((r, ()), ()) ∧ r.length ≤ l.length + 1 ∧ ∀ x, x ∈ r ↔ x ∈ l ∨ x = n := by
  obtain ⟨j, _, g2, g3⟩ := p_l1Put_loop l hl n l.length 0 (by omega)
  rw [show ((0 : Nat) : Int) = 0 from rfl] at g3
  by_cases hj : j < l.length ∧ l[j]? = some n
  · refine ⟨l, e_spec_l1Put _ _ ?_, by omega, fun x => ⟨.inl, fun h => h.elim id fun e => e ▸ List.mem_of_getElem? hj.2⟩⟩
    have h1 := hj.1
    have h2 := hj.2
    rw [List.getElem?_eq_getElem h1] at h2
    simp only [q_spec_l1Put, g3, Option.bind_some, Sum.elim_inl]
    rw [if_pos (by simpa using h1), if_pos (by omega), Int.toNat_natCast, List.getElem?_eq_getElem h1]
    simp only [Option.bind_some]
    rw [if_pos (by simpa using h2)]
  · refine ⟨l.take j ++ n :: l.drop j, e_spec_l1Put _ _ ?_, by simp; omega, fun x => ?_⟩
    · simp only [q_spec_l1Put, g3, Option.bind_some, Sum.elim_inl]
      by_cases h1 : j < l.length
      · have h2 : ¬ l[j] = n := fun e => hj ⟨h1, by rw [List.getElem?_eq_getElem h1, e]⟩
        rw [if_pos (by simpa using h1), if_pos (by omega), Int.toNat_natCast, List.getElem?_eq_getElem h1]
        simp only [Option.bind_some, Int.toNat_natCast, Int.toNat_zero, List.drop_zero, List.nil_append, List.length_nil, List.length_append, List.length_take, List.length_drop, List.length_cons, List.take_length]
        rw [if_neg (by simpa using h2), if_pos (by omega), if_pos (by omega), if_pos (by omega), if_pos (by omega), if_pos (by omega)]
        simp
      · rw [if_neg (by simpa using h1)]
        simp only [Option.bind_some, Int.toNat_natCast, Int.toNat_zero, List.drop_zero, List.nil_append, List.length_nil, List.length_append, List.length_take, List.length_drop, List.length_cons, List.take_length]
        rw [if_pos (by omega), if_pos (by omega), if_pos (by omega), if_pos (by omega), if_pos (by omega)]
        simp
    · have : x ∈ l ↔ x ∈ l.take j ∨ x ∈ l.drop j := by rw [← List.mem_append, List.take_append_drop]
      rw [List.mem_append, List.mem_cons, this]
      constructor
      · rintro (h | h | h)
        · exact .inl (.inl h)
        · exact .inr h
        · exact .inl (.inr h)
      · rintro ((h | h) | h)
        · exact .inl h
        · exact .inr (.inr h)
        · exact .inr (.inl h)

theorem p_l1Vars_loop (t : List Int) (ht : t.length ≤ 400) (hw : ∀ n ∈ t, -12 ≤ n) : ∀ k i : Nat, i + k = t.length → ∀ o : List Int, o.length ≤ i → ∃ r : List Int, l_spec_l1Vars_58 M o t t.length i = some (.inl (r, ())) ∧ r.length ≤ t.length ∧ ∀ x, x ∈ r ↔ x ∈ o ∨ ∃ n ∈ t.drop i, n < 0 ∧ x = -1 - n := by
  intro k
  induction k with
  | zero =>
    intro i hi o ho
    obtain rfl : i = t.length := by omega
    exact ⟨o, el_spec_l1Vars_58 _ _ _ _ (by simp [ql_spec_l1Vars_58]), ho, by simp⟩
  | succ k ih =>
    intro i hi o ho
    have h1 : i < t.length := by omega
    have hn := hw _ (List.getElem_mem h1)
    by_cases hx : t[i] < 0
    · obtain ⟨o', e1, e2, e3⟩ := p_l1Put o (by omega) (-1 - t[i])
      obtain ⟨r, g1, g2, g3⟩ := ih (i + 1) (by omega) o' (by omega)
      refine ⟨r, el_spec_l1Vars_58 _ _ _ _ ?_, g2, fun x => ?_⟩
      · simp only [ql_spec_l1Vars_58]
        rw [if_pos (by simpa using h1), idx_lt h1]
        simp only [Option.bind_some]
        rw [if_pos (by simpa using hx), w64 (x := -1 - t[i]) (by omega) (by omega), e1]
        simp only [Option.bind_some, Sum.elim_inl]
        rw [inc_nat (by omega)]
        exact g1
      · rw [g3 x, e3 x, List.drop_eq_getElem_cons h1]
        simp only [List.mem_cons, exists_eq_or_imp]
        constructor
        · rintro ((h | h) | h)
          · exact .inl h
          · exact .inr (.inl ⟨hx, h⟩)
          · exact .inr (.inr h)
        · rintro (h | h | h)
          · exact .inl (.inl h)
          · exact .inl (.inr h.2)
          · exact .inr h
    · obtain ⟨r, g1, g2, g3⟩ := ih (i + 1) (by omega) o (by omega)
      refine ⟨r, el_spec_l1Vars_58 _ _ _ _ ?_, g2, fun x => ?_⟩
      · simp only [ql_spec_l1Vars_58]
        rw [if_pos (by simpa using h1), idx_lt h1]
        simp only [Option.bind_some]
        rw [if_neg (by simpa using hx)]
        simp only [Option.bind_some, Sum.elim_inl]
        rw [inc_nat (by omega)]
        exact g1
      · rw [g3 x, List.drop_eq_getElem_cons h1]
        simp only [List.mem_cons, exists_eq_or_imp]
        constructor
        · rintro (h | h)
          · exact .inl h
          · exact .inr (.inr h)
        · rintro (h | h | h)
          · exact .inl h
          · exact absurd h.1 hx
          · exact .inr h
theorem p_l1Vars (t : List Int) (ht : t.length ≤ 400) (hw : ∀ n ∈ t, -12 ≤ n) : ∃ r : List Int, c_spec_l1Vars M t = some ((r, ()), ()) ∧ r.length ≤ t.length ∧ ∀ x, x ∈ r ↔ ∃ n ∈ t, n < 0 ∧ x = -1 - n := by
  obtain ⟨r, g1, g2, g3⟩ := p_l1Vars_loop t ht hw t.length 0 (by omega) [] (by simp)
  rw [show ((0 : Nat) : Int) = 0 from rfl] at g1
  refine ⟨r, e_spec_l1Vars _ ?_, g2, fun x => by simpa using g3 x⟩
  simp only [q_spec_l1Vars, g1, Option.bind_some, Sum.elim_inl]

theorem sE_ge {a : List Int} : ∀ (t : List Int) (k : Int), sE a k t = some [] → ∀ n ∈ t, -12 ≤ n := by
  intro t
  induction t with
  | nil => intro k _ n hn; cases hn
  | cons m t ih =>
    intro k h n hn
    simp only [sE] at h
    split at h
    · cases h
    · split at h
      · cases h
      · rename_i hb
        unfold badN at hb
        rcases List.mem_cons.1 hn with rfl | hn
        · omega
        · exact ih _ h n hn
theorem isT_ge {a t : List Int} (h : isT a t = true) : t.length ≤ 40 ∧ ∀ n ∈ t, -12 ≤ n := by
  simp only [isT, Bool.and_eq_true, decide_eq_true_eq] at h
  exact ⟨h.1, sE_ge t 1 h.2⟩

/-! ### Nodes -/
def opn (op : Int) : Int := if op = 1 then 0 else if op = 2 ∨ op = 5 ∨ op = 6 then 1 else if op = 3 ∨ op = 4 then 2 else -1
/-- A node that is good by itself. -/
def ndOK (a : List Int) (x : TForm) : Bool :=
  if x.1 = 1 then decide (x.2.1 = 0) && (isB a x.2.2.1 && isB a x.2.2.2.1)
  else if x.2.2.1 = [] ∧ x.2.2.2.1 = [] then
    (if x.1 = 5 ∨ x.1 = 6 then decide (0 ≤ x.2.1) && decide (x.2.1 ≤ 5) else if x.1 = 2 ∨ x.1 = 3 ∨ x.1 = 4 then decide (x.2.1 = 0) else false)
  else false

theorem p_l14Arity (op : Int) : c_spec_l14Arity M op = some ((opn op, ()), ()) := by
  apply e_spec_l14Arity
  simp only [q_spec_l14Arity, beq_iff_eq, opn]
  by_cases h1 : op = 1
  · simp [h1]
  · by_cases h2 : op = 2
    · simp [h2]
    · by_cases h5 : op = 5
      · simp [h5]
      · by_cases h6 : op = 6
        · simp [h6]
        · by_cases h3 : op = 3
          · simp [h3]
          · by_cases h4 : op = 4
            · simp [h4]
            · simp [h1, h2, h3, h4, h5, h6]

theorem p_operands (a : List Int) (x : TForm) (h : ndOK a x = true) : c_impl_Form_operands M x = some ((opn x.1, ()), ()) := by
  apply e_impl_Form_operands
  simp only [q_impl_Form_operands, beq_iff_eq, opn]
  by_cases h1 : x.1 = 1
  · simp [h1]
  · by_cases h3 : x.1 = 3
    · simp [h3]
    · by_cases h4 : x.1 = 4
      · simp [h4]
      · have : x.1 = 2 ∨ x.1 = 5 ∨ x.1 = 6 := by
          unfold ndOK at h
          rw [if_neg h1] at h
          split at h
          · split at h
            · rename_i h5; rcases h5 with h5 | h5 <;> simp [h5]
            · split at h
              · rename_i h6; rcases h6 with h6 | h6 | h6
                · exact .inl h6
                · exact absurd h6 h3
                · exact absurd h6 h4
              · cases h
          · cases h
        simp [h1, h3, h4, this]

theorem p_isNode (s : TSign) (hg : gS s.1 = true) (x : TForm) : c_impl_Sign_isNode M s x = some ((ndOK s.1 x, ()), ()) := by
  apply e_impl_Sign_isNode
  simp only [q_impl_Sign_isNode, sign_eta', p_isBound s hg, Option.bind_some, beq_iff_eq, ndOK]
  obtain ⟨op, v, l, r, ⟨⟩⟩ := x
  simp only
  by_cases h1 : op = 1
  · subst h1
    by_cases hv : v = 0
    · cases isB s.1 l <;> simp [hv]
    · simp [hv]
  · rw [if_neg h1, if_neg h1]
    by_cases h5 : op = 5
    · subst h5
      by_cases ha : 0 ≤ v <;> by_cases hb : v < 6 <;> by_cases hl : l = [] <;> by_cases hr : r = [] <;> simp [ha, hb, hl, hr] <;> omega
    · by_cases h6 : op = 6
      · subst h6
        by_cases ha : 0 ≤ v <;> by_cases hb : v < 6 <;> by_cases hl : l = [] <;> by_cases hr : r = [] <;> simp [ha, hb, hl, hr] <;> omega
      · by_cases h2 : op = 2
        · subst h2
          by_cases ha : v = 0 <;> by_cases hl : l = [] <;> by_cases hr : r = [] <;> simp [ha, hl, hr]
        · by_cases h3 : op = 3
          · subst h3
            by_cases ha : v = 0 <;> by_cases hl : l = [] <;> by_cases hr : r = [] <;> simp [ha, hl, hr]
          · by_cases h4 : op = 4
            · subst h4
              by_cases ha : v = 0 <;> by_cases hl : l = [] <;> by_cases hr : r = [] <;> simp [ha, hl, hr]
            · simp [h2, h3, h4, h5, h6]

theorem p_l14Node (s : TSign) (hg : gS s.1 = true) (x : TForm) (h : smF x) : c_spec_l14Node M s x = some ((ndOK s.1 x, ()), ()) := by
  apply e_spec_l14Node
  simp only [q_spec_l14Node, sign_eta', p_l1Term s hg _ h.1, p_l1Term s hg _ h.2, Option.bind_some, beq_iff_eq, ndOK, p_l1In, p_l14Arity, decide_eq_true_eq]
  by_cases h1 : x.1 = 1
  · rw [if_pos h1, if_pos h1]
    by_cases hv : x.2.1 = 0
    · rw [if_pos hv, decide_eq_true hv]
      by_cases hl : isT s.1 x.2.2.1 = true
      · rw [if_pos hl]
        by_cases hr : isT s.1 x.2.2.2.1 = true
        · rw [if_pos hr]
          obtain ⟨l1, l2⟩ := isT_ge hl
          obtain ⟨r1, r2⟩ := isT_ge hr
          obtain ⟨vl, e1, e2, e3⟩ := p_l1Vars _ (by omega) l2
          obtain ⟨vr, f1, f2, f3⟩ := p_l1Vars _ (by omega) r2
          rw [e1]
          simp only [Option.bind_some]
          rw [f1]
          simp only [Option.bind_some]
          rw [if_pos (by omega), p_l1All _ _ _ (by simp; omega)]
          simp only [Option.bind_some, Option.some.injEq, Prod.mk.injEq, and_true]
          simp only [isB, hl, hr, Bool.true_and]
          have key : ∀ (t v : List Int), (∀ n ∈ t, -12 ≤ n) → (∀ x, x ∈ v ↔ ∃ n ∈ t, n < 0 ∧ x = -1 - n) → (v.all (fun x => decide (0 ≤ x) && decide (x ≤ 5)) = t.all fun x => decide (-6 ≤ x)) := by
            intro t v ht hv
            rw [Bool.eq_iff_iff]
            simp only [List.all_eq_true, Bool.and_eq_true, decide_eq_true_eq]
            constructor
            · intro hh n hn
              by_cases h0 : n < 0
              · have := hh (-1 - n) ((hv _).2 ⟨n, hn, h0, rfl⟩); omega
              · omega
            · intro hh y hy
              obtain ⟨n, hn, h0, rfl⟩ := (hv y).1 hy
              have := hh n hn
              omega
          rw [List.all_append, key _ _ l2 e3, key _ _ r2 f3]
        · rw [if_neg hr]; rw [Bool.not_eq_true] at hr; simp [isB, hr]
      · rw [if_neg hl]; rw [Bool.not_eq_true] at hl; simp [isB, hl]
    · rw [if_neg hv, decide_eq_false hv]; rfl
  · rw [if_neg h1, if_neg h1]
    have hw : IntKind.i64.wrap ((x.2.2.1.length : Int) + (x.2.2.2.1.length : Int)) = (x.2.2.1.length : Int) + (x.2.2.2.1.length : Int) := w64 (by omega) (by have := h.1; have := h.2; omega)
    rw [hw]
    by_cases hlr : x.2.2.1 = [] ∧ x.2.2.2.1 = []
    · rw [if_neg (by rw [hlr.1, hlr.2]; simp), if_pos hlr]
      by_cases h5 : x.1 = 5
      · simp [opn, h5]
      · by_cases h6 : x.1 = 6
        · simp [opn, h6]
        · by_cases h2 : x.1 = 2
          · simp [opn, h2]; rfl
          · by_cases h3 : x.1 = 3
            · simp [opn, h3]; rfl
            · by_cases h4 : x.1 = 4
              · simp [opn, h4]; rfl
              · simp [opn, h1, h2, h3, h4, h5, h6]
    · rw [if_pos (by
        by_cases hl : x.2.2.1 = []
        · have : 0 < x.2.2.2.1.length := List.length_pos_iff.2 (fun e => hlr ⟨hl, e⟩)
          omega
        · have : 0 < x.2.2.1.length := List.length_pos_iff.2 hl
          omega), if_neg hlr]

theorem ndOK_opn {a : List Int} {x : TForm} (h : ndOK a x = true) : 0 ≤ opn x.1 ∧ opn x.1 ≤ 2 ∧ (x.1 = 2 → opn x.1 = 1) := by
  unfold ndOK at h
  unfold opn
  split at h
  · rename_i h1; simp [h1]
  · rename_i h1
    rw [if_neg h1]
    split at h
    · split at h
      · rename_i h56; rw [if_pos (.inr h56)]; omega
      · split at h
        · rename_i h234
          split
          · omega
          · rename_i hn
            rw [if_pos (by rcases h234 with h | h | h
                           · exact absurd (.inl h) hn
                           · exact .inl h
                           · exact .inr h)]
            omega
        · cases h
    · cases h

/-! ### Formulas -/
/-- Whether nodes, with so many trees before them, leave one tree. -/
def gF (a : List Int) : Nat → List TForm → Bool
  | p, [] => p == 1
  | p, x :: r => ndOK a x && (decide ((opn x.1).toNat ≤ p) && gF a (p - (opn x.1).toNat + 1) r)
/-- The trees that nodes leave. -/
def gT (a : List Int) : List Tree → List TForm → Option (List Tree)
  | st, [] => some st
  | st, x :: r => if ndOK a x = true ∧ (opn x.1).toNat ≤ st.length then gT a (st.take (st.length - (opn x.1).toNat) ++ [Tree.mk x.1 x.2.1 x.2.2.1 x.2.2.2.1 (st.drop (st.length - (opn x.1).toNat))]) r else none
theorem gT_gF (a : List Int) : ∀ (f : List TForm) (st : List Tree), gF a st.length f = (match gT a st f with | some st' => st'.length == 1 | none => false) := by
  intro f
  induction f with
  | nil => intro st; rfl
  | cons x r ih =>
    intro st
    simp only [gF, gT]
    by_cases h1 : ndOK a x = true
    · by_cases h2 : (opn x.1).toNat ≤ st.length
      · rw [if_pos ⟨h1, h2⟩, h1, decide_eq_true h2, ← ih]
        simp only [Bool.true_and, List.length_append, List.length_take, List.length_cons, List.length_nil]
        congr 1; omega
      · rw [if_neg (fun h => h2 h.2), decide_eq_false h2]; simp
    · rw [if_neg (fun h => h1 h.1)]; rw [Bool.not_eq_true] at h1; simp [h1]

theorem p_l14Form_loop (s : TSign) (hg : gS s.1 = true) (f : List TForm) (hl : f.length ≤ 15) (hx : ∀ x ∈ f, smF x) : ∀ k i p : Nat, i + k = f.length → p ≤ i → ∃ r, l_spec_l14Form_122 M s p f f.length i = some r ∧ Sum.elim (fun y => y.1 == 1) (fun r => r.1.1) r = gF s.1 p (f.drop i) := by
  intro k
  induction k with
  | zero =>
    intro i p hi hp
    obtain rfl : i = f.length := by omega
    refine ⟨.inl ((p : Int), ()), el_spec_l14Form_122 _ _ _ _ _ (by simp [ql_spec_l14Form_122]), ?_⟩
    rw [List.drop_length]
    simp only [Sum.elim_inl, gF]
    rw [Bool.eq_iff_iff]; simp; omega
  | succ k ih =>
    intro i p hi hp
    have h1 : i < f.length := by omega
    rw [List.drop_eq_getElem_cons h1]
    have hn := p_l14Node s hg f[i] (hx _ (List.getElem_mem h1))
    by_cases h2 : ndOK s.1 f[i] = true
    · have ho := ndOK_opn h2
      by_cases h3 : (opn f[i].1).toNat ≤ p
      · obtain ⟨r, g1, g2⟩ := ih (i + 1) (p - (opn f[i].1).toNat + 1) (by omega) (by omega)
        refine ⟨r, el_spec_l14Form_122 _ _ _ _ _ ?_, by rw [g2]; simp [gF, h2, h3]⟩
        simp only [ql_spec_l14Form_122]
        rw [if_pos (by simpa using h1), idx_lt h1]
        simp only [Option.bind_some, form_eta, sign_eta', hn, h2, p_l14Arity]
        rw [if_neg (by simp), if_neg (by simp; omega), w64 (x := 1 - opn f[i].1) (by omega) (by omega), w64 (by omega) (by omega), inc_nat (by omega), show (p : Int) + (1 - opn f[i].1) = ((p - (opn f[i].1).toNat + 1 : Nat) : Int) by omega]
        exact g1
      · refine ⟨.inr ((false, ()), ()), el_spec_l14Form_122 _ _ _ _ _ ?_, by simp [gF, h2, h3]⟩
        simp only [ql_spec_l14Form_122]
        rw [if_pos (by simpa using h1), idx_lt h1]
        simp only [Option.bind_some, form_eta, sign_eta', hn, h2, p_l14Arity]
        rw [if_neg (by simp), if_pos (by simp; omega)]
    · rw [Bool.not_eq_true] at h2
      refine ⟨.inr ((false, ()), ()), el_spec_l14Form_122 _ _ _ _ _ ?_, by simp [gF, h2]⟩
      simp only [ql_spec_l14Form_122]
      rw [if_pos (by simpa using h1), idx_lt h1]
      simp only [Option.bind_some, form_eta, sign_eta', hn, h2]
      rfl

/-- A formula that is good. -/
def fOK (a : List Int) (f : List TForm) : Bool := decide (f.length ≤ 15) && gF a 0 f

theorem p_l14Form (s : TSign) (hg : gS s.1 = true) (f : List TForm) (hl : f.length ≤ 1048576) (hx : ∀ x ∈ f, smF x) : c_spec_l14Form M s f = some ((fOK s.1 f, ()), ()) := by
  apply e_spec_l14Form
  simp only [q_spec_l14Form, p_l1In, Option.bind_some, sign_eta', fOK]
  by_cases h15 : f.length ≤ 15
  · by_cases h0 : f = []
    · subst h0; simp [gF]
    · have : 0 < f.length := List.length_pos_iff.2 h0
      rw [if_neg (by simp; omega)]
      obtain ⟨r, g1, g2⟩ := p_l14Form_loop s hg f h15 hx f.length 0 0 (by omega) (by omega)
      rw [show ((0 : Nat) : Int) = 0 from rfl] at g1
      rw [List.drop_zero] at g2
      rw [g1, decide_eq_true h15, ← g2]
      cases r with
      | inl r => rfl
      | inr r => obtain ⟨⟨b, _⟩, _⟩ := r; rfl
  · rw [if_pos (by simp; omega)]; simp [h15]

theorem p_grow_loop (s : TSign) (hg : gS s.1 = true) (f : List TForm) (hl : f.length ≤ 15) : ∀ k i : Nat, i + k = f.length → ∀ st : List Tree, st.length ≤ i →
    l_impl_Sign_grow_122 M s st f f.length i = some (match gT s.1 st (f.drop i) with | some st' => .inl (st', ()) | none => .inr ((Tree.nil, false, ()), ())) := by
  intro k
  induction k with
  | zero =>
    intro i hi st hst
    obtain rfl : i = f.length := by omega
    apply el_impl_Sign_grow_122
    simp [ql_impl_Sign_grow_122, gT]
  | succ k ih =>
    intro i hi st hst
    have h1 : i < f.length := by omega
    rw [List.drop_eq_getElem_cons h1]
    apply el_impl_Sign_grow_122
    simp only [ql_impl_Sign_grow_122]
    rw [if_pos (by simpa using h1), idx_lt h1]
    simp only [Option.bind_some, form_eta, sign_eta', p_isNode s hg, gT]
    by_cases h2 : ndOK s.1 f[i] = true
    · have ho := ndOK_opn h2
      by_cases h3 : (opn f[i].1).toNat ≤ st.length
      · have e : (st.length : Int) - opn f[i].1 = ((st.length - (opn f[i].1).toNat : Nat) : Int) := by omega
        rw [if_pos (show ndOK s.1 f[i] = true ∧ (opn f[i].1).toNat ≤ st.length from ⟨h2, h3⟩), h2, if_neg (by simp), p_operands s.1 f[i] h2]
        simp only [Option.bind_some]
        rw [w64 (x := (st.length : Int) - opn f[i].1) (by omega) (by omega), e, if_neg (by simp <;> omega)]
        simp only [Int.toNat_natCast, List.take_length]
        rw [if_pos (by omega), if_pos (by simp; omega), if_pos (by omega), if_pos (by simp; omega), inc_nat (by omega), ih (i + 1) (by omega) _ (by simp; omega)]
      · rw [if_neg (show ¬ (ndOK s.1 f[i] = true ∧ (opn f[i].1).toNat ≤ st.length) from fun h => h3 h.2), h2, if_neg (by simp), p_operands s.1 f[i] h2]
        simp only [Option.bind_some]
        rw [w64 (x := (st.length : Int) - opn f[i].1) (by omega) (by omega), if_pos (by simp; omega)]
    · rw [if_neg (show ¬ (ndOK s.1 f[i] = true ∧ (opn f[i].1).toNat ≤ st.length) from fun h => h2 h.1)]
      rw [Bool.not_eq_true] at h2
      rw [h2]
      rfl

theorem p_formula (s : TSign) (hs : s.1.length ≤ 1048576) (f : List TForm) : ∃ t : Tree, c_impl_formula M s f = some ((t, gS s.1 && fOK s.1 f, ()), ()) ∧ ((gS s.1 && fOK s.1 f) = true → gT s.1 [] f = some [t]) := by
  cases hg : gS s.1 with
  | false =>
    refine ⟨.nil, e_impl_formula _ _ ?_, by simp⟩
    simp only [q_impl_formula, sign_eta', p_impl_GoodSign s (by omega), hg, Option.bind_some]
    rfl
  | true =>
    have pre : ∀ t b, c_impl_Sign_grow M s f = some ((t, b, ()), ()) → c_impl_formula M s f = some ((t, b, ()), ()) := by
      intro t b h
      apply e_impl_formula
      simp only [q_impl_formula, sign_eta', p_impl_GoodSign s (by omega), hg, Option.bind_some, h]
      rfl
    by_cases h15 : f.length ≤ 15
    · have hl := p_grow_loop s hg f h15 f.length 0 (by omega) [] (by simp)
      rw [show ((0 : Nat) : Int) = 0 from rfl, List.drop_zero] at hl
      have hgf := gT_gF s.1 f []
      rw [List.length_nil] at hgf
      have go : ∀ r, (l_impl_Sign_grow_122 M s [] f f.length 0).bind (Sum.elim (fun y1 => if ((List.length y1.1 : Int) != (1 : Int)) = true then (some ((Tree.nil, false, ()), ())) else (if 0 ≤ (0 : Int) ∧ (0 : Int) < (List.length y1.1 : Int) then ((y1.1[(Int.toNat (0 : Int))]?).bind fun x3 => (some ((x3, true, ()), ()))) else none)) (fun r2 => (some r2))) = some r → c_impl_Sign_grow M s f = some r := by
        intro r h
        apply e_impl_Sign_grow
        simp only [q_impl_Sign_grow, sign_eta']
        rw [if_neg (by simp; omega)]
        exact h
      cases hT : gT s.1 [] f with
      | none =>
        rw [hT] at hgf hl
        refine ⟨.nil, pre _ _ (go _ ?_), by simp [fOK, hgf]⟩
        rw [hl]
        simp [fOK, hgf]
      | some st' =>
        rw [hT] at hgf hl
        by_cases h1 : st'.length = 1
        · match st', h1 with
          | [t], _ =>
            refine ⟨t, pre _ _ (go _ ?_), fun _ => rfl⟩
            rw [hl]
            simp [fOK, hgf, h15]
        · refine ⟨.nil, pre _ _ (go _ ?_), by simp [fOK, hgf, h1]⟩
          rw [hl]
          simp only [Option.bind_some, Sum.elim_inl]
          rw [if_pos (by simp; omega)]
          simp [fOK, hgf, h1]
    · refine ⟨.nil, pre _ _ (e_impl_Sign_grow _ _ ?_), by simp [fOK, h15]⟩
      simp only [q_impl_Sign_grow]
      rw [if_pos (by simp; omega)]
      simp [fOK, h15]

end Go.Proofs.YtcjaikkdpclaaaaPu.Ev

/- Plain laws: the tree of a formula and its nodes in a row stand for one another. No condition. -/
namespace Go.Proofs.YtcjaikkdpclaaaaPu.Ev
open Go
set_option autoImplicit false
set_option linter.unusedVariables false
set_option linter.unusedSimpArgs false

abbrev mkT (x : TForm) (ts : List Tree) : Tree := Tree.mk x.1 x.2.1 x.2.2.1 x.2.2.2.1 ts
/-- A part of a row of nodes, and its tree. -/
inductive FT (a : List Int) : List TForm → Tree → Prop
  | leaf {x : TForm} (h : ndOK a x = true) (h0 : opn x.1 = 0) : FT a [x] (mkT x [])
  | un {x : TForm} {g : List TForm} {t : Tree} (h : ndOK a x = true) (h1 : opn x.1 = 1) (hg : FT a g t) : FT a (g ++ [x]) (mkT x [t])
  | bin {x : TForm} {g k : List TForm} {t u : Tree} (h : ndOK a x = true) (h2 : opn x.1 = 2) (hg : FT a g t) (hk : FT a k u) : FT a (g ++ k ++ [x]) (mkT x [t, u])

theorem FT.pos {a : List Int} {g : List TForm} {t : Tree} (h : FT a g t) : 0 < g.length := by cases h <;> simp <;> omega
/-- Trees side by side. -/
def Rs (a : List Int) : List (List TForm) → List Tree → Prop
  | [], [] => True
  | g :: gs, t :: ts => FT a g t ∧ Rs a gs ts
  | _, _ => False
theorem Rs.app {a : List Int} : ∀ {gs : List (List TForm)} {ts : List Tree} {gs' : List (List TForm)} {ts' : List Tree}, Rs a gs ts → Rs a gs' ts' → Rs a (gs ++ gs') (ts ++ ts')
  | [], [], _, _, _, h => h
  | _ :: _, _ :: _, _, _, ⟨h1, h2⟩, h => ⟨h1, h2.app h⟩
  | [], _ :: _, _, _, h, _ => h.elim
  | _ :: _, [], _, _, h, _ => h.elim
theorem Rs.len {a : List Int} : ∀ {gs : List (List TForm)} {ts : List Tree}, Rs a gs ts → gs.length = ts.length
  | [], [], _ => rfl
  | _ :: _, _ :: _, ⟨_, h⟩ => by simp [h.len]
  | [], _ :: _, h => h.elim
  | _ :: _, [], h => h.elim
theorem Rs.cut {a : List Int} : ∀ (n : Nat) {gs : List (List TForm)} {ts : List Tree}, Rs a gs ts → Rs a (gs.take n) (ts.take n) ∧ Rs a (gs.drop n) (ts.drop n)
  | 0, _, _, h => ⟨trivial, h⟩
  | n + 1, [], [], _ => ⟨trivial, trivial⟩
  | n + 1, _ :: _, _ :: _, ⟨h1, h2⟩ => ⟨⟨h1, (h2.cut n).1⟩, (h2.cut n).2⟩
  | _ + 1, [], _ :: _, h => h.elim
  | _ + 1, _ :: _, [], h => h.elim

theorem gT_Rs {a : List Int} : ∀ (f : List TForm) (st st' : List Tree) (gs : List (List TForm)), Rs a gs st → gT a st f = some st' → ∃ gs', Rs a gs' st' ∧ gs'.flatten = gs.flatten ++ f := by
  intro f
  induction f with
  | nil =>
    intro st st' gs hr h
    obtain rfl := Option.some.inj h
    exact ⟨gs, hr, by simp⟩
  | cons x r ih =>
    intro st st' gs hr h
    simp only [gT] at h
    split at h
    · rename_i hc
      obtain ⟨hn, hle⟩ := hc
      have ho := ndOK_opn hn
      obtain ⟨c1, c2⟩ := hr.cut (st.length - (opn x.1).toNat)
      have hl := hr.len
      have hd : ((gs.drop (st.length - (opn x.1).toNat))).length = (opn x.1).toNat := by rw [List.length_drop]; omega
      have hd2 : ((st.drop (st.length - (opn x.1).toNat))).length = (opn x.1).toNat := by rw [List.length_drop]; omega
      have key : FT a ((gs.drop (st.length - (opn x.1).toNat)).flatten ++ [x]) (mkT x (st.drop (st.length - (opn x.1).toNat))) := by
        have h012 : opn x.1 = 0 ∨ opn x.1 = 1 ∨ opn x.1 = 2 := by omega
        rcases h012 with h0 | h0 | h0
        · rw [h0] at hd hd2 c2
          rw [h0]
          generalize gs.drop (st.length - (0 : Int).toNat) = G at *
          generalize st.drop (st.length - (0 : Int).toNat) = D at *
          match G, D, hd, hd2 with
          | [], [], _, _ => exact .leaf hn h0
        · rw [h0] at hd hd2 c2
          rw [h0]
          generalize gs.drop (st.length - (1 : Int).toNat) = G at *
          generalize st.drop (st.length - (1 : Int).toNat) = D at *
          match G, D, hd, hd2, c2 with
          | [g], [t], _, _, c2 => simpa using FT.un hn h0 c2.1
        · rw [h0] at hd hd2 c2
          rw [h0]
          generalize gs.drop (st.length - (2 : Int).toNat) = G at *
          generalize st.drop (st.length - (2 : Int).toNat) = D at *
          match G, D, hd, hd2, c2 with
          | [g, k], [t, u], _, _, c2 => simpa using FT.bin hn h0 c2.1 c2.2.1
      obtain ⟨gs', q1, q2⟩ := ih _ st' (gs.take (st.length - (opn x.1).toNat) ++ [(gs.drop (st.length - (opn x.1).toNat)).flatten ++ [x]]) (c1.app (show Rs a [_] [_] from ⟨key, trivial⟩)) h
      refine ⟨gs', q1, ?_⟩
      rw [q2]
      simp only [List.flatten_append, List.flatten_cons, List.flatten_nil, List.append_nil, List.append_assoc, List.singleton_append]
      rw [← List.append_assoc, ← List.flatten_append, List.take_append_drop]
    · cases h
theorem gT_FT {a : List Int} {f : List TForm} {t : Tree} (h : gT a [] f = some [t]) : FT a f t := by
  obtain ⟨gs, h1, h2⟩ := gT_Rs f [] [t] [] trivial h
  match gs, h1 with
  | [g], h1 =>
    simp at h2
    exact h2 ▸ h1.1

theorem idx_mid {α : Type} (pre post : List α) (x : α) : idx (pre ++ x :: post) (pre.length : Int) = some x := by
  rw [idx_nat]; simp

end Go.Proofs.YtcjaikkdpclaaaaPu.Ev

/- Plain laws: a formula's parts by their places. No condition. -/
namespace Go.Proofs.YtcjaikkdpclaaaaPu.Ev
open Go
set_option autoImplicit false
set_option linter.unusedVariables false
set_option linter.unusedSimpArgs false

/-- From a part's root back to its head. -/
theorem p_first {a : List Int} {h : List TForm} {t : Tree} (hf : FT a h t) : ∀ (pre post : List TForm) (j : Nat) (r : Int), pre.length + h.length ≤ 1000 → j ≤ 1000 → j + h.length ≤ 1000 →
    l_spec_l14First_60 M (pre ++ (h ++ post)) j ((pre.length : Int) - 1) = some (.inl (r, ())) → l_spec_l14First_60 M (pre ++ (h ++ post)) ((j : Int) + 1) ((pre.length : Int) + h.length - 1) = some (.inl (r, ())) := by
  have step : ∀ (pre post : List TForm) (x : TForm) (j : Nat) (r : Int), ndOK a x = true → pre.length ≤ 1000 → j ≤ 1000 → l_spec_l14First_60 M (pre ++ x :: post) ((j : Int) + opn x.1) ((pre.length : Int) - 1) = some (.inl (r, ())) → l_spec_l14First_60 M (pre ++ x :: post) ((j : Int) + 1) (pre.length : Int) = some (.inl (r, ())) := by
    intro pre post x j r hn hp hj hr
    have ho := ndOK_opn hn
    apply el_spec_l14First_60
    simp only [ql_spec_l14First_60]
    rw [if_pos (by simp <;> omega), idx_mid]
    simp only [Option.bind_some, p_l14Arity]
    rw [w64 (x := opn x.1 - 1) (by omega) (by omega), w64 (by omega) (by omega), w64 (x := (pre.length : Int) - 1) (by omega) (by omega), show (j : Int) + 1 + (opn x.1 - 1) = (j : Int) + opn x.1 by omega]
    exact hr
  induction hf with
  | leaf h h0 =>
    intro pre post j r hp hj hjh hr
    have := step pre post _ j r h (by simp at hp; omega) hj (by rw [h0]; simpa using hr)
    simpa using this
  | @un x g t h h1 hg ih =>
    intro pre post j r hp hj hjh hr
    simp only [List.length_append, List.length_cons, List.length_nil] at hp hjh
    have e1 := ih pre (x :: post) j r (by omega) hj (by omega) (by simpa using hr)
    have := step (pre ++ g) post x j r h (by simp; omega) hj (by
      rw [h1]
      simpa using e1)
    simp only [List.append_assoc, List.length_append, List.length_cons, List.length_nil, List.singleton_append] at this ⊢
    rw [show (pre.length : Int) + ((g.length + (0 + 1) : Nat) : Int) - 1 = ((pre.length + g.length : Nat) : Int) by omega]
    exact this
  | @bin x g k t u h h2 hg hk ih1 ih2 =>
    intro pre post j r hp hj hjh hr
    simp only [List.length_append, List.length_cons, List.length_nil] at hp hjh
    have e1 := ih1 pre (k ++ x :: post) j r (by omega) hj (by omega) (by simpa using hr)
    have e2 := ih2 (pre ++ g) (x :: post) (j + 1) r (by simp; omega) (by have := hg.pos; omega) (by have := hg.pos; omega) (by
      simp only [List.append_assoc, List.length_append] at e1 ⊢
      rw [show ((j + 1 : Nat) : Int) = (j : Int) + 1 by omega, show (((pre.length + g.length : Nat) : Int) - 1) = (pre.length : Int) + g.length - 1 by omega]
      exact e1)
    have := step (pre ++ (g ++ k)) post x j r h (by simp; omega) hj (by
      rw [h2]
      simp only [List.append_assoc, List.length_append] at e2 ⊢
      rw [show ((j + 1 : Nat) : Int) + 1 = (j : Int) + 2 by omega, show ((pre.length + g.length : Nat) : Int) + (k.length : Int) - 1 = ((pre.length + (g.length + k.length) : Nat) : Int) - 1 by omega] at e2
      exact e2)
    simp only [List.append_assoc, List.length_append, List.length_cons, List.length_nil, List.singleton_append] at this ⊢
    rw [show (pre.length : Int) + ((g.length + (k.length + (0 + 1)) : Nat) : Int) - 1 = ((pre.length + (g.length + k.length) : Nat) : Int) by omega]
    exact this

theorem p_l14First {a : List Int} {h : List TForm} {t : Tree} (hf : FT a h t) (pre post : List TForm) (hl : pre.length + h.length ≤ 900) : c_spec_l14First M (pre ++ (h ++ post)) ((pre.length : Int) + h.length) = some (((pre.length : Int) - 1, ()), ()) := by
  apply e_spec_l14First
  simp only [q_spec_l14First]
  rw [w64 (by omega) (by omega)]
  have := p_first hf pre post 0 ((pre.length : Int) - 1) (by omega) (by omega) (by omega) (el_spec_l14First_60 _ _ _ (by simp [ql_spec_l14First_60]))
  rw [show ((0 : Nat) : Int) + 1 = 1 from rfl] at this
  rw [this]
  rfl

theorem leaf_op {a : List Int} {x : TForm} (h : ndOK a x = true) (h0 : opn x.1 = 0) : x.1 = 1 ∧ isT a x.2.2.1 = true ∧ isT a x.2.2.2.1 = true := by
  have h1 : x.1 = 1 := by
    unfold opn at h0
    split at h0
    · assumption
    · split at h0
      · omega
      · split at h0 <;> omega
  unfold ndOK at h
  rw [if_pos h1] at h
  simp only [isB, Bool.and_eq_true] at h
  exact ⟨h1, h.2.1.1, h.2.2.1⟩
theorem un_op {a : List Int} {x : TForm} (h : ndOK a x = true) (h0 : opn x.1 = 1) : (x.1 = 2 ∨ x.1 = 5 ∨ x.1 = 6) ∧ 0 ≤ x.2.1 ∧ x.2.1 ≤ 5 := by
  have h1 : x.1 = 2 ∨ x.1 = 5 ∨ x.1 = 6 := by
    unfold opn at h0
    split at h0
    · omega
    · split at h0
      · assumption
      · split at h0 <;> omega
  refine ⟨h1, ?_⟩
  unfold ndOK at h
  rw [if_neg (by omega)] at h
  split at h
  · split at h
    · simpa using h
    · split at h
      · simp at h; omega
      · cases h
  · cases h
theorem bin_op {a : List Int} {x : TForm} (h : ndOK a x = true) (h0 : opn x.1 = 2) : x.1 = 3 ∨ x.1 = 4 := by
  unfold opn at h0
  split at h0
  · omega
  · split at h0
    · omega
    · split at h0
      · assumption
      · omega

end Go.Proofs.YtcjaikkdpclaaaaPu.Ev

/- Plain laws: nodes that are good are small. No condition but sizes. -/
namespace Go.Proofs.YtcjaikkdpclaaaaPu.Ev
open Go
set_option autoImplicit false
set_option linter.unusedVariables false
set_option linter.unusedSimpArgs false

theorem ndOK_sm {a : List Int} {x : TForm} (h : ndOK a x = true) : x.2.2.1.length ≤ 40 ∧ x.2.2.2.1.length ≤ 40 := by
  unfold ndOK at h
  split at h
  · simp only [isB, isT, Bool.and_eq_true, decide_eq_true_eq] at h
    exact ⟨h.2.1.1.1, h.2.2.1.1⟩
  · split at h
    · rename_i h2; rw [h2.1, h2.2]; simp
    · cases h
theorem ndOK_smF {a : List Int} {x : TForm} (h : ndOK a x = true) : smF x := by
  have := ndOK_sm h
  unfold smF; omega
end Go.Proofs.YtcjaikkdpclaaaaPu.Ev

/- Plain laws: trees are listed node by node; a listed tree is valid exactly if its nodes are. No condition but sizes. -/
namespace Go.Proofs.YtcjaikkdpclaaaaPu.Ev
open Go
set_option autoImplicit false
set_option linter.unusedVariables false
set_option linter.unusedSimpArgs false

/-- Nodes in a row that list a tree. -/
inductive LT : List TForm → Tree → Prop
  | leaf {x : TForm} : LT [x] (mkT x [])
  | un {x : TForm} {g : List TForm} {t : Tree} (hg : LT g t) : LT (g ++ [x]) (mkT x [t])
  | bin {x : TForm} {g k : List TForm} {t u : Tree} (hg : LT g t) (hk : LT k u) : LT (g ++ k ++ [x]) (mkT x [t, u])
theorem FT.lt {a : List Int} {g : List TForm} {t : Tree} (h : FT a g t) : LT g t := by
  induction h with
  | leaf _ _ => exact .leaf
  | un _ _ _ ih => exact .un ih
  | bin _ _ _ _ ih1 ih2 => exact .bin ih1 ih2

theorem p_list_end (x : TForm) (T : Tree) (ts : List Tree) (o : List TForm) : l_impl_tree_list_26 M T o ts ts.length ts.length = some (.inl (T, o, ())) := by
  apply el_impl_tree_list_26
  simp [ql_impl_tree_list_26]
theorem p_list_step (T : Tree) (ts : List Tree) (o o' : List TForm) (i : Nat) (hi : i < ts.length) (hl : ts.length ≤ 1000) (h : c_impl_tree_list M ts[i] o = some ((o', ()), ())) {r : (Tree × List TForm × Unit) ⊕ ((List TForm × Unit) × Unit)}
    (hr : l_impl_tree_list_26 M T o' ts ts.length ((i + 1 : Nat) : Int) = some r) : l_impl_tree_list_26 M T o ts ts.length (i : Int) = some r := by
  apply el_impl_tree_list_26
  simp only [ql_impl_tree_list_26]
  rw [if_pos (by simpa using hi), idx_lt hi]
  simp only [Option.bind_some, h]
  rw [inc_nat (by omega)]
  exact hr
theorem p_list_top (x : TForm) (ts : List Tree) (o o' : List TForm) (hx : smF x) (ho : o'.length ≤ 1000) (h : l_impl_tree_list_26 M (mkT x ts) o ts ts.length 0 = some (.inl (mkT x ts, o', ()))) : c_impl_tree_list M (mkT x ts) o = some ((o' ++ [x], ()), ()) := by
  apply e_impl_tree_list
  simp only [q_impl_tree_list, treeK, h, Option.bind_some, Sum.elim_inl]
  have h1 := hx.1
  have h2 := hx.2
  rw [if_pos (by omega), if_pos (by omega), if_pos (by simp; omega)]

theorem p_list {g : List TForm} {t : Tree} (h : LT g t) : ∀ o : List TForm, (∀ x ∈ g, smF x) → o.length + g.length ≤ 1000 → c_impl_tree_list M t o = some ((o ++ g, ()), ()) := by
  induction h with
  | @leaf x =>
    intro o hx hl
    exact p_list_top x [] o o (hx x (by simp)) (by omega) (p_list_end x _ [] o)
  | @un x g t hg ih =>
    intro o hx hl
    simp only [List.length_append, List.length_cons, List.length_nil] at hl
    rw [← List.append_assoc]
    refine p_list_top x [t] o (o ++ g) (hx x (by simp)) (by simp; omega) ?_
    exact p_list_step _ [t] o (o ++ g) 0 (by simp) (by simp) (ih o (fun y hy => hx y (by simp [hy])) (by omega)) (p_list_end x _ [t] _)
  | @bin x g k t u hg hk ih1 ih2 =>
    intro o hx hl
    simp only [List.length_append, List.length_cons, List.length_nil] at hl
    rw [← List.append_assoc]
    refine p_list_top x [t, u] o (o ++ (g ++ k)) (hx x (by simp)) (by simp; omega) ?_
    refine p_list_step _ [t, u] o (o ++ g) 0 (by simp) (by simp) (ih1 o (fun y hy => hx y (by simp [hy])) (by omega)) ?_
    refine p_list_step _ [t, u] (o ++ g) (o ++ (g ++ k)) 1 (by simp) (by simp) (by rw [← List.append_assoc]; exact ih2 (o ++ g) (fun y hy => hx y (by simp [hy])) (by simp; omega)) (p_list_end x _ [t, u] _)

theorem p_grow1_loop (s : TSign) (hg : gS s.1 = true) (f : List TForm) (hl : f.length ≤ 15) : ∀ k i : Nat, i + k = f.length → ∀ st : List Tree, st.length ≤ i →
    l_impl_Sign_grow_w1_122 M s st f f.length i = some (match gT s.1 st (f.drop i) with | some st' => .inl (st', ()) | none => .inr (((), false, ()), ())) := by
  intro k
  induction k with
  | zero =>
    intro i hi st hst
    obtain rfl : i = f.length := by omega
    apply el_impl_Sign_grow_w1_122
    simp [ql_impl_Sign_grow_w1_122, gT]
  | succ k ih =>
    intro i hi st hst
    have h1 : i < f.length := by omega
    rw [List.drop_eq_getElem_cons h1]
    apply el_impl_Sign_grow_w1_122
    simp only [ql_impl_Sign_grow_w1_122]
    rw [if_pos (by simpa using h1), idx_lt h1]
    simp only [Option.bind_some, form_eta, sign_eta', p_isNode s hg, gT]
    by_cases h2 : ndOK s.1 f[i] = true
    · have ho := ndOK_opn h2
      by_cases h3 : (opn f[i].1).toNat ≤ st.length
      · have e : (st.length : Int) - opn f[i].1 = ((st.length - (opn f[i].1).toNat : Nat) : Int) := by omega
        rw [if_pos (show ndOK s.1 f[i] = true ∧ (opn f[i].1).toNat ≤ st.length from ⟨h2, h3⟩), h2, if_neg (by simp), p_operands s.1 f[i] h2]
        simp only [Option.bind_some]
        rw [w64 (x := (st.length : Int) - opn f[i].1) (by omega) (by omega), e, if_neg (by simp <;> omega)]
        simp only [Int.toNat_natCast, List.take_length]
        rw [if_pos (by omega), if_pos (by simp; omega), if_pos (by omega), if_pos (by simp; omega), inc_nat (by omega), ih (i + 1) (by omega) _ (by simp; omega)]
      · rw [if_neg (show ¬ (ndOK s.1 f[i] = true ∧ (opn f[i].1).toNat ≤ st.length) from fun h => h3 h.2), h2, if_neg (by simp), p_operands s.1 f[i] h2]
        simp only [Option.bind_some]
        rw [w64 (x := (st.length : Int) - opn f[i].1) (by omega) (by omega), if_pos (by simp; omega)]
    · rw [if_neg (show ¬ (ndOK s.1 f[i] = true ∧ (opn f[i].1).toNat ≤ st.length) from fun h => h2 h.1)]
      rw [Bool.not_eq_true] at h2
      rw [h2]
      rfl
theorem p_grow1 (s : TSign) (hg : gS s.1 = true) (f : List TForm) (hlf : f.length ≤ 1000) : c_impl_Sign_grow_w1 M s f = some (((), fOK s.1 f, ()), ()) := by
  apply e_impl_Sign_grow_w1
  simp only [q_impl_Sign_grow_w1, sign_eta']
  by_cases h15 : f.length ≤ 15
  · rw [if_neg (by simp; omega)]
    have hl := p_grow1_loop s hg f h15 f.length 0 (by omega) [] (by simp)
    rw [show ((0 : Nat) : Int) = 0 from rfl, List.drop_zero] at hl
    have hgf := gT_gF s.1 f []
    rw [List.length_nil] at hgf
    rw [hl]
    cases hT : gT s.1 [] f with
    | none =>
      rw [hT] at hgf
      simp [fOK, hgf]
    | some st' =>
      rw [hT] at hgf
      simp only [Option.bind_some, Sum.elim_inl]
      by_cases h1 : st'.length = 1
      · match st', h1 with
        | [t], _ => simp [fOK, hgf, h15]
      · rw [if_pos (by simp; omega)]
        simp [fOK, hgf, h1]
  · rw [if_pos (by simp; omega)]
    simp [fOK, h15]

theorem p_listed (s : TSign) (hg : gS s.1 = true) {g : List TForm} {t : Tree} (h : LT g t) (hx : ∀ x ∈ g, smF x) (hl : g.length ≤ 1000) : c_impl_Sign_listed M s t = some (if fOK s.1 g = true then ((g, true, ()), ()) else (([], false, ()), ())) := by
  apply e_impl_Sign_listed
  have h1 := p_list h [] hx (by simpa using hl)
  rw [List.nil_append] at h1
  simp only [q_impl_Sign_listed, h1, Option.bind_some, sign_eta', p_grow1 s hg g hl]
  cases fOK s.1 g <;> rfl

theorem p_own' (l : List Int) (hl : l.length ≤ 1048576) : c_spec_l1Own M l = some ((l, ()), ()) := by
  apply e_spec_l1Own
  simp only [q_spec_l1Own, List.length_nil, List.nil_append]
  rw [if_pos (by omega)]
theorem p_ownNode (x : TForm) (hx : smF x) : c_spec_l14OwnNode M x = some ((x, ()), ()) := by
  apply e_spec_l14OwnNode
  simp only [q_spec_l14OwnNode, p_own' _ hx.1, p_own' _ hx.2, Option.bind_some]

theorem FT.sm {a : List Int} {g : List TForm} {t : Tree} (h : FT a g t) : ∀ x ∈ g, smF x := by
  induction h with
  | leaf h _ => intro y hy; simp at hy; subst hy; exact ndOK_smF h
  | un h _ _ ih => intro y hy; rw [List.mem_append] at hy; rcases hy with hy | hy
                   · exact ih y hy
                   · simp at hy; subst hy; exact ndOK_smF h
  | bin h _ _ _ ih1 ih2 => intro y hy; rw [List.mem_append, List.mem_append] at hy; rcases hy with (hy | hy) | hy
                           · exact ih1 y hy
                           · exact ih2 y hy
                           · simp at hy; subst hy; exact ndOK_smF h
end Go.Proofs.YtcjaikkdpclaaaaPu.Ev

/- Plain laws: nodes that list a tree list one tree alone. No condition. -/
namespace Go.Proofs.YtcjaikkdpclaaaaPu.Ev
open Go
set_option autoImplicit false
set_option linter.unusedVariables false
set_option linter.unusedSimpArgs false

/-- Nodes that list a tree, each with as many trees as its kind asks. -/
inductive FP : List TForm → Tree → Prop
  | leaf {x : TForm} (h0 : opn x.1 = 0) : FP [x] (mkT x [])
  | un {x : TForm} {g : List TForm} {t : Tree} (h1 : opn x.1 = 1) (hg : FP g t) : FP (g ++ [x]) (mkT x [t])
  | bin {x : TForm} {g k : List TForm} {t u : Tree} (h2 : opn x.1 = 2) (hg : FP g t) (hk : FP k u) : FP (g ++ k ++ [x]) (mkT x [t, u])
theorem FP.gts {a : List Int} {f : List TForm} {t : Tree} (h : FP f t) : ∀ (st z : List Tree) (r : List TForm), gT a st (f ++ r) = some z → gT a (st ++ [t]) r = some z := by
  induction h with
  | @leaf x h0 =>
    intro st z r hz
    simp only [List.singleton_append, Ev.gT] at hz
    split at hz
    · rw [h0] at hz
      simpa using hz
    · cases hz
  | @un x g t h1 hg ih =>
    intro st z r hz
    rw [List.append_assoc] at hz
    have := ih st z _ hz
    simp only [List.singleton_append, Ev.gT] at this
    split at this
    · rw [h1] at this
      simpa using this
    · cases this
  | @bin x g k t u h2 hg hk ih1 ih2 =>
    intro st z r hz
    rw [List.append_assoc, List.append_assoc] at hz
    have e1 := ih1 st z _ hz
    have e2 := ih2 _ z _ e1
    simp only [List.singleton_append, Ev.gT] at e2
    split at e2
    · rw [h2] at e2
      have hl : (st ++ [t] ++ [u]).length - (2 : Int).toNat = st.length := by simp
      rw [hl] at e2
      simpa using e2
    · cases e2
theorem FP.uniq {a : List Int} {f : List TForm} {t t' : Tree} (h : FP f t) (h' : gT a [] f = some [t']) : t = t' := by
  have := h.gts (a := a) [] [t'] [] (by simpa using h')
  simp only [List.nil_append, Ev.gT, Option.some.injEq, List.cons.injEq, and_true] at this
  exact this
theorem FT.gts' {a : List Int} {h : List TForm} {t : Tree} (hf : FT a h t) : ∀ (st : List Tree) (r : List TForm), gT a st (h ++ r) = gT a (st ++ [t]) r := by
  induction hf with
  | @leaf x h h0 =>
    intro st r
    simp only [List.singleton_append, gT]
    rw [if_pos ⟨h, by rw [h0]; simp⟩, h0]
    simp
  | @un x g t h h1 hg ih =>
    intro st r
    rw [List.append_assoc, ih]
    simp only [List.singleton_append, gT]
    rw [if_pos ⟨h, by rw [h1]; simp⟩, h1]
    simp
  | @bin x g k t u h h2 hg hk ih1 ih2 =>
    intro st r
    rw [List.append_assoc, List.append_assoc, ih1, ih2]
    simp only [List.singleton_append, gT]
    rw [if_pos ⟨h, by rw [h2]; simp⟩, h2]
    have hl : (st ++ [t] ++ [u]).length - (2 : Int).toNat = st.length := by simp
    rw [hl]
    simp
end Go.Proofs.YtcjaikkdpclaaaaPu.Ev

/- Plain laws: formulas as the reference tells them. No condition but sizes. -/
namespace Go.Proofs.YtcjaikkdpclaaaaPu.Ev
open Go
set_option autoImplicit false
set_option linter.unusedVariables false
set_option linter.unusedSimpArgs false

theorem p_spec_GoodForm (s : TSign) (hs : s.1.length ≤ 1048576) (f : List TForm) (hl : f.length ≤ 1048576) (hx : ∀ x ∈ f, smF x) : c_spec_GoodForm M s f = some ((gS s.1 && fOK s.1 f, ()), ()) := by
  apply e_spec_GoodForm
  simp only [q_spec_GoodForm, sign_eta', p_spec_GoodSign s (by omega), Option.bind_some]
  cases hg : gS s.1 with
  | false => rfl
  | true => rw [if_pos rfl, p_l14Form s hg f hl hx]; rfl
end Go.Proofs.YtcjaikkdpclaaaaPu.Ev
