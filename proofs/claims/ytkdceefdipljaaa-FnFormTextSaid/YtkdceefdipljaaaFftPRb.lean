/- Texts laid together: PAa, PBa, PB, PFd, PG, PJ, PO, PGs, PAb, PCa, PC, PKa, PRa, PRb; no condition but those that each theorem names. -/
import Derived.Test.YtkdceefdipljaaaFftEq
/- Plain laws: numbers and rows. No condition but sizes. -/
namespace Go.Proofs.YtkdceefdipljaaaFft.Ev
open Go
set_option autoImplicit false
set_option linter.unusedVariables false
set_option linter.unusedSimpArgs false

theorem w64 {x : Int} (h : -9223372036854775808 ≤ x) (k : x < 9223372036854775808) : IntKind.i64.wrap x = x := by
  rw [IntKind.wrap_i64]
  omega
theorem w8 {x : Int} (h : 0 ≤ x) (k : x < 256) : IntKind.u8.wrap x = x := by
  simp only [IntKind.wrap, IntKind.bits, IntKind.signed, Bool.false_and, Bool.false_eq_true, if_false]
  omega
theorem idx_nat {α : Type} (xs : List α) (i : Nat) : idx xs (i : Int) = xs[i]? := by simp [idx]
theorem idx_zero {α : Type} (xs : List α) : idx xs 0 = xs[0]? := by simp [idx]
theorem idx_lt {α : Type} {xs : List α} {i : Nat} (h : i < xs.length) : idx xs (i : Int) = some xs[i] := by simp [idx, h]
theorem inc_nat {i : Nat} (h : i < 4611686018427387904) : IntKind.i64.wrap ((i : Int) + 1) = ((i + 1 : Nat) : Int) := by
  rw [w64 (by omega) (by omega)]; rfl

abbrev TSign := List Int × Unit
abbrev TLit := Bool × List Int × List Int × Unit

/-- Lists of no more than 2^20 numbers. -/
def smL (x : TLit) : Prop := x.2.1.length ≤ 1048576 ∧ x.2.2.1.length ≤ 1048576

end Go.Proofs.YtkdceefdipljaaaFft.Ev

/- Plain laws: good signatures. No condition but sizes. -/
namespace Go.Proofs.YtkdceefdipljaaaFft.Ev
open Go
set_option autoImplicit false
set_option linter.unusedVariables false
set_option linter.unusedSimpArgs false

theorem p_l1In (x lo hi : Int) : c_spec_l1In M x lo hi = some ((decide (lo ≤ x) && decide (x ≤ hi), ()), ()) := by
  apply e_spec_l1In
  simp only [q_spec_l1In, decide_eq_true_eq]
  by_cases h : x ≥ lo
  · rw [if_pos h]; simp [h]
  · rw [if_neg h]; simp; omega

theorem p_l1All_loop (a : List Int) (lo up : Int) (ha : a.length ≤ 17592186044416) : ∀ k i : Nat, i + k = a.length → l_spec_l1All_26 M lo up a a.length i = some (if (a.drop i).all (fun x => decide (lo ≤ x) && decide (x ≤ up)) = true then .inl () else .inr ((false, ()), ())) := by
  intro k
  induction k with
  | zero =>
    intro i hi
    obtain rfl : i = a.length := by omega
    apply el_spec_l1All_26
    simp [ql_spec_l1All_26]
  | succ k ih =>
    intro i hi
    apply el_spec_l1All_26
    have h1 : i < a.length := by omega
    simp only [ql_spec_l1All_26]
    rw [if_pos (by simpa using h1), idx_lt h1, inc_nat (by omega)]
    simp only [Option.bind_some, p_l1In, ih (i + 1) (by omega)]
    rw [List.drop_eq_getElem_cons h1, List.all_cons]
    generalize (decide (lo ≤ a[i]) && decide (a[i] ≤ up)) = b
    cases b <;> rfl

theorem p_l1All (a : List Int) (lo hi : Int) (ha : a.length ≤ 17592186044416) : c_spec_l1All M a lo hi = some ((a.all (fun x => decide (lo ≤ x) && decide (x ≤ hi)), ()), ()) := by
  apply e_spec_l1All
  simp only [q_spec_l1All]
  have := p_l1All_loop a lo hi ha a.length 0 (by omega)
  rw [show ((0 : Nat) : Int) = 0 from rfl] at this
  rw [this, List.drop_zero]
  cases a.all (fun x => decide (lo ≤ x) && decide (x ≤ hi)) <;> simp

/-- A signature that is good. -/
def gS (a : List Int) : Bool := decide (1 ≤ a.length) && (decide (a.length ≤ 10) && (a.all (fun x => decide (0 ≤ x) && decide (x ≤ 3)) && decide (a[0]? = some 0)))

theorem p_spec_GoodSign (s : TSign) (ha : s.1.length ≤ 17592186044416) : c_spec_GoodSign M s = some ((gS s.1, ()), ()) := by
  apply e_spec_GoodSign
  simp only [q_spec_GoodSign, p_l1In, p_l1All s.1 0 3 ha, Option.bind_some, gS]
  rcases hs : s.1 with _ | ⟨x, r⟩
  · simp
  · rw [idx_zero]
    simp only [List.length_cons, List.getElem?_cons_zero, Option.bind_some]
    by_cases h : r.length + 1 ≤ 10
    · rw [if_pos (by simp; omega)]
      cases (x :: r).all (fun x => decide (0 ≤ x) && decide (x ≤ 3)) <;> simp [h]
      rw [Bool.eq_iff_iff]; simp
    · rw [if_neg (by simp; omega)]
      simp [h]

theorem p_gs1 (x : Int) : c_impl_GoodSign_1 M x = some ((!(decide (0 ≤ x) && decide (x ≤ 3)), ()), ()) := by
  apply e_impl_GoodSign_1
  simp only [q_impl_GoodSign_1, decide_eq_true_eq]
  by_cases h : x < 0
  · rw [if_pos h]; simp; omega
  · rw [if_neg h]
    have h0 : 0 ≤ x := by omega
    rw [decide_eq_true h0, Bool.true_and]
    by_cases h3 : x ≤ 3
    · rw [decide_eq_true h3, decide_eq_false (by omega)]; rfl
    · rw [decide_eq_false h3, decide_eq_true (by omega)]; rfl

theorem p_gsIdx_loop (a : List Int) (ha : a.length ≤ 17592186044416) : ∀ k i : Nat, i + k = a.length → ∃ r, l_slices_IndexFunc_int_int__impl_GoodSign_1_26 M a () a.length i = some r ∧ (match r with | .inl _ => (a.drop i).all (fun x => decide (0 ≤ x) && decide (x ≤ 3)) = true | .inr r => 0 ≤ r.1.1 ∧ (a.drop i).all (fun x => decide (0 ≤ x) && decide (x ≤ 3)) = false) := by
  intro k
  induction k with
  | zero =>
    intro i hi
    obtain rfl : i = a.length := by omega
    refine ⟨.inl (), el_slices_IndexFunc_int_int__impl_GoodSign_1_26 _ _ _ _ (by simp [ql_slices_IndexFunc_int_int__impl_GoodSign_1_26]), by simp⟩
  | succ k ih =>
    intro i hi
    have h1 : i < a.length := by omega
    obtain ⟨r, hr, hm⟩ := ih (i + 1) (by omega)
    rw [List.drop_eq_getElem_cons h1, List.all_cons]
    by_cases hp : (decide (0 ≤ a[i]) && decide (a[i] ≤ 3)) = true
    · refine ⟨r, el_slices_IndexFunc_int_int__impl_GoodSign_1_26 _ _ _ _ ?_, by rw [hp, Bool.true_and]; exact hm⟩
      simp only [ql_slices_IndexFunc_int_int__impl_GoodSign_1_26]
      rw [if_pos (by simpa using h1), idx_lt h1, inc_nat (by omega)]
      simp only [Option.bind_some, p_gs1, hp, Bool.not_true, Bool.false_eq_true, if_false]
      exact hr
    · rw [Bool.not_eq_true] at hp
      refine ⟨.inr (((i : Int), ()), ()), el_slices_IndexFunc_int_int__impl_GoodSign_1_26 _ _ _ _ ?_, Int.natCast_nonneg i, by rw [hp, Bool.false_and]⟩
      simp only [ql_slices_IndexFunc_int_int__impl_GoodSign_1_26]
      rw [if_pos (by simpa using h1), idx_lt h1]
      simp only [Option.bind_some, p_gs1, hp, Bool.not_false, if_true]

theorem p_gsContains (a : List Int) (ha : a.length ≤ 17592186044416) : c_slices_ContainsFunc_int_int__impl_GoodSign_1 M a () = some ((!(a.all (fun x => decide (0 ≤ x) && decide (x ≤ 3))), ()), ()) := by
  apply e_slices_ContainsFunc_int_int__impl_GoodSign_1
  simp only [q_slices_ContainsFunc_int_int__impl_GoodSign_1]
  obtain ⟨r, hr, hm⟩ := p_gsIdx_loop a ha a.length 0 (by omega)
  rw [show ((0 : Nat) : Int) = 0 from rfl] at hr
  rw [List.drop_zero] at hm
  cases r with
  | inl r =>
    rw [e_slices_IndexFunc_int_int__impl_GoodSign_1 a () (r := ((-1, ()), ())) (by simp only [q_slices_IndexFunc_int_int__impl_GoodSign_1, hr, Option.bind_some, Sum.elim_inl])]
    simp only at hm
    simp [hm]
  | inr r =>
    rw [e_slices_IndexFunc_int_int__impl_GoodSign_1 a () (r := r) (by simp only [q_slices_IndexFunc_int_int__impl_GoodSign_1, hr, Option.bind_some, Sum.elim_inr])]
    simp only at hm
    simp [hm]

theorem p_impl_GoodSign (s : TSign) (ha : s.1.length ≤ 17592186044416) : c_impl_GoodSign M s = some ((gS s.1, ()), ()) := by
  apply e_impl_GoodSign
  simp only [q_impl_GoodSign, p_gsContains s.1 ha, Option.bind_some, gS, decide_eq_true_eq]
  rcases hs : s.1 with _ | ⟨x, r⟩
  · simp
  · rw [idx_zero]
    simp only [List.length_cons, List.getElem?_cons_zero, Option.bind_some]
    rw [if_neg (by omega)]
    by_cases h : r.length + 1 ≤ 10
    · rw [if_neg (by omega)]
      by_cases hx : x = 0
      · subst hx; simp [h]
      · rw [if_pos (by simpa using hx)]; simp [hx]
    · rw [if_pos (by omega)]
      simp [h]

theorem sign_eta (x : TSign) : (x.1, ()) = x := rfl
theorem lit_eta (x : TLit) : (x.1, x.2.1, x.2.2.1, ()) = x := rfl
theorem sign_eta' (x : TSign) : (x.1, ()) = x := rfl

end Go.Proofs.YtkdceefdipljaaaFft.Ev

/- Plain laws: signatures and terms: both programs tell the same signatures and terms. No condition but sizes. -/
namespace Go.Proofs.YtkdceefdipljaaaFft.Ev
open Go
set_option autoImplicit false
set_option linter.unusedVariables false
set_option linter.unusedSimpArgs false

/-! ### Terms -/
def ar (a : List Int) (n : Int) : Int := if n < 0 then 0 else (a[n.toNat]?).getD 0
def badN (a : List Int) (n : Int) : Prop := n < -12 ∨ (a.length : Int) ≤ n
instance (a : List Int) (n : Int) : Decidable (badN a n) := inferInstanceAs (Decidable (_ ∨ _))
/-- What stands behind some terms. -/
def sE (a : List Int) : Int → List Int → Option (List Int)
  | k, [] => if k ≤ 0 then some [] else none
  | k, n :: t => if k ≤ 0 then some (n :: t) else if badN a n then none else sE a (k - 1 + ar a n) t

theorem ar_ge {a : List Int} (hg : gS a = true) (n : Int) : 0 ≤ ar a n ∧ ar a n ≤ 3 := by
  unfold ar
  split
  · omega
  · cases h : a[n.toNat]? with
    | none => simp
    | some x =>
      simp only [gS, Bool.and_eq_true, List.all_eq_true, decide_eq_true_eq] at hg
      have := hg.2.2.1 x (List.mem_of_getElem? h)
      simpa using this
theorem idx_ar {a : List Int} {n : Int} (h : ¬ badN a n) (h0 : ¬ n < 0) : idx a n = some (ar a n) := by
  unfold badN at h
  have h1 : n.toNat < a.length := by omega
  unfold ar idx
  rw [if_pos (by omega), if_neg h0, List.getElem?_eq_getElem h1]
  rfl

theorem sE_zero (a : List Int) (t : List Int) : sE a 0 t = some t := by cases t <;> simp [sE]
theorem sE_app {a : List Int} (hg : gS a = true) : ∀ (u : List Int) (j k : Int) (x : List Int), 0 ≤ j → 0 ≤ k → sE a j u = some [] → sE a (j + k) (u ++ x) = sE a k x := by
  intro u
  induction u with
  | nil =>
    intro j k x hj hk h
    simp only [sE] at h
    split at h
    · obtain rfl : j = 0 := by omega
      simp
    · cases h
  | cons n u ih =>
    intro j k x hj hk h
    simp only [sE] at h
    split at h
    · cases h
    · rename_i hj'
      split at h
      · cases h
      · rename_i hb
        have hn := ar_ge hg n
        rw [List.cons_append]
        conv => lhs; unfold sE
        rw [if_neg (by omega), if_neg hb]
        have := ih (j - 1 + ar a n) k x (by omega) hk h
        rw [← this]
        congr 1; omega
theorem sE_split {a : List Int} (hg : gS a = true) : ∀ (t : List Int) (j k : Int) (r : List Int), 0 ≤ j → 0 ≤ k → sE a (j + k) t = some r → ∃ u x, t = u ++ x ∧ sE a j u = some [] ∧ sE a k x = some r := by
  intro t
  induction t with
  | nil =>
    intro j k r hj hk h
    simp only [sE] at h
    split at h
    · obtain rfl : j = 0 := by omega
      obtain rfl : k = 0 := by omega
      exact ⟨[], [], rfl, by simp [sE], by simpa [sE] using h⟩
    · cases h
  | cons n t ih =>
    intro j k r hj hk h
    by_cases h0 : j = 0
    · subst h0
      exact ⟨[], n :: t, rfl, by simp [sE], by simpa using h⟩
    · simp only [sE] at h
      split at h
      · omega
      · split at h
        · cases h
        · rename_i hb
          have hn := ar_ge hg n
          obtain ⟨u, x, rfl, h1, h2⟩ := ih (j - 1 + ar a n) k r (by omega) hk (by rw [← h]; congr 1; omega)
          refine ⟨n :: u, x, rfl, ?_, h2⟩
          unfold sE
          rw [if_neg (by omega), if_neg hb]
          exact h1
/-- A term. -/
abbrev Tm (a : List Int) (u : List Int) : Prop := sE a 1 u = some []
theorem sE_kids {a : List Int} (hg : gS a = true) : ∀ (k : Nat) (t r : List Int), sE a k t = some r → ∃ us : List (List Int), us.length = k ∧ t = us.flatten ++ r ∧ ∀ u ∈ us, Tm a u := by
  intro k
  induction k with
  | zero =>
    intro t r h
    rw [show ((0 : Nat) : Int) = 0 from rfl, sE_zero] at h
    obtain rfl := Option.some.inj h
    exact ⟨[], rfl, rfl, by simp⟩
  | succ k ih =>
    intro t r h
    obtain ⟨u, x, rfl, h1, h2⟩ := sE_split hg t 1 k r (by omega) (by omega) (by rw [← h]; congr 1; omega)
    obtain ⟨us, hl, rfl, hu⟩ := ih x r h2
    exact ⟨u :: us, by simp [hl], by simp, by simpa using ⟨h1, hu⟩⟩
theorem Tm.parts {a : List Int} (hg : gS a = true) {u : List Int} (h : Tm a u) : ∃ (n : Int) (us : List (List Int)), u = n :: us.flatten ∧ ¬ badN a n ∧ (us.length : Int) = ar a n ∧ ∀ v ∈ us, Tm a v := by
  cases u with
  | nil => simp [Tm, sE] at h
  | cons n t =>
    simp only [Tm, sE] at h
    rw [if_neg (by omega)] at h
    split at h
    · cases h
    · rename_i hb
      have hn := ar_ge hg n
      obtain ⟨us, hl, ht, hu⟩ := sE_kids hg (ar a n).toNat t [] (by rw [← h]; congr 1; omega)
      exact ⟨n, us, by rw [ht]; simp, hb, by omega, hu⟩
theorem Tm.rest {a : List Int} (hg : gS a = true) {u : List Int} (h : Tm a u) (x : List Int) : sE a 1 (u ++ x) = some x := by
  have := sE_app hg u 1 0 x (by omega) (by omega) h
  rw [sE_zero] at this
  simpa using this
theorem Tm.pos {a u : List Int} (h : Tm a u) : 0 < u.length := by
  cases u with
  | nil => simp [Tm, sE] at h
  | cons n t => simp

theorem p_l1End_loop (s : TSign) (hg : gS s.1 = true) (t : List Int) (ht : t.length ≤ 1048576) : ∀ (k i : Nat) (need : Int), i + k = t.length → 0 ≤ need → need + 3 * k ≤ 4000000 →
    l_spec_l1End_28 M t i s need = some (match sE s.1 need (t.drop i) with | none => .inr (((-1 : Int), ()), ()) | some r => .inl ((t.length : Int) - r.length, ())) := by
  have hs : s.1.length ≤ 10 := by simp only [gS, Bool.and_eq_true, decide_eq_true_eq] at hg; exact hg.2.1
  intro k
  induction k with
  | zero =>
    intro i need hi h0 hn
    obtain rfl : i = t.length := by omega
    apply el_spec_l1End_28
    simp only [ql_spec_l1End_28, List.drop_length, sE, decide_eq_true_eq]
    by_cases h : need > 0
    · rw [if_pos h, if_pos (by omega), if_neg (by omega)]
    · rw [if_neg h, if_pos (by omega)]; simp
  | succ k ih =>
    intro i need hi h0 hn
    apply el_spec_l1End_28
    have h1 : i < t.length := by omega
    rw [List.drop_eq_getElem_cons h1]
    simp only [ql_spec_l1End_28, sE, decide_eq_true_eq]
    by_cases h : need > 0
    · rw [if_pos h, if_neg (by omega), if_neg (by omega), idx_lt h1]
      simp only [Option.bind_some, p_l1In]
      rw [w64 (x := (s.1.length : Int) - 1) (by omega) (by omega)]
      by_cases hb : badN s.1 t[i]
      · rw [if_pos hb, if_pos (by unfold badN at hb; simp; omega)]
      · rw [if_neg hb, if_neg (by unfold badN at hb; simp; omega)]
        have ha := ar_ge hg t[i]
        have hw : IntKind.i64.wrap (need - 1) = need - 1 := w64 (by omega) (by omega)
        by_cases hx : t[i] ≥ 0
        · rw [if_pos hx, idx_ar hb (by omega), hw]
          simp only [Option.bind_some, Sum.elim_inl]
          rw [w64 (x := need - 1 + _) (by omega) (by omega), inc_nat (by omega)]
          exact ih (i + 1) _ (by omega) (by omega) (by omega)
        · have : ar s.1 t[i] = 0 := by unfold ar; rw [if_pos (by omega)]
          rw [if_neg hx, hw, this]
          simp only [Option.bind_some, Sum.elim_inl]
          rw [inc_nat (by omega), Int.add_zero]
          exact ih (i + 1) _ (by omega) (by omega) (by omega)
    · rw [if_neg h, if_pos (by omega)]
      simp only [List.length_cons, List.length_drop]
      congr 3
      omega

theorem p_l1End (s : TSign) (hg : gS s.1 = true) (t : List Int) (i : Nat) (hi : i ≤ t.length) (ht : t.length ≤ 1048576) :
    c_spec_l1End M s t i = some ((match sE s.1 1 (t.drop i) with | none => (-1 : Int) | some r => (t.length : Int) - r.length, ()), ()) := by
  apply e_spec_l1End
  simp only [q_spec_l1End]
  rw [p_l1End_loop s hg t ht (t.length - i) i 1 (by omega) (by omega) (by omega)]
  cases sE s.1 1 (t.drop i) <;> rfl

theorem sE_len {a : List Int} : ∀ (t : List Int) (k : Int) (r : List Int), sE a k t = some r → r.length ≤ t.length := by
  intro t
  induction t with
  | nil => intro k r h; simp only [sE] at h; split at h <;> simp_all
  | cons n t ih =>
    intro k r h
    simp only [sE] at h
    split at h
    · obtain rfl := Option.some.inj h; simp
    · split at h
      · cases h
      · have := ih _ _ h; simp; omega

/-- A term of no more than 40 numbers. -/
def isT (a t : List Int) : Bool := decide (t.length ≤ 40) && decide (Tm a t)

theorem p_l1Term (s : TSign) (hg : gS s.1 = true) (t : List Int) (ht : t.length ≤ 1048576) : c_spec_l1Term M s t = some ((isT s.1 t, ()), ()) := by
  apply e_spec_l1Term
  have := p_l1End s hg t 0 (by omega) ht
  rw [show ((0 : Nat) : Int) = 0 from rfl, List.drop_zero] at this
  simp only [q_spec_l1Term, p_l1In, Option.bind_some, this, isT]
  by_cases h0 : t = []
  · subst h0; simp [Tm, sE]
  · have : 0 < t.length := List.length_pos_iff.2 h0
    by_cases h : t.length ≤ 40
    · rw [if_pos (by simp; omega)]
      simp only [Option.some.injEq, Prod.mk.injEq, and_true]
      rw [Bool.eq_iff_iff]
      simp only [Bool.and_eq_true, decide_eq_true_eq, Tm, beq_iff_eq]
      cases hE : sE s.1 1 t with
      | none => simp
      | some r =>
        have := sE_len _ _ _ hE
        simp only [Option.some.injEq]
        constructor
        · intro h'; exact ⟨h, List.eq_nil_of_length_eq_zero (by omega)⟩
        · rintro ⟨-, rfl⟩; simp
    · rw [if_neg (by simp; omega)]
      simp [h]

theorem p_args (s : TSign) (n : Int) (h : ¬ badN s.1 n) : c_impl_Sign_args M s n = some ((ar s.1 n, ()), ()) := by
  apply e_impl_Sign_args
  simp only [q_impl_Sign_args, decide_eq_true_eq]
  by_cases hn : n < 0
  · rw [if_pos hn]; simp [ar, hn]
  · rw [if_neg hn, idx_ar h hn]; rfl

theorem p_isTerm_loop (s : TSign) (hg : gS s.1 = true) (t : List Int) (ht : t.length ≤ 40) : ∀ (k i : Nat) (left : Int), i + k = t.length → 0 ≤ left → left + 3 * k ≤ 4000000 →
    ∃ r, l_impl_Sign_isTerm_122 M s left t t.length i = some r ∧ Sum.elim (fun y => y.1 == 0) (fun r => r.1.1) r = decide (sE s.1 left (t.drop i) = some []) := by
  intro k
  induction k with
  | zero =>
    intro i left hi h0 hn
    obtain rfl : i = t.length := by omega
    refine ⟨.inl (left, ()), el_impl_Sign_isTerm_122 _ _ _ _ _ ?_, ?_⟩
    · simp [ql_impl_Sign_isTerm_122]
    · rw [List.drop_length]
      simp only [Sum.elim_inl, sE]
      rw [Bool.eq_iff_iff]; simp; omega
  | succ k ih =>
    intro i left hi h0 hn
    have h1 : i < t.length := by omega
    rw [List.drop_eq_getElem_cons h1]
    have pre : ∀ r, (if (left == 0) = true then some (.inr ((false, ()), ())) else if decide (t[i] < -12) = true then some (.inr ((false, ()), ())) else if decide (t[i] ≥ (s.1.length : Int)) = true then some (.inr ((false, ()), ())) else (c_impl_Sign_args M (s.1, ()) t[i]).bind fun r2 => l_impl_Sign_isTerm_122 M (s.1, ()) (IntKind.i64.wrap (left + IntKind.i64.wrap (r2.1.1 - 1))) t t.length (IntKind.i64.wrap ((i : Int) + 1))) = some r → l_impl_Sign_isTerm_122 M s left t t.length i = some r := by
      intro r hr
      apply el_impl_Sign_isTerm_122
      simp only [ql_impl_Sign_isTerm_122]
      rw [if_pos (by simpa using h1), idx_lt h1]
      exact hr
    by_cases hl : left = 0
    · subst hl
      refine ⟨.inr ((false, ()), ()), pre _ rfl, (decide_eq_false (by rw [sE_zero]; exact fun h => by cases h)).symm⟩
    · by_cases hb : badN s.1 t[i]
      · refine ⟨.inr ((false, ()), ()), pre _ ?_, by simp [sE, hb]; omega⟩
        rw [if_neg (by simpa using hl)]
        unfold badN at hb
        by_cases h2 : t[i] < -12
        · rw [if_pos (by simpa using h2)]
        · rw [if_neg (by simpa using h2), if_pos (by simp; omega)]
      · have ha := ar_ge hg t[i]
        obtain ⟨r, hr, hm⟩ := ih (i + 1) (left - 1 + ar s.1 t[i]) (by omega) (by omega) (by omega)
        refine ⟨r, pre _ ?_, ?_⟩
        · have hb' := hb
          unfold badN at hb'
          rw [if_neg (by simpa using hl), if_neg (by simp; omega), if_neg (by simp; omega), p_args (s.1, ()) _ hb]
          simp only [Option.bind_some]
          rw [w64 (x := ar s.1 t[i] - 1) (by omega) (by omega), w64 (by omega) (by omega), inc_nat (by omega), show left + (ar s.1 t[i] - 1) = left - 1 + ar s.1 t[i] by omega]
          exact hr
        · rw [hm]
          conv => rhs; unfold sE
          rw [if_neg (by omega), if_neg hb]

theorem p_isTerm (s : TSign) (hg : gS s.1 = true) (t : List Int) : c_impl_Sign_isTerm M s t = some ((isT s.1 t, ()), ()) := by
  apply e_impl_Sign_isTerm
  simp only [q_impl_Sign_isTerm, decide_eq_true_eq, isT]
  by_cases h : t.length ≤ 40
  · obtain ⟨r, hr, hm⟩ := p_isTerm_loop s hg t h t.length 0 1 (by omega) (by omega) (by omega)
    rw [show ((0 : Nat) : Int) = 0 from rfl] at hr
    rw [List.drop_zero] at hm
    rw [if_neg (by omega), show ((s.1, ()) : TSign) = s from rfl, hr]
    cases r with
    | inl r => simp only [Sum.elim_inl, Option.bind_some] at hm ⊢; rw [hm]; simp [h, Tm]
    | inr r => obtain ⟨⟨b, _⟩, _⟩ := r; simp only [Sum.elim_inr, Option.bind_some] at hm ⊢; rw [hm]; simp [h, Tm]
  · rw [if_pos (by omega)]; simp [h]

end Go.Proofs.YtkdceefdipljaaaFft.Ev

/- Plain laws: nodes of formulas. Definitions. -/
namespace Go.Proofs.YtkdceefdipljaaaFft.Ev
open Go
set_option autoImplicit false
set_option linter.unusedVariables false
set_option linter.unusedSimpArgs false

abbrev TForm := Int × Int × List Int × List Int × Unit

theorem form_eta (x : TForm) : (x.1, x.2.1, x.2.2.1, x.2.2.2.1, ()) = x := rfl

/-- Lists of no more than 2^20 numbers. -/
def smF (x : TForm) : Prop := x.2.2.1.length ≤ 1048576 ∧ x.2.2.2.1.length ≤ 1048576
end Go.Proofs.YtkdceefdipljaaaFft.Ev

/- Plain laws: formulas: both programs tell the same formulas; the program's tree of a formula. No condition but sizes. -/
namespace Go.Proofs.YtkdceefdipljaaaFft.Ev
open Go
set_option autoImplicit false
set_option linter.unusedVariables false
set_option linter.unusedSimpArgs false

theorem p_ib1 (x : Int) : c_impl_Sign_isBound_1 M x = some ((!decide (-6 ≤ x), ()), ()) := by
  apply e_impl_Sign_isBound_1
  simp only [q_impl_Sign_isBound_1]
  rw [show decide (x < -6) = !decide (-6 ≤ x) by
    by_cases h : x < -6
    · rw [decide_eq_true h, decide_eq_false (by omega)]; rfl
    · rw [decide_eq_false h, decide_eq_true (by omega)]; rfl]

theorem p_ibIdx_loop (a : List Int) (ha : a.length ≤ 17592186044416) : ∀ k i : Nat, i + k = a.length → ∃ r, l_slices_IndexFunc_int_int__impl_Sign_isBound_1_26 M a () a.length i = some r ∧ (match r with | .inl _ => (a.drop i).all (fun x => decide (-6 ≤ x)) = true | .inr r => 0 ≤ r.1.1 ∧ (a.drop i).all (fun x => decide (-6 ≤ x)) = false) := by
  intro k
  induction k with
  | zero =>
    intro i hi
    obtain rfl : i = a.length := by omega
    refine ⟨.inl (), el_slices_IndexFunc_int_int__impl_Sign_isBound_1_26 _ _ _ _ (by simp [ql_slices_IndexFunc_int_int__impl_Sign_isBound_1_26]), by simp⟩
  | succ k ih =>
    intro i hi
    have h1 : i < a.length := by omega
    obtain ⟨r, hr, hm⟩ := ih (i + 1) (by omega)
    rw [List.drop_eq_getElem_cons h1, List.all_cons]
    by_cases hp : decide (-6 ≤ a[i]) = true
    · refine ⟨r, el_slices_IndexFunc_int_int__impl_Sign_isBound_1_26 _ _ _ _ ?_, by rw [hp, Bool.true_and]; exact hm⟩
      simp only [ql_slices_IndexFunc_int_int__impl_Sign_isBound_1_26]
      rw [if_pos (by simpa using h1), idx_lt h1, inc_nat (by omega)]
      simp only [Option.bind_some, p_ib1, hp, Bool.not_true, Bool.false_eq_true, if_false]
      exact hr
    · rw [Bool.not_eq_true] at hp
      refine ⟨.inr (((i : Int), ()), ()), el_slices_IndexFunc_int_int__impl_Sign_isBound_1_26 _ _ _ _ ?_, Int.natCast_nonneg i, by rw [hp, Bool.false_and]⟩
      simp only [ql_slices_IndexFunc_int_int__impl_Sign_isBound_1_26]
      rw [if_pos (by simpa using h1), idx_lt h1]
      simp only [Option.bind_some, p_ib1, hp, Bool.not_false, if_true]

theorem p_ibContains (a : List Int) (ha : a.length ≤ 17592186044416) : c_slices_ContainsFunc_int_int__impl_Sign_isBound_1 M a () = some ((!(a.all (fun x => decide (-6 ≤ x))), ()), ()) := by
  apply e_slices_ContainsFunc_int_int__impl_Sign_isBound_1
  simp only [q_slices_ContainsFunc_int_int__impl_Sign_isBound_1]
  obtain ⟨r, hr, hm⟩ := p_ibIdx_loop a ha a.length 0 (by omega)
  rw [show ((0 : Nat) : Int) = 0 from rfl] at hr
  rw [List.drop_zero] at hm
  cases r with
  | inl r =>
    rw [e_slices_IndexFunc_int_int__impl_Sign_isBound_1 a () (r := ((-1, ()), ())) (by simp only [q_slices_IndexFunc_int_int__impl_Sign_isBound_1, hr, Option.bind_some, Sum.elim_inl])]
    simp only at hm
    simp [hm]
  | inr r =>
    rw [e_slices_IndexFunc_int_int__impl_Sign_isBound_1 a () (r := r) (by simp only [q_slices_IndexFunc_int_int__impl_Sign_isBound_1, hr, Option.bind_some, Sum.elim_inr])]
    simp only at hm
    simp [hm]


/-- A term whose variables are those of formulas. -/
def isB (a t : List Int) : Bool := isT a t && t.all fun x => decide (-6 ≤ x)
theorem p_isBound (s : TSign) (hg : gS s.1 = true) (t : List Int) : c_impl_Sign_isBound M s t = some ((isB s.1 t, ()), ()) := by
  apply e_impl_Sign_isBound
  simp only [q_impl_Sign_isBound, sign_eta', p_isTerm s hg t, Option.bind_some, isB]
  by_cases h : isT s.1 t = true
  · have hl : t.length ≤ 40 := by simp only [isT, Bool.and_eq_true, decide_eq_true_eq] at h; exact h.1
    rw [if_pos h, p_ibContains t (by omega), h]
    simp
  · rw [if_neg h]
    rw [Bool.not_eq_true] at h
    rw [h]; rfl

/-! ### The variables of a term -/
theorem p_l1Put_loop (l : List Int) (hl : l.length ≤ 1000) (n : Int) : ∀ k i : Nat, i + k = l.length → ∃ j : Nat, i ≤ j ∧ j ≤ l.length ∧ l_spec_l1Put_28 M l n i = some (.inl (l, n, j, ())) := by
  intro k
  induction k with
  | zero =>
    intro i hi
    obtain rfl : i = l.length := by omega
    exact ⟨l.length, Nat.le_refl _, Nat.le_refl _, el_spec_l1Put_28 _ _ _ (by simp [ql_spec_l1Put_28])⟩
  | succ k ih =>
    intro i hi
    have h1 : i < l.length := by omega
    by_cases hx : l[i] < n
    · obtain ⟨j, g1, g2, g3⟩ := ih (i + 1) (by omega)
      refine ⟨j, by omega, g2, el_spec_l1Put_28 _ _ _ ?_⟩
      simp only [ql_spec_l1Put_28]
      rw [if_pos (by simpa using h1), if_pos (by omega), Int.toNat_natCast, List.getElem?_eq_getElem h1]
      simp only [Option.bind_some]
      rw [if_pos (by simpa using hx), inc_nat (by omega)]
      exact g3
    · refine ⟨i, Nat.le_refl _, by omega, el_spec_l1Put_28 _ _ _ ?_⟩
      simp only [ql_spec_l1Put_28]
      rw [if_pos (by simpa using h1), if_pos (by omega), Int.toNat_natCast, List.getElem?_eq_getElem h1]
      simp only [Option.bind_some]
      rw [if_neg (by simpa using hx)]
theorem p_l1Put (l : List Int) (hl : l.length ≤ 1000) (n : Int) : ∃ r : List Int, c_spec_l1Put M l n = some ((r, ()), ()) ∧ r.length ≤ l.length + 1 ∧ ∀ x, x ∈ r ↔ x ∈ l ∨ x = n := by
  obtain ⟨j, _, g2, g3⟩ := p_l1Put_loop l hl n l.length 0 (by omega)
  rw [show ((0 : Nat) : Int) = 0 from rfl] at g3
  by_cases hj : j < l.length ∧ l[j]? = some n
  · refine ⟨l, e_spec_l1Put _ _ ?_, by omega, fun x => ⟨.inl, fun h => h.elim id fun e => e ▸ List.mem_of_getElem? hj.2⟩⟩
    have h1 := hj.1
    have h2 := hj.2
    rw [List.getElem?_eq_getElem h1] at h2
    simp only [q_spec_l1Put, g3, Option.bind_some, Sum.elim_inl]
    rw [if_pos (by simpa using h1), if_pos (by omega), Int.toNat_natCast, List.getElem?_eq_getElem h1]
    simp only [Option.bind_some]
    rw [if_pos (by simpa using h2)]
  · refine ⟨l.take j ++ n :: l.drop j, e_spec_l1Put _ _ ?_, by simp; omega, fun x => ?_⟩
    · simp only [q_spec_l1Put, g3, Option.bind_some, Sum.elim_inl]
      by_cases h1 : j < l.length
      · have h2 : ¬ l[j] = n := fun e => hj ⟨h1, by rw [List.getElem?_eq_getElem h1, e]⟩
        rw [if_pos (by simpa using h1), if_pos (by omega), Int.toNat_natCast, List.getElem?_eq_getElem h1]
        simp only [Option.bind_some, Int.toNat_natCast, Int.toNat_zero, List.drop_zero, List.nil_append, List.length_nil, List.length_append, List.length_take, List.length_drop, List.length_cons, List.take_length]
        rw [if_neg (by simpa using h2), if_pos (by omega), if_pos (by omega), if_pos (by omega), if_pos (by omega), if_pos (by omega)]
        simp
      · rw [if_neg (by simpa using h1)]
        simp only [Option.bind_some, Int.toNat_natCast, Int.toNat_zero, List.drop_zero, List.nil_append, List.length_nil, List.length_append, List.length_take, List.length_drop, List.length_cons, List.take_length]
        rw [if_pos (by omega), if_pos (by omega), if_pos (by omega), if_pos (by omega), if_pos (by omega)]
        simp
    · have : x ∈ l ↔ x ∈ l.take j ∨ x ∈ l.drop j := by rw [← List.mem_append, List.take_append_drop]
      rw [List.mem_append, List.mem_cons, this]
      constructor
      · rintro (h | h | h)
        · exact .inl (.inl h)
        · exact .inr h
        · exact .inl (.inr h)
      · rintro ((h | h) | h)
        · exact .inl h
        · exact .inr (.inr h)
        · exact .inr (.inl h)

theorem p_l1Vars_loop (t : List Int) (ht : t.length ≤ 400) (hw : ∀ n ∈ t, -12 ≤ n) : ∀ k i : Nat, i + k = t.length → ∀ o : List Int, o.length ≤ i → ∃ r : List Int, l_spec_l1Vars_58 M o t t.length i = some (.inl (r, ())) ∧ r.length ≤ t.length ∧ ∀ x, x ∈ r ↔ x ∈ o ∨ ∃ n ∈ t.drop i, n < 0 ∧ x = -1 - n := by
  intro k
  induction k with
  | zero =>
    intro i hi o ho
    obtain rfl : i = t.length := by omega
    exact ⟨o, el_spec_l1Vars_58 _ _ _ _ (by simp [ql_spec_l1Vars_58]), ho, by simp⟩
  | succ k ih =>
    intro i hi o ho
    have h1 : i < t.length := by omega
    have hn := hw _ (List.getElem_mem h1)
    by_cases hx : t[i] < 0
    · obtain ⟨o', e1, e2, e3⟩ := p_l1Put o (by omega) (-1 - t[i])
      obtain ⟨r, g1, g2, g3⟩ := ih (i + 1) (by omega) o' (by omega)
      refine ⟨r, el_spec_l1Vars_58 _ _ _ _ ?_, g2, fun x => ?_⟩
      · simp only [ql_spec_l1Vars_58]
        rw [if_pos (by simpa using h1), idx_lt h1]
        simp only [Option.bind_some]
        rw [if_pos (by simpa using hx), w64 (x := -1 - t[i]) (by omega) (by omega), e1]
        simp only [Option.bind_some, Sum.elim_inl]
        rw [inc_nat (by omega)]
        exact g1
      · rw [g3 x, e3 x, List.drop_eq_getElem_cons h1]
        simp only [List.mem_cons, exists_eq_or_imp]
        constructor
        · rintro ((h | h) | h)
          · exact .inl h
          · exact .inr (.inl ⟨hx, h⟩)
          · exact .inr (.inr h)
        · rintro (h | h | h)
          · exact .inl (.inl h)
          · exact .inl (.inr h.2)
          · exact .inr h
    · obtain ⟨r, g1, g2, g3⟩ := ih (i + 1) (by omega) o (by omega)
      refine ⟨r, el_spec_l1Vars_58 _ _ _ _ ?_, g2, fun x => ?_⟩
      · simp only [ql_spec_l1Vars_58]
        rw [if_pos (by simpa using h1), idx_lt h1]
        simp only [Option.bind_some]
        rw [if_neg (by simpa using hx)]
        simp only [Option.bind_some, Sum.elim_inl]
        rw [inc_nat (by omega)]
        exact g1
      · rw [g3 x, List.drop_eq_getElem_cons h1]
        simp only [List.mem_cons, exists_eq_or_imp]
        constructor
        · rintro (h | h)
          · exact .inl h
          · exact .inr (.inr h)
        · rintro (h | h | h)
          · exact .inl h
          · exact absurd h.1 hx
          · exact .inr h
theorem p_l1Vars (t : List Int) (ht : t.length ≤ 400) (hw : ∀ n ∈ t, -12 ≤ n) : ∃ r : List Int, c_spec_l1Vars M t = some ((r, ()), ()) ∧ r.length ≤ t.length ∧ ∀ x, x ∈ r ↔ ∃ n ∈ t, n < 0 ∧ x = -1 - n := by
  obtain ⟨r, g1, g2, g3⟩ := p_l1Vars_loop t ht hw t.length 0 (by omega) [] (by simp)
  rw [show ((0 : Nat) : Int) = 0 from rfl] at g1
  refine ⟨r, e_spec_l1Vars _ ?_, g2, fun x => by simpa using g3 x⟩
  simp only [q_spec_l1Vars, g1, Option.bind_some, Sum.elim_inl]

theorem sE_ge {a : List Int} : ∀ (t : List Int) (k : Int), sE a k t = some [] → ∀ n ∈ t, -12 ≤ n := by
  intro t
  induction t with
  | nil => intro k _ n hn; cases hn
  | cons m t ih =>
    intro k h n hn
    simp only [sE] at h
    split at h
    · cases h
    · split at h
      · cases h
      · rename_i hb
        unfold badN at hb
        rcases List.mem_cons.1 hn with rfl | hn
        · omega
        · exact ih _ h n hn
theorem isT_ge {a t : List Int} (h : isT a t = true) : t.length ≤ 40 ∧ ∀ n ∈ t, -12 ≤ n := by
  simp only [isT, Bool.and_eq_true, decide_eq_true_eq] at h
  exact ⟨h.1, sE_ge t 1 h.2⟩

/-! ### Nodes -/
def opn (op : Int) : Int := if op = 1 then 0 else if op = 2 ∨ op = 5 ∨ op = 6 then 1 else if op = 3 ∨ op = 4 then 2 else -1
/-- A node that is good by itself. -/
def ndOK (a : List Int) (x : TForm) : Bool :=
  if x.1 = 1 then decide (x.2.1 = 0) && (isB a x.2.2.1 && isB a x.2.2.2.1)
  else if x.2.2.1 = [] ∧ x.2.2.2.1 = [] then
    (if x.1 = 5 ∨ x.1 = 6 then decide (0 ≤ x.2.1) && decide (x.2.1 ≤ 5) else if x.1 = 2 ∨ x.1 = 3 ∨ x.1 = 4 then decide (x.2.1 = 0) else false)
  else false

theorem p_l14Arity (op : Int) : c_spec_l14Arity M op = some ((opn op, ()), ()) := by
  apply e_spec_l14Arity
  simp only [q_spec_l14Arity, beq_iff_eq, opn]
  by_cases h1 : op = 1
  · simp [h1]
  · by_cases h2 : op = 2
    · simp [h2]
    · by_cases h5 : op = 5
      · simp [h5]
      · by_cases h6 : op = 6
        · simp [h6]
        · by_cases h3 : op = 3
          · simp [h3]
          · by_cases h4 : op = 4
            · simp [h4]
            · simp [h1, h2, h3, h4, h5, h6]

theorem p_operands (a : List Int) (x : TForm) (h : ndOK a x = true) : c_impl_Form_operands M x = some ((opn x.1, ()), ()) := by
  apply e_impl_Form_operands
  simp only [q_impl_Form_operands, beq_iff_eq, opn]
  by_cases h1 : x.1 = 1
  · simp [h1]
  · by_cases h3 : x.1 = 3
    · simp [h3]
    · by_cases h4 : x.1 = 4
      · simp [h4]
      · have : x.1 = 2 ∨ x.1 = 5 ∨ x.1 = 6 := by
          unfold ndOK at h
          rw [if_neg h1] at h
          split at h
          · split at h
            · rename_i h5; rcases h5 with h5 | h5 <;> simp [h5]
            · split at h
              · rename_i h6; rcases h6 with h6 | h6 | h6
                · exact .inl h6
                · exact absurd h6 h3
                · exact absurd h6 h4
              · cases h
          · cases h
        simp [h1, h3, h4, this]

theorem p_isNode (s : TSign) (hg : gS s.1 = true) (x : TForm) : c_impl_Sign_isNode M s x = some ((ndOK s.1 x, ()), ()) := by
  apply e_impl_Sign_isNode
  simp only [q_impl_Sign_isNode, sign_eta', p_isBound s hg, Option.bind_some, beq_iff_eq, ndOK]
  obtain ⟨op, v, l, r, ⟨⟩⟩ := x
  simp only
  by_cases h1 : op = 1
  · subst h1
    by_cases hv : v = 0
    · cases isB s.1 l <;> simp [hv]
    · simp [hv]
  · rw [if_neg h1, if_neg h1]
    by_cases h5 : op = 5
    · subst h5
      by_cases ha : 0 ≤ v <;> by_cases hb : v < 6 <;> by_cases hl : l = [] <;> by_cases hr : r = [] <;> simp [ha, hb, hl, hr] <;> omega
    · by_cases h6 : op = 6
      · subst h6
        by_cases ha : 0 ≤ v <;> by_cases hb : v < 6 <;> by_cases hl : l = [] <;> by_cases hr : r = [] <;> simp [ha, hb, hl, hr] <;> omega
      · by_cases h2 : op = 2
        · subst h2
          by_cases ha : v = 0 <;> by_cases hl : l = [] <;> by_cases hr : r = [] <;> simp [ha, hl, hr]
        · by_cases h3 : op = 3
          · subst h3
            by_cases ha : v = 0 <;> by_cases hl : l = [] <;> by_cases hr : r = [] <;> simp [ha, hl, hr]
          · by_cases h4 : op = 4
            · subst h4
              by_cases ha : v = 0 <;> by_cases hl : l = [] <;> by_cases hr : r = [] <;> simp [ha, hl, hr]
            · simp [h2, h3, h4, h5, h6]

theorem p_l14Node (s : TSign) (hg : gS s.1 = true) (x : TForm) (h : smF x) : c_spec_l14Node M s x = some ((ndOK s.1 x, ()), ()) := by
  apply e_spec_l14Node
  simp only [q_spec_l14Node, sign_eta', p_l1Term s hg _ h.1, p_l1Term s hg _ h.2, Option.bind_some, beq_iff_eq, ndOK, p_l1In, p_l14Arity, decide_eq_true_eq]
  by_cases h1 : x.1 = 1
  · rw [if_pos h1, if_pos h1]
    by_cases hv : x.2.1 = 0
    · rw [if_pos hv, decide_eq_true hv]
      by_cases hl : isT s.1 x.2.2.1 = true
      · rw [if_pos hl]
        by_cases hr : isT s.1 x.2.2.2.1 = true
        · rw [if_pos hr]
          obtain ⟨l1, l2⟩ := isT_ge hl
          obtain ⟨r1, r2⟩ := isT_ge hr
          obtain ⟨vl, e1, e2, e3⟩ := p_l1Vars _ (by omega) l2
          obtain ⟨vr, f1, f2, f3⟩ := p_l1Vars _ (by omega) r2
          rw [e1]
          simp only [Option.bind_some]
          rw [f1]
          simp only [Option.bind_some]
          rw [if_pos (by omega), p_l1All _ _ _ (by simp; omega)]
          simp only [Option.bind_some, Option.some.injEq, Prod.mk.injEq, and_true]
          simp only [isB, hl, hr, Bool.true_and]
          have key : ∀ (t v : List Int), (∀ n ∈ t, -12 ≤ n) → (∀ x, x ∈ v ↔ ∃ n ∈ t, n < 0 ∧ x = -1 - n) → (v.all (fun x => decide (0 ≤ x) && decide (x ≤ 5)) = t.all fun x => decide (-6 ≤ x)) := by
            intro t v ht hv
            rw [Bool.eq_iff_iff]
            simp only [List.all_eq_true, Bool.and_eq_true, decide_eq_true_eq]
            constructor
            · intro hh n hn
              by_cases h0 : n < 0
              · have := hh (-1 - n) ((hv _).2 ⟨n, hn, h0, rfl⟩); omega
              · omega
            · intro hh y hy
              obtain ⟨n, hn, h0, rfl⟩ := (hv y).1 hy
              have := hh n hn
              omega
          rw [List.all_append, key _ _ l2 e3, key _ _ r2 f3]
        · rw [if_neg hr]; rw [Bool.not_eq_true] at hr; simp [isB, hr]
      · rw [if_neg hl]; rw [Bool.not_eq_true] at hl; simp [isB, hl]
    · rw [if_neg hv, decide_eq_false hv]; rfl
  · rw [if_neg h1, if_neg h1]
    have hw : IntKind.i64.wrap ((x.2.2.1.length : Int) + (x.2.2.2.1.length : Int)) = (x.2.2.1.length : Int) + (x.2.2.2.1.length : Int) := w64 (by omega) (by have := h.1; have := h.2; omega)
    rw [hw]
    by_cases hlr : x.2.2.1 = [] ∧ x.2.2.2.1 = []
    · rw [if_neg (by rw [hlr.1, hlr.2]; simp), if_pos hlr]
      by_cases h5 : x.1 = 5
      · simp [opn, h5]
      · by_cases h6 : x.1 = 6
        · simp [opn, h6]
        · by_cases h2 : x.1 = 2
          · simp [opn, h2]; rfl
          · by_cases h3 : x.1 = 3
            · simp [opn, h3]; rfl
            · by_cases h4 : x.1 = 4
              · simp [opn, h4]; rfl
              · simp [opn, h1, h2, h3, h4, h5, h6]
    · rw [if_pos (by
        by_cases hl : x.2.2.1 = []
        · have : 0 < x.2.2.2.1.length := List.length_pos_iff.2 (fun e => hlr ⟨hl, e⟩)
          omega
        · have : 0 < x.2.2.1.length := List.length_pos_iff.2 hl
          omega), if_neg hlr]

theorem ndOK_opn {a : List Int} {x : TForm} (h : ndOK a x = true) : 0 ≤ opn x.1 ∧ opn x.1 ≤ 2 ∧ (x.1 = 2 → opn x.1 = 1) := by
  unfold ndOK at h
  unfold opn
  split at h
  · rename_i h1; simp [h1]
  · rename_i h1
    rw [if_neg h1]
    split at h
    · split at h
      · rename_i h56; rw [if_pos (.inr h56)]; omega
      · split at h
        · rename_i h234
          split
          · omega
          · rename_i hn
            rw [if_pos (by rcases h234 with h | h | h
                           · exact absurd (.inl h) hn
                           · exact .inl h
                           · exact .inr h)]
            omega
        · cases h
    · cases h

/-! ### Formulas -/
/-- Whether nodes, with so many trees before them, leave one tree. -/
def gF (a : List Int) : Nat → List TForm → Bool
  | p, [] => p == 1
  | p, x :: r => ndOK a x && (decide ((opn x.1).toNat ≤ p) && gF a (p - (opn x.1).toNat + 1) r)
/-- The trees that nodes leave. -/
def gT (a : List Int) : List Tree → List TForm → Option (List Tree)
  | st, [] => some st
  | st, x :: r => if ndOK a x = true ∧ (opn x.1).toNat ≤ st.length then gT a (st.take (st.length - (opn x.1).toNat) ++ [Tree.mk x.1 x.2.1 x.2.2.1 x.2.2.2.1 (st.drop (st.length - (opn x.1).toNat))]) r else none
theorem gT_gF (a : List Int) : ∀ (f : List TForm) (st : List Tree), gF a st.length f = (match gT a st f with | some st' => st'.length == 1 | none => false) := by
  intro f
  induction f with
  | nil => intro st; rfl
  | cons x r ih =>
    intro st
    simp only [gF, gT]
    by_cases h1 : ndOK a x = true
    · by_cases h2 : (opn x.1).toNat ≤ st.length
      · rw [if_pos ⟨h1, h2⟩, h1, decide_eq_true h2, ← ih]
        simp only [Bool.true_and, List.length_append, List.length_take, List.length_cons, List.length_nil]
        congr 1; omega
      · rw [if_neg (fun h => h2 h.2), decide_eq_false h2]; simp
    · rw [if_neg (fun h => h1 h.1)]; rw [Bool.not_eq_true] at h1; simp [h1]

theorem p_l14Form_loop (s : TSign) (hg : gS s.1 = true) (f : List TForm) (hl : f.length ≤ 15) (hx : ∀ x ∈ f, smF x) : ∀ k i p : Nat, i + k = f.length → p ≤ i → ∃ r, l_spec_l14Form_122 M s p f f.length i = some r ∧ Sum.elim (fun y => y.1 == 1) (fun r => r.1.1) r = gF s.1 p (f.drop i) := by
  intro k
  induction k with
  | zero =>
    intro i p hi hp
    obtain rfl : i = f.length := by omega
    refine ⟨.inl ((p : Int), ()), el_spec_l14Form_122 _ _ _ _ _ (by simp [ql_spec_l14Form_122]), ?_⟩
    rw [List.drop_length]
    simp only [Sum.elim_inl, gF]
    rw [Bool.eq_iff_iff]; simp; omega
  | succ k ih =>
    intro i p hi hp
    have h1 : i < f.length := by omega
    rw [List.drop_eq_getElem_cons h1]
    have hn := p_l14Node s hg f[i] (hx _ (List.getElem_mem h1))
    by_cases h2 : ndOK s.1 f[i] = true
    · have ho := ndOK_opn h2
      by_cases h3 : (opn f[i].1).toNat ≤ p
      · obtain ⟨r, g1, g2⟩ := ih (i + 1) (p - (opn f[i].1).toNat + 1) (by omega) (by omega)
        refine ⟨r, el_spec_l14Form_122 _ _ _ _ _ ?_, by rw [g2]; simp [gF, h2, h3]⟩
        simp only [ql_spec_l14Form_122]
        rw [if_pos (by simpa using h1), idx_lt h1]
        simp only [Option.bind_some, form_eta, sign_eta', hn, h2, p_l14Arity]
        rw [if_neg (by simp), if_neg (by simp; omega), w64 (x := 1 - opn f[i].1) (by omega) (by omega), w64 (by omega) (by omega), inc_nat (by omega), show (p : Int) + (1 - opn f[i].1) = ((p - (opn f[i].1).toNat + 1 : Nat) : Int) by omega]
        exact g1
      · refine ⟨.inr ((false, ()), ()), el_spec_l14Form_122 _ _ _ _ _ ?_, by simp [gF, h2, h3]⟩
        simp only [ql_spec_l14Form_122]
        rw [if_pos (by simpa using h1), idx_lt h1]
        simp only [Option.bind_some, form_eta, sign_eta', hn, h2, p_l14Arity]
        rw [if_neg (by simp), if_pos (by simp; omega)]
    · rw [Bool.not_eq_true] at h2
      refine ⟨.inr ((false, ()), ()), el_spec_l14Form_122 _ _ _ _ _ ?_, by simp [gF, h2]⟩
      simp only [ql_spec_l14Form_122]
      rw [if_pos (by simpa using h1), idx_lt h1]
      simp only [Option.bind_some, form_eta, sign_eta', hn, h2]
      rfl

/-- A formula that is good. -/
def fOK (a : List Int) (f : List TForm) : Bool := decide (f.length ≤ 15) && gF a 0 f

theorem p_l14Form (s : TSign) (hg : gS s.1 = true) (f : List TForm) (hl : f.length ≤ 1048576) (hx : ∀ x ∈ f, smF x) : c_spec_l14Form M s f = some ((fOK s.1 f, ()), ()) := by
  apply e_spec_l14Form
  simp only [q_spec_l14Form, p_l1In, Option.bind_some, sign_eta', fOK]
  by_cases h15 : f.length ≤ 15
  · by_cases h0 : f = []
    · subst h0; simp [gF]
    · have : 0 < f.length := List.length_pos_iff.2 h0
      rw [if_neg (by simp; omega)]
      obtain ⟨r, g1, g2⟩ := p_l14Form_loop s hg f h15 hx f.length 0 0 (by omega) (by omega)
      rw [show ((0 : Nat) : Int) = 0 from rfl] at g1
      rw [List.drop_zero] at g2
      rw [g1, decide_eq_true h15, ← g2]
      cases r with
      | inl r => rfl
      | inr r => obtain ⟨⟨b, _⟩, _⟩ := r; rfl
  · rw [if_pos (by simp; omega)]; simp [h15]

theorem p_grow_loop (s : TSign) (hg : gS s.1 = true) (f : List TForm) (hl : f.length ≤ 15) : ∀ k i : Nat, i + k = f.length → ∀ st : List Tree, st.length ≤ i →
    l_impl_Sign_grow_122 M s st f f.length i = some (match gT s.1 st (f.drop i) with | some st' => .inl (st', ()) | none => .inr ((Tree.nil, false, ()), ())) := by
  intro k
  induction k with
  | zero =>
    intro i hi st hst
    obtain rfl : i = f.length := by omega
    apply el_impl_Sign_grow_122
    simp [ql_impl_Sign_grow_122, gT]
  | succ k ih =>
    intro i hi st hst
    have h1 : i < f.length := by omega
    rw [List.drop_eq_getElem_cons h1]
    apply el_impl_Sign_grow_122
    simp only [ql_impl_Sign_grow_122]
    rw [if_pos (by simpa using h1), idx_lt h1]
    simp only [Option.bind_some, form_eta, sign_eta', p_isNode s hg, gT]
    by_cases h2 : ndOK s.1 f[i] = true
    · have ho := ndOK_opn h2
      by_cases h3 : (opn f[i].1).toNat ≤ st.length
      · have e : (st.length : Int) - opn f[i].1 = ((st.length - (opn f[i].1).toNat : Nat) : Int) := by omega
        rw [if_pos (show ndOK s.1 f[i] = true ∧ (opn f[i].1).toNat ≤ st.length from ⟨h2, h3⟩), h2, if_neg (by simp), p_operands s.1 f[i] h2]
        simp only [Option.bind_some]
        rw [w64 (x := (st.length : Int) - opn f[i].1) (by omega) (by omega), e, if_neg (by simp <;> omega)]
        simp only [Int.toNat_natCast, List.take_length]
        rw [if_pos (by omega), if_pos (by simp; omega), if_pos (by omega), if_pos (by simp; omega), inc_nat (by omega), ih (i + 1) (by omega) _ (by simp; omega)]
      · rw [if_neg (show ¬ (ndOK s.1 f[i] = true ∧ (opn f[i].1).toNat ≤ st.length) from fun h => h3 h.2), h2, if_neg (by simp), p_operands s.1 f[i] h2]
        simp only [Option.bind_some]
        rw [w64 (x := (st.length : Int) - opn f[i].1) (by omega) (by omega), if_pos (by simp; omega)]
    · rw [if_neg (show ¬ (ndOK s.1 f[i] = true ∧ (opn f[i].1).toNat ≤ st.length) from fun h => h2 h.1)]
      rw [Bool.not_eq_true] at h2
      rw [h2]
      rfl

theorem p_formula (s : TSign) (hs : s.1.length ≤ 1048576) (f : List TForm) : ∃ t : Tree, c_impl_formula M s f = some ((t, gS s.1 && fOK s.1 f, ()), ()) ∧ ((gS s.1 && fOK s.1 f) = true → gT s.1 [] f = some [t]) := by
  cases hg : gS s.1 with
  | false =>
    refine ⟨.nil, e_impl_formula _ _ ?_, by simp⟩
    simp only [q_impl_formula, sign_eta', p_impl_GoodSign s (by omega), hg, Option.bind_some]
    rfl
  | true =>
    have pre : ∀ t b, c_impl_Sign_grow M s f = some ((t, b, ()), ()) → c_impl_formula M s f = some ((t, b, ()), ()) := by
      intro t b h
      apply e_impl_formula
      simp only [q_impl_formula, sign_eta', p_impl_GoodSign s (by omega), hg, Option.bind_some, h]
      rfl
    by_cases h15 : f.length ≤ 15
    · have hl := p_grow_loop s hg f h15 f.length 0 (by omega) [] (by simp)
      rw [show ((0 : Nat) : Int) = 0 from rfl, List.drop_zero] at hl
      have hgf := gT_gF s.1 f []
      rw [List.length_nil] at hgf
      have go : ∀ r, (l_impl_Sign_grow_122 M s [] f f.length 0).bind (Sum.elim (fun y1 => if ((List.length y1.1 : Int) != (1 : Int)) = true then (some ((Tree.nil, false, ()), ())) else (if 0 ≤ (0 : Int) ∧ (0 : Int) < (List.length y1.1 : Int) then ((y1.1[(Int.toNat (0 : Int))]?).bind fun x3 => (some ((x3, true, ()), ()))) else none)) (fun r2 => (some r2))) = some r → c_impl_Sign_grow M s f = some r := by
        intro r h
        apply e_impl_Sign_grow
        simp only [q_impl_Sign_grow, sign_eta']
        rw [if_neg (by simp; omega)]
        exact h
      cases hT : gT s.1 [] f with
      | none =>
        rw [hT] at hgf hl
        refine ⟨.nil, pre _ _ (go _ ?_), by simp [fOK, hgf]⟩
        rw [hl]
        simp [fOK, hgf]
      | some st' =>
        rw [hT] at hgf hl
        by_cases h1 : st'.length = 1
        · match st', h1 with
          | [t], _ =>
            refine ⟨t, pre _ _ (go _ ?_), fun _ => rfl⟩
            rw [hl]
            simp [fOK, hgf, h15]
        · refine ⟨.nil, pre _ _ (go _ ?_), by simp [fOK, hgf, h1]⟩
          rw [hl]
          simp only [Option.bind_some, Sum.elim_inl]
          rw [if_pos (by simp; omega)]
          simp [fOK, hgf, h1]
    · refine ⟨.nil, pre _ _ (e_impl_Sign_grow _ _ ?_), by simp [fOK, h15]⟩
      simp only [q_impl_Sign_grow]
      rw [if_pos (by simp; omega)]
      simp [fOK, h15]

end Go.Proofs.YtkdceefdipljaaaFft.Ev

/- Plain laws: the tree of a formula and its nodes in a row stand for one another. No condition. -/
namespace Go.Proofs.YtkdceefdipljaaaFft.Ev
open Go
set_option autoImplicit false
set_option linter.unusedVariables false
set_option linter.unusedSimpArgs false

abbrev mkT (x : TForm) (ts : List Tree) : Tree := Tree.mk x.1 x.2.1 x.2.2.1 x.2.2.2.1 ts
/-- A part of a row of nodes, and its tree. -/
inductive FT (a : List Int) : List TForm → Tree → Prop
  | leaf {x : TForm} (h : ndOK a x = true) (h0 : opn x.1 = 0) : FT a [x] (mkT x [])
  | un {x : TForm} {g : List TForm} {t : Tree} (h : ndOK a x = true) (h1 : opn x.1 = 1) (hg : FT a g t) : FT a (g ++ [x]) (mkT x [t])
  | bin {x : TForm} {g k : List TForm} {t u : Tree} (h : ndOK a x = true) (h2 : opn x.1 = 2) (hg : FT a g t) (hk : FT a k u) : FT a (g ++ k ++ [x]) (mkT x [t, u])

theorem FT.pos {a : List Int} {g : List TForm} {t : Tree} (h : FT a g t) : 0 < g.length := by cases h <;> simp <;> omega
/-- Trees side by side. -/
def Rs (a : List Int) : List (List TForm) → List Tree → Prop
  | [], [] => True
  | g :: gs, t :: ts => FT a g t ∧ Rs a gs ts
  | _, _ => False
theorem Rs.app {a : List Int} : ∀ {gs : List (List TForm)} {ts : List Tree} {gs' : List (List TForm)} {ts' : List Tree}, Rs a gs ts → Rs a gs' ts' → Rs a (gs ++ gs') (ts ++ ts')
  | [], [], _, _, _, h => h
  | _ :: _, _ :: _, _, _, ⟨h1, h2⟩, h => ⟨h1, h2.app h⟩
  | [], _ :: _, _, _, h, _ => h.elim
  | _ :: _, [], _, _, h, _ => h.elim
theorem Rs.len {a : List Int} : ∀ {gs : List (List TForm)} {ts : List Tree}, Rs a gs ts → gs.length = ts.length
  | [], [], _ => rfl
  | _ :: _, _ :: _, ⟨_, h⟩ => by simp [h.len]
  | [], _ :: _, h => h.elim
  | _ :: _, [], h => h.elim
theorem Rs.cut {a : List Int} : ∀ (n : Nat) {gs : List (List TForm)} {ts : List Tree}, Rs a gs ts → Rs a (gs.take n) (ts.take n) ∧ Rs a (gs.drop n) (ts.drop n)
  | 0, _, _, h => ⟨trivial, h⟩
  | n + 1, [], [], _ => ⟨trivial, trivial⟩
  | n + 1, _ :: _, _ :: _, ⟨h1, h2⟩ => ⟨⟨h1, (h2.cut n).1⟩, (h2.cut n).2⟩
  | _ + 1, [], _ :: _, h => h.elim
  | _ + 1, _ :: _, [], h => h.elim

theorem gT_Rs {a : List Int} : ∀ (f : List TForm) (st st' : List Tree) (gs : List (List TForm)), Rs a gs st → gT a st f = some st' → ∃ gs', Rs a gs' st' ∧ gs'.flatten = gs.flatten ++ f := by
  intro f
  induction f with
  | nil =>
    intro st st' gs hr h
    obtain rfl := Option.some.inj h
    exact ⟨gs, hr, by simp⟩
  | cons x r ih =>
    intro st st' gs hr h
    simp only [gT] at h
    split at h
    · rename_i hc
      obtain ⟨hn, hle⟩ := hc
      have ho := ndOK_opn hn
      obtain ⟨c1, c2⟩ := hr.cut (st.length - (opn x.1).toNat)
      have hl := hr.len
      have hd : ((gs.drop (st.length - (opn x.1).toNat))).length = (opn x.1).toNat := by rw [List.length_drop]; omega
      have hd2 : ((st.drop (st.length - (opn x.1).toNat))).length = (opn x.1).toNat := by rw [List.length_drop]; omega
      have key : FT a ((gs.drop (st.length - (opn x.1).toNat)).flatten ++ [x]) (mkT x (st.drop (st.length - (opn x.1).toNat))) := by
        have h012 : opn x.1 = 0 ∨ opn x.1 = 1 ∨ opn x.1 = 2 := by omega
        rcases h012 with h0 | h0 | h0
        · rw [h0] at hd hd2 c2
          rw [h0]
          generalize gs.drop (st.length - (0 : Int).toNat) = G at *
          generalize st.drop (st.length - (0 : Int).toNat) = D at *
          match G, D, hd, hd2 with
          | [], [], _, _ => exact .leaf hn h0
        · rw [h0] at hd hd2 c2
          rw [h0]
          generalize gs.drop (st.length - (1 : Int).toNat) = G at *
          generalize st.drop (st.length - (1 : Int).toNat) = D at *
          match G, D, hd, hd2, c2 with
          | [g], [t], _, _, c2 => simpa using FT.un hn h0 c2.1
        · rw [h0] at hd hd2 c2
          rw [h0]
          generalize gs.drop (st.length - (2 : Int).toNat) = G at *
          generalize st.drop (st.length - (2 : Int).toNat) = D at *
          match G, D, hd, hd2, c2 with
          | [g, k], [t, u], _, _, c2 => simpa using FT.bin hn h0 c2.1 c2.2.1
      obtain ⟨gs', q1, q2⟩ := ih _ st' (gs.take (st.length - (opn x.1).toNat) ++ [(gs.drop (st.length - (opn x.1).toNat)).flatten ++ [x]]) (c1.app (show Rs a [_] [_] from ⟨key, trivial⟩)) h
      refine ⟨gs', q1, ?_⟩
      rw [q2]
      simp only [List.flatten_append, List.flatten_cons, List.flatten_nil, List.append_nil, List.append_assoc, List.singleton_append]
      rw [← List.append_assoc, ← List.flatten_append, List.take_append_drop]
    · cases h
theorem gT_FT {a : List Int} {f : List TForm} {t : Tree} (h : gT a [] f = some [t]) : FT a f t := by
  obtain ⟨gs, h1, h2⟩ := gT_Rs f [] [t] [] trivial h
  match gs, h1 with
  | [g], h1 =>
    simp at h2
    exact h2 ▸ h1.1

theorem idx_mid {α : Type} (pre post : List α) (x : α) : idx (pre ++ x :: post) (pre.length : Int) = some x := by
  rw [idx_nat]; simp

end Go.Proofs.YtkdceefdipljaaaFft.Ev

/- Plain laws: a formula's parts by their places. No condition. -/
namespace Go.Proofs.YtkdceefdipljaaaFft.Ev
open Go
set_option autoImplicit false
set_option linter.unusedVariables false
set_option linter.unusedSimpArgs false

/-- From a part's root back to its head. -/
theorem p_first {a : List Int} {h : List TForm} {t : Tree} (hf : FT a h t) : ∀ (pre post : List TForm) (j : Nat) (r : Int), pre.length + h.length ≤ 1000 → j ≤ 1000 → j + h.length ≤ 1000 →
    l_spec_l14First_60 M (pre ++ (h ++ post)) j ((pre.length : Int) - 1) = some (.inl (r, ())) → l_spec_l14First_60 M (pre ++ (h ++ post)) ((j : Int) + 1) ((pre.length : Int) + h.length - 1) = some (.inl (r, ())) := by
  have step : ∀ (pre post : List TForm) (x : TForm) (j : Nat) (r : Int), ndOK a x = true → pre.length ≤ 1000 → j ≤ 1000 → l_spec_l14First_60 M (pre ++ x :: post) ((j : Int) + opn x.1) ((pre.length : Int) - 1) = some (.inl (r, ())) → l_spec_l14First_60 M (pre ++ x :: post) ((j : Int) + 1) (pre.length : Int) = some (.inl (r, ())) := by
    intro pre post x j r hn hp hj hr
    have ho := ndOK_opn hn
    apply el_spec_l14First_60
    simp only [ql_spec_l14First_60]
    rw [if_pos (by simp <;> omega), idx_mid]
    simp only [Option.bind_some, p_l14Arity]
    rw [w64 (x := opn x.1 - 1) (by omega) (by omega), w64 (by omega) (by omega), w64 (x := (pre.length : Int) - 1) (by omega) (by omega), show (j : Int) + 1 + (opn x.1 - 1) = (j : Int) + opn x.1 by omega]
    exact hr
  induction hf with
  | leaf h h0 =>
    intro pre post j r hp hj hjh hr
    have := step pre post _ j r h (by simp at hp; omega) hj (by rw [h0]; simpa using hr)
    simpa using this
  | @un x g t h h1 hg ih =>
    intro pre post j r hp hj hjh hr
    simp only [List.length_append, List.length_cons, List.length_nil] at hp hjh
    have e1 := ih pre (x :: post) j r (by omega) hj (by omega) (by simpa using hr)
    have := step (pre ++ g) post x j r h (by simp; omega) hj (by
      rw [h1]
      simpa using e1)
    simp only [List.append_assoc, List.length_append, List.length_cons, List.length_nil, List.singleton_append] at this ⊢
    rw [show (pre.length : Int) + ((g.length + (0 + 1) : Nat) : Int) - 1 = ((pre.length + g.length : Nat) : Int) by omega]
    exact this
  | @bin x g k t u h h2 hg hk ih1 ih2 =>
    intro pre post j r hp hj hjh hr
    simp only [List.length_append, List.length_cons, List.length_nil] at hp hjh
    have e1 := ih1 pre (k ++ x :: post) j r (by omega) hj (by omega) (by simpa using hr)
    have e2 := ih2 (pre ++ g) (x :: post) (j + 1) r (by simp; omega) (by have := hg.pos; omega) (by have := hg.pos; omega) (by
      simp only [List.append_assoc, List.length_append] at e1 ⊢
      rw [show ((j + 1 : Nat) : Int) = (j : Int) + 1 by omega, show (((pre.length + g.length : Nat) : Int) - 1) = (pre.length : Int) + g.length - 1 by omega]
      exact e1)
    have := step (pre ++ (g ++ k)) post x j r h (by simp; omega) hj (by
      rw [h2]
      simp only [List.append_assoc, List.length_append] at e2 ⊢
      rw [show ((j + 1 : Nat) : Int) + 1 = (j : Int) + 2 by omega, show ((pre.length + g.length : Nat) : Int) + (k.length : Int) - 1 = ((pre.length + (g.length + k.length) : Nat) : Int) - 1 by omega] at e2
      exact e2)
    simp only [List.append_assoc, List.length_append, List.length_cons, List.length_nil, List.singleton_append] at this ⊢
    rw [show (pre.length : Int) + ((g.length + (k.length + (0 + 1)) : Nat) : Int) - 1 = ((pre.length + (g.length + k.length) : Nat) : Int) by omega]
    exact this

theorem p_l14First {a : List Int} {h : List TForm} {t : Tree} (hf : FT a h t) (pre post : List TForm) (hl : pre.length + h.length ≤ 900) : c_spec_l14First M (pre ++ (h ++ post)) ((pre.length : Int) + h.length) = some (((pre.length : Int) - 1, ()), ()) := by
  apply e_spec_l14First
  simp only [q_spec_l14First]
  rw [w64 (by omega) (by omega)]
  have := p_first hf pre post 0 ((pre.length : Int) - 1) (by omega) (by omega) (by omega) (el_spec_l14First_60 _ _ _ (by simp [ql_spec_l14First_60]))
  rw [show ((0 : Nat) : Int) + 1 = 1 from rfl] at this
  rw [this]
  rfl

theorem leaf_op {a : List Int} {x : TForm} (h : ndOK a x = true) (h0 : opn x.1 = 0) : x.1 = 1 ∧ isT a x.2.2.1 = true ∧ isT a x.2.2.2.1 = true := by
  have h1 : x.1 = 1 := by
    unfold opn at h0
    split at h0
    · assumption
    · split at h0
      · omega
      · split at h0 <;> omega
  unfold ndOK at h
  rw [if_pos h1] at h
  simp only [isB, Bool.and_eq_true] at h
  exact ⟨h1, h.2.1.1, h.2.2.1⟩
theorem un_op {a : List Int} {x : TForm} (h : ndOK a x = true) (h0 : opn x.1 = 1) : (x.1 = 2 ∨ x.1 = 5 ∨ x.1 = 6) ∧ 0 ≤ x.2.1 ∧ x.2.1 ≤ 5 := by
  have h1 : x.1 = 2 ∨ x.1 = 5 ∨ x.1 = 6 := by
    unfold opn at h0
    split at h0
    · omega
    · split at h0
      · assumption
      · split at h0 <;> omega
  refine ⟨h1, ?_⟩
  unfold ndOK at h
  rw [if_neg (by omega)] at h
  split at h
  · split at h
    · simpa using h
    · split at h
      · simp at h; omega
      · cases h
  · cases h
theorem bin_op {a : List Int} {x : TForm} (h : ndOK a x = true) (h0 : opn x.1 = 2) : x.1 = 3 ∨ x.1 = 4 := by
  unfold opn at h0
  split at h0
  · omega
  · split at h0
    · omega
    · split at h0
      · assumption
      · omega

end Go.Proofs.YtkdceefdipljaaaFft.Ev

/- Plain laws: formulas as the reference tells them. No condition but sizes. -/
namespace Go.Proofs.YtkdceefdipljaaaFft.Ev
open Go
set_option autoImplicit false
set_option linter.unusedVariables false
set_option linter.unusedSimpArgs false

theorem p_spec_GoodForm (s : TSign) (hs : s.1.length ≤ 1048576) (f : List TForm) (hl : f.length ≤ 1048576) (hx : ∀ x ∈ f, smF x) : c_spec_GoodForm M s f = some ((gS s.1 && fOK s.1 f, ()), ()) := by
  apply e_spec_GoodForm
  simp only [q_spec_GoodForm, sign_eta', p_spec_GoodSign s (by omega), Option.bind_some]
  cases hg : gS s.1 with
  | false => rfl
  | true => rw [if_pos rfl, p_l14Form s hg f hl hx]; rfl
end Go.Proofs.YtkdceefdipljaaaFft.Ev

/- Plain laws: bytes and numbers. No condition but sizes. -/
namespace Go.Proofs.YtkdceefdipljaaaFft.Ev
open Go
set_option autoImplicit false
set_option linter.unusedVariables false
set_option linter.unusedSimpArgs false

theorem wu64 {x : Int} (h : 0 ≤ x) (k : x < 18446744073709551616) : IntKind.u64.wrap x = x := by
  simp only [IntKind.wrap, IntKind.bits, IntKind.signed, Bool.false_and, Bool.false_eq_true, if_false]
  omega

theorem bytesStr_app (x y : List Int) : bytesStr (x ++ y) = bytesStr x ++ bytesStr y := by simp [bytesStr]

theorem bytesStr_len (x : List Int) : (bytesStr x).length = x.length := by simp [bytesStr]

theorem bytesStr_one (n : Nat) : bytesStr [(n : Int)] = [UInt8.ofNat n] := by simp [bytesStr]

theorem bytesStr_str (x : List UInt8) : bytesStr (strBytes x) = x := by
  induction x with
  | nil => rfl
  | cons b r ih => simp only [strBytes, bytesStr, List.map_cons] at ih ⊢; rw [ih]; simp

theorem strBytes_app (x y : List UInt8) : strBytes (x ++ y) = strBytes x ++ strBytes y := by simp [strBytes]

theorem strBytes_len (x : List UInt8) : (strBytes x).length = x.length := by simp [strBytes]

theorem strBytes_one {n : Nat} (h : n < 256) : strBytes [UInt8.ofNat n] = [(n : Int)] := by
  simp [strBytes]; omega

end Go.Proofs.YtkdceefdipljaaaFft.Ev

/- Plain laws: places of a term's operands. No condition but sizes. -/
namespace Go.Proofs.YtkdceefdipljaaaFft.Ev
open Go
set_option autoImplicit false
set_option linter.unusedVariables false
set_option linter.unusedSimpArgs false


def posOf : Nat → List (List Int) → List Int
  | _, [] => []
  | p, u :: us => (p : Int) :: posOf (p + u.length) us
theorem posOf_len : ∀ (us : List (List Int)) (p : Nat), (posOf p us).length = us.length
  | [], _ => rfl
  | _ :: us, p => by simp [posOf, posOf_len us]

theorem drop_split {T u x : List Int} {i : Nat} (h : T.drop i = u ++ x) : T.drop (i + u.length) = x := by
  rw [← List.drop_drop, h, List.drop_left]
theorem drop_len {T u : List Int} {i : Nat} (h : T.drop i = u) : u.length = T.length - i := by rw [← h, List.length_drop]

theorem p_l1Args_loop {a : List Int} (hg : gS a = true) (T : List Int) (hT : T.length ≤ 1000) : ∀ (us : List (List Int)) (p : Nat) (x out : List Int), (∀ u ∈ us, Tm a u) → us.length ≤ 1000 → T.drop p = us.flatten ++ x → out.length + us.length ≤ 1000 →
    l_spec_l1Args_250 M T (a, ()) out p us.length = some (.inl (out ++ posOf p us, ())) := by
  intro us
  induction us with
  | nil =>
    intro p x out _ _ _ _
    apply el_spec_l1Args_250
    simp [ql_spec_l1Args_250, posOf]
  | cons u us ih =>
    intro p x out hu hl hd ho
    simp only [List.length_cons] at hl ho
    simp only [List.flatten_cons, List.append_assoc] at hd
    have h1 := hu u (by simp)
    apply el_spec_l1Args_250
    simp only [ql_spec_l1Args_250, List.length_cons]
    have hp : p ≤ T.length := by
      have := drop_len hd
      have h2 := h1.pos
      simp at this
      omega
    rw [if_pos (by simp), if_pos (by simp [-List.length_flatten]; omega), p_l1End (a, ()) hg T p hp (by omega), hd, h1.rest hg]
    have hx := drop_len hd
    have hlen : (T.length : Int) - (us.flatten ++ x).length = ((p + u.length : Nat) : Int) := by
      simp only [List.length_append] at hx ⊢
      omega
    simp only [Option.bind_some, hlen]
    rw [w64 (by omega) (by omega), show ((us.length + 1 : Nat) : Int) - 1 = (us.length : Int) by omega, ih (p + u.length) x (out ++ [(p : Int)]) (fun v hv => hu v (by simp [hv])) (by omega) (drop_split hd) (by simp [-List.length_flatten]; omega)]
    simp [posOf]

end Go.Proofs.YtkdceefdipljaaaFft.Ev

/- Plain laws: the texts of terms and of clauses: both programs write the same. No condition but sizes. -/
namespace Go.Proofs.YtkdceefdipljaaaFft.Ev
open Go
set_option autoImplicit false
set_option linter.unusedVariables false
set_option linter.unusedSimpArgs false

/-- The text of a term: the same bytes from both programs, wherever it stands. -/
def TX (a u b : List Int) : Prop := b.length + 1 ≤ 4 * u.length ∧
  (∀ (T x out : List Int) (i : Nat), T.length ≤ 1000 → T.drop i = u ++ x → out.length + 4 * u.length ≤ 1000000 → c_impl_Sign_text M (a, ()) out T i = some ((out ++ b, ((i + u.length : Nat) : Int), ()), ())) ∧
  (∀ (T x : List Int) (i : Nat), T.length ≤ 1000 → T.drop i = u ++ x → c_spec_l1TermText M (a, ()) T i = some ((bytesStr b, ()), ()))

open Classical in
noncomputable def tb (a u : List Int) : List Int := if h : ∃ b, TX a u b then h.choose else []
theorem tb_ok {a u : List Int} (h : ∃ b, TX a u b) : TX a u (tb a u) := by
  unfold tb; rw [dif_pos h]; exact h.choose_spec

/-- The operands' texts, each behind its sign. -/
noncomputable def gl (a : List Int) : Bool → List (List Int) → List Int
  | _, [] => []
  | f, u :: us => (if f then 40 else 44) :: (tb a u ++ gl a false us)
theorem gl_len {a : List Int} : ∀ (us : List (List Int)) (f : Bool), (∀ u ∈ us, TX a u (tb a u)) → (gl a f us).length ≤ 4 * us.flatten.length
  | [], _, _ => by simp [gl]
  | u :: us, f, h => by
    have h1 := (h u (by simp)).1
    have h2 := gl_len us false (fun v hv => h v (by simp [hv]))
    simp only [gl, List.length_cons, List.length_append, List.flatten_cons]
    omega
theorem p_text_loop {a : List Int} (T : List Int) (hT : T.length ≤ 1000) (n : Int) (cnt : Nat) (hc : cnt ≤ 3) : ∀ (us : List (List Int)) (i p : Nat) (x out : List Int), (∀ u ∈ us, TX a u (tb a u)) → i + us.length = cnt → T.drop p = us.flatten ++ x → out.length + 4 * us.flatten.length ≤ 999999 →
    l_impl_Sign_text_506 M out T (a, ()) n p cnt i = some (.inl (out ++ gl a (i == 0) us, (a, ()), n, ((p + us.flatten.length : Nat) : Int), ())) := by
  intro us
  induction us with
  | nil =>
    intro i p x out _ hi _ _
    apply el_impl_Sign_text_506
    simp at hi
    subst hi
    simp [ql_impl_Sign_text_506, gl]
  | cons u us ih =>
    intro i p x out hu hi hd ho
    simp only [List.length_cons] at hi
    simp only [List.flatten_cons, List.append_assoc, List.length_append] at hd ho ⊢
    have h1 := hu u (by simp)
    have h2 := h1.1
    apply el_impl_Sign_text_506
    simp only [ql_impl_Sign_text_506]
    rw [if_pos (by simp [-List.length_flatten]; omega)]
    have step : ∀ sg : Int, ((c_impl_Sign_text M (a, ()) (out ++ [sg]) T (p : Int)).bind fun r2 => l_impl_Sign_text_506 M r2.1.1 T (a, ()) n r2.1.2.1 cnt (IntKind.i64.wrap ((i : Int) + 1))) = some (.inl (out ++ [sg] ++ tb a u ++ gl a false us, (a, ()), n, ((p + u.length + us.flatten.length : Nat) : Int), ())) := by
      intro sg
      rw [h1.2.1 T (us.flatten ++ x) (out ++ [sg]) p hT hd (by simp [-List.length_flatten]; omega), inc_nat (by omega)]
      simp only [Option.bind_some]
      rw [ih (i + 1) (p + u.length) x (out ++ [sg] ++ tb a u) (fun v hv => hu v (by simp [hv])) (by omega) (drop_split hd) (by simp [-List.length_flatten]; omega)]
      simp
    by_cases h0 : i = 0
    · subst h0
      rw [if_pos (by simp)]
      simp only [Option.bind_some, Sum.elim_inl]
      rw [if_pos (by simp [-List.length_flatten]; omega), step]
      simp [gl, Nat.add_assoc]
    · rw [if_neg (by simpa using h0)]
      simp only [Option.bind_some, Sum.elim_inl]
      rw [if_pos (by simp [-List.length_flatten]; omega), step]
      simp [gl, h0, Nat.add_assoc]

theorem p_l1TermText_loop {a : List Int} (T : List Int) (hT : T.length ≤ 1000) (at0 : Int) (P : List Int) (hP : P.length ≤ 3) : ∀ (us : List (List Int)) (i p : Nat) (x : List Int) (out : List UInt8), (∀ u ∈ us, TX a u (tb a u)) → i + us.length = P.length → P.drop i = posOf p us → T.drop p = us.flatten ++ x → out.length + 4 * us.flatten.length ≤ 999999 →
    l_spec_l1TermText_122 M T at0 (a, ()) out P P.length i = some (.inl (T, at0, (a, ()), out ++ bytesStr (gl a (i == 0) us), ())) := by
  intro us
  induction us with
  | nil =>
    intro i p x out _ hi _ _ _
    apply el_spec_l1TermText_122
    simp at hi
    subst hi
    simp [ql_spec_l1TermText_122, gl, bytesStr]
  | cons u us ih =>
    intro i p x out hu hi hd hd2 ho
    simp only [List.length_cons] at hi
    simp only [List.flatten_cons, List.append_assoc, List.length_append] at hd2 ho
    have h1 := hu u (by simp)
    have h2 := h1.1
    apply el_spec_l1TermText_122
    have hi' : i < P.length := by omega
    have hdc := List.drop_eq_getElem_cons hi'
    rw [hd, posOf] at hdc
    obtain ⟨hp, hdc⟩ := List.cons.inj hdc
    simp only [ql_spec_l1TermText_122]
    rw [if_pos (by simpa using hi'), if_pos (by omega), Int.toNat_natCast, List.getElem?_eq_getElem hi', ← hp]
    simp only [Option.bind_some]
    have step : ∀ sg : UInt8, ((c_spec_l1TermText M (a, ()) T (p : Int)).bind fun r3 => if (out ++ [sg]).length + List.length r3.1.1 ≤ 4611686018427387904 then l_spec_l1TermText_122 M T at0 (a, ()) ((out ++ [sg]) ++ r3.1.1) P P.length (IntKind.i64.wrap ((i : Int) + 1)) else none) = some (.inl (T, at0, (a, ()), out ++ [sg] ++ bytesStr (tb a u) ++ bytesStr (gl a false us), ())) := by
      intro sg
      rw [h1.2.2 T (us.flatten ++ x) p hT hd2, inc_nat (by omega)]
      simp only [Option.bind_some]
      rw [if_pos (by simp [bytesStr_len, -List.length_flatten]; omega), ih (i + 1) (p + u.length) x _ (fun v hv => hu v (by simp [hv])) (by omega) hdc.symm (drop_split hd2) (by simp [bytesStr_len, -List.length_flatten]; omega)]
      simp
    by_cases h0 : i = 0
    · subst h0
      rw [if_pos (by simp), if_pos (by simp [-List.length_flatten]; omega)]
      simp only [Option.bind_some, Sum.elim_inl]
      rw [step]
      simp [gl, bytesStr]
    · rw [if_neg (by simpa using h0), if_pos (by simp [-List.length_flatten]; omega)]
      simp only [Option.bind_some, Sum.elim_inl]
      rw [step]
      simp [gl, h0, bytesStr]

theorem TX_var {a : List Int} (hs : a.length ≤ 10) {n : Int} (hb : ¬ badN a n) (h0 : n < 0) : TX a [n] [64 - n] := by
  have hb' := hb
  unfold badN at hb'
  have e1 : IntKind.i64.wrap (-1 - n) = -1 - n := w64 (by omega) (by omega)
  refine ⟨by simp, ?_, ?_⟩
  · intro T x out i hT hd ho
    have hi : i < T.length := by have := drop_len hd; simp at this; omega
    have hx : T[i] = n := by
      have := List.drop_eq_getElem_cons hi
      rw [hd] at this
      exact (List.cons.inj this).1.symm
    apply e_impl_Sign_text
    simp only [q_impl_Sign_text]
    rw [idx_lt hi, hx]
    simp only [Option.bind_some]
    simp only [List.length_cons, List.length_nil] at ho
    rw [if_pos (by simpa using h0), if_pos (by simp [-List.length_flatten]; omega), e1, w8 (x := -1 - n) (by omega) (by omega), w8 (by omega) (by omega), inc_nat (by omega), show (65 : Int) + (-1 - n) = 64 - n by omega]
    rfl
  · intro T x i hT hd
    have hi : i < T.length := by have := drop_len hd; simp at this; omega
    have hx : T[i] = n := by
      have := List.drop_eq_getElem_cons hi
      rw [hd] at this
      exact (List.cons.inj this).1.symm
    apply e_spec_l1TermText
    simp only [q_spec_l1TermText]
    rw [idx_lt hi, hx]
    simp only [Option.bind_some]
    rw [if_pos (by simpa using h0), e1, w64 (by omega) (by omega), w8 (by omega) (by omega), show (65 : Int) + (-1 - n) = 64 - n by omega]
theorem TX_app {a : List Int} (hg : gS a = true) {n : Int} {us : List (List Int)} (hb : ¬ badN a n) (h0 : ¬ n < 0) (hl : (us.length : Int) = ar a n) (hk : ∀ v ∈ us, Tm a v) (kid : ∀ v ∈ us, TX a v (tb a v)) (hu : us.flatten.length ≤ 999) :
    TX a (n :: us.flatten) ((97 + n) :: (gl a true us ++ (if 0 < ar a n then [41] else []))) := by
  have hn := ar_ge hg n
  have hs : a.length ≤ 10 := by simp only [gS, Bool.and_eq_true, decide_eq_true_eq] at hg; exact hg.2.1
  have hb' := hb
  unfold badN at hb'
  have hgl := gl_len us true kid
  refine ⟨by simp [-List.length_flatten]; split <;> simp [-List.length_flatten] <;> omega, ?_, ?_⟩
  · intro T x out i hT hd ho
    have hi : i < T.length := by have := drop_len hd; simp at this; omega
    have hdc := List.drop_eq_getElem_cons hi
    rw [hd] at hdc
    obtain ⟨hx, hdc⟩ := List.cons.inj hdc
    apply e_impl_Sign_text
    simp only [q_impl_Sign_text]
    rw [idx_lt hi, ← hx]
    simp only [Option.bind_some]
    simp only [List.length_cons] at ho
    rw [if_neg (by simpa using h0), if_pos (by simp [-List.length_flatten]; omega), w8 (x := n) (by omega) (by omega), w8 (by omega) (by omega), inc_nat (by omega), p_args (a, ()) n hb]
    simp only [Option.bind_some]
    rw [← hl]
    have := p_text_loop (a := a) T hT n us.length (by omega) us 0 (i + 1) x (out ++ [97 + n]) kid (by omega) hdc.symm (by simp [-List.length_flatten]; omega)
    rw [show ((0 : Nat) : Int) = 0 from rfl] at this
    rw [this]
    simp only [Option.bind_some, Sum.elim_inl]
    rw [p_args (a, ()) n hb]
    simp only [Option.bind_some]
    rw [hl]
    by_cases h4 : 0 < ar a n
    · rw [if_pos (by simpa using h4), if_pos (by simp [-List.length_flatten]; omega), if_pos h4]
      simp [-List.length_flatten]; omega
    · rw [if_neg (by simpa using h4), if_neg h4]
      simp [-List.length_flatten]; omega
  · intro T x i hT hd
    have hi : i < T.length := by have := drop_len hd; simp at this; omega
    have hdc := List.drop_eq_getElem_cons hi
    rw [hd] at hdc
    obtain ⟨hx, hdc⟩ := List.cons.inj hdc
    apply e_spec_l1TermText
    simp only [q_spec_l1TermText]
    rw [idx_lt hi, ← hx]
    simp only [Option.bind_some]
    have hA : c_spec_l1Args M (a, ()) T (i : Int) = some ((posOf (i + 1) us, ()), ()) := by
      apply e_spec_l1Args
      simp only [q_spec_l1Args]
      rw [idx_lt hi, ← hx]
      simp only [Option.bind_some]
      rw [if_neg (by simpa using h0), idx_ar hb h0, inc_nat (by omega)]
      simp only [Option.bind_some]
      have := p_l1Args_loop hg T hT us (i + 1) x [] hk (by omega) hdc.symm (by simp [-List.length_flatten]; omega)
      rw [hl] at this
      rw [this]
      simp
    rw [if_neg (by simpa using h0), hA, w64 (by omega) (by omega), w8 (by omega) (by omega)]
    simp only [Option.bind_some]
    have := p_l1TermText_loop (a := a) T hT i (posOf (i + 1) us) (by rw [posOf_len]; omega) us 0 (i + 1) x (bytesStr [97 + n]) kid (by rw [posOf_len]; omega) rfl hdc.symm (by simp [bytesStr, -List.length_flatten]; omega)
    rw [show ((0 : Nat) : Int) = 0 from rfl] at this
    rw [this]
    simp only [Option.bind_some, Sum.elim_inl]
    rw [idx_lt hi, ← hx]
    simp only [Option.bind_some]
    rw [idx_ar hb h0]
    simp only [Option.bind_some]
    by_cases h4 : 0 < ar a n
    · rw [if_pos (by simpa using h4), if_pos (by simp [bytesStr_len, -List.length_flatten]; omega), if_pos h4]
      simp [bytesStr]
    · rw [if_neg (by simpa using h4), if_neg h4]
      simp [bytesStr]

theorem TX_all {a : List Int} (hg : gS a = true) : ∀ (N : Nat) (u : List Int), u.length ≤ N → N ≤ 1000 → Tm a u → ∃ b, TX a u b := by
  intro N
  induction N with
  | zero => intro u hu _ h; have := h.pos; omega
  | succ N ih =>
    intro u hu hN h
    obtain ⟨n, us, rfl, hb, hl, hk⟩ := h.parts hg
    have hs : a.length ≤ 10 := by simp only [gS, Bool.and_eq_true, decide_eq_true_eq] at hg; exact hg.2.1
    simp only [List.length_cons] at hu
    have kid : ∀ v ∈ us, TX a v (tb a v) := fun v hv => tb_ok (ih v (by
      have : v.length ≤ us.flatten.length := (List.sublist_flatten_of_mem hv).length_le
      omega) (by omega) (hk v hv))
    by_cases h0 : n < 0
    · have h3 : ar a n = 0 := by simp [ar, h0]
      obtain rfl : us = [] := List.eq_nil_of_length_eq_zero (by omega)
      exact ⟨_, TX_var hs hb h0⟩
    · exact ⟨_, TX_app hg hb h0 hl hk kid (by omega)⟩
theorem TX_uniq {a u b c : List Int} (hu : u.length ≤ 1000) (h : TX a u b) (k : TX a u c) : b = c := by
  have h1 := h.2.1 u [] [] 0 hu (by simp) (by simp; omega)
  have h2 := k.2.1 u [] [] 0 hu (by simp) (by simp; omega)
  rw [h1] at h2
  simpa using h2
theorem tb_eq {a u b : List Int} (hu : u.length ≤ 1000) (h : TX a u b) : tb a u = b := TX_uniq hu (tb_ok ⟨b, h⟩) h

/-- The text of a term. -/
noncomputable def tx (a u : List Int) : List UInt8 := bytesStr (tb a u)
theorem isT_TX {a u : List Int} (hg : gS a = true) (h : isT a u = true) : TX a u (tb a u) := by
  simp only [isT, Bool.and_eq_true, decide_eq_true_eq] at h
  exact tb_ok (TX_all hg 40 u h.1 (by omega) h.2)
theorem tx_len {a u : List Int} (hg : gS a = true) (h : isT a u = true) : (tx a u).length ≤ 160 := by
  have := (isT_TX hg h).1
  simp only [isT, Bool.and_eq_true, decide_eq_true_eq] at h
  rw [tx, bytesStr_len]
  omega
theorem p_l1TermText (s : TSign) (hg : gS s.1 = true) (u : List Int) (h : isT s.1 u = true) : c_spec_l1TermText M s u 0 = some ((tx s.1 u, ()), ()) := by
  have hu := h
  simp only [isT, Bool.and_eq_true, decide_eq_true_eq] at hu
  exact (isT_TX hg h).2.2 u [] 0 (by omega) (by simp)
theorem p_termText (s : TSign) (hg : gS s.1 = true) (u : List Int) (h : isT s.1 u = true) : c_impl_Sign_termText M s u = some ((tx s.1 u, ()), ()) := by
  have hu := h
  simp only [isT, Bool.and_eq_true, decide_eq_true_eq] at hu
  apply e_impl_Sign_termText
  have := (isT_TX hg h).2.1 u [] [] 0 (by omega) (by simp) (by simp [-List.length_flatten]; omega)
  rw [show ((0 : Nat) : Int) = 0 from rfl, sign_eta] at this
  simp only [q_impl_Sign_termText, sign_eta, this, Option.bind_some, List.nil_append]
  rfl

end Go.Proofs.YtkdceefdipljaaaFft.Ev

/- Plain laws: the texts of formulas: both programs write the same. No condition but sizes. -/
namespace Go.Proofs.YtkdceefdipljaaaFft.Ev
open Go
set_option autoImplicit false
set_option linter.unusedVariables false
set_option linter.unusedSimpArgs false

/-- The text of a tree. -/
noncomputable def ftx (a : List Int) : Tree → List UInt8
  | .nil => []
  | .mk _ _ l r [] => tx a l ++ [61] ++ tx a r
  | .mk op v _ _ [t] => if op = 2 then [126] ++ ftx a t else if op = 5 then [33] ++ bytesStr [65 + v] ++ ftx a t else [63] ++ bytesStr [65 + v] ++ ftx a t
  | .mk op _ _ _ (t :: u :: _) => [40] ++ ftx a t ++ (if op = 3 then [38] else [124]) ++ ftx a u ++ [41]

theorem p_Letter (v : Int) (h0 : 0 ≤ v) (h1 : v ≤ 5) : c_spec_l14Letter M v = some ((bytesStr [65 + v], ()), ()) := by
  apply e_spec_l14Letter
  simp only [q_spec_l14Letter]
  rw [w64 (by omega) (by omega), w8 (by omega) (by omega)]

theorem p_formText {a : List Int} (hg : gS a = true) {g : List TForm} {t : Tree} (hf : FT a g t) : g.length ≤ 900 → ∃ b : List UInt8, b = ftx a t ∧ b.length ≤ 400 * g.length ∧ c_impl_tree_text M t (a, ()) = some ((b, ()), ()) ∧
    ∀ (pre post : List TForm), pre.length + g.length ≤ 900 → c_spec_l14Text M (a, ()) (pre ++ (g ++ post)) ((pre.length : Int) + g.length - 1) = some ((b, ()), ()) := by
  induction hf with
  | @leaf x h h0 =>
    intro _
    obtain ⟨h1, hL, hR⟩ := leaf_op h h0
    have l1 := tx_len hg hL
    have l2 := tx_len hg hR
    refine ⟨tx a x.2.2.1 ++ [61] ++ tx a x.2.2.2.1, by simp [ftx], by simp; omega, e_impl_tree_text _ _ ?_, fun pre post _ => e_spec_l14Text _ _ _ ?_⟩
    · simp only [q_impl_tree_text, treeK, h1, Int.reduceBEq, Bool.false_eq_true, ↓reduceIte]
      simp (disch := omega) only [Option.bind_some, p_termText (a, ()) hg _ hL, p_termText (a, ()) hg _ hR, Option.bind_some, if_pos, List.length_append, List.length_cons, List.length_nil]
    · simp only [List.length_cons, List.length_nil, List.singleton_append]
      rw [show (pre.length : Int) + ((0 + 1 : Nat) : Int) - 1 = (pre.length : Int) by omega]
      simp only [q_spec_l14Text, idx_mid, Option.bind_some, h1, Int.reduceBEq, Bool.false_eq_true, ↓reduceIte]
      simp (disch := omega) only [Option.bind_some, p_l1TermText (a, ()) hg _ hL, p_l1TermText (a, ()) hg _ hR, if_pos, List.length_append, List.length_cons, List.length_nil]
  | @un x g t h h1 hgt ih =>
    intro hlen
    simp only [List.length_append, List.length_cons, List.length_nil] at hlen
    obtain ⟨b, b0, b1, b2, b3⟩ := ih (by omega)
    obtain ⟨hop, hv0, hv5⟩ := un_op h h1
    have w1 : IntKind.u8.wrap x.2.1 = x.2.1 := w8 (by omega) (by omega)
    have w2 : IntKind.u8.wrap (65 + x.2.1) = 65 + x.2.1 := w8 (by omega) (by omega)
    have hlet := p_Letter x.2.1 hv0 hv5
    have hix : idx [t] 0 = some t := rfl
    have hpt : ∀ pre post : List TForm, idx (pre ++ (g ++ [x] ++ post)) (((pre ++ g).length : Nat) : Int) = some x := fun pre post => by
      have := idx_mid (pre ++ g) post x
      simpa using this
    have hp3 : ∀ pre post : List TForm, pre.length + (g.length + 1) ≤ 900 → c_spec_l14Text M (a, ()) (pre ++ (g ++ [x] ++ post)) (IntKind.i64.wrap ((((pre ++ g).length : Nat) : Int) - 1)) = some ((b, ()), ()) := fun pre post hl => by
      have := b3 pre (x :: post) (by omega)
      rw [w64 (by simp; omega) (by simp; omega)]
      simpa using this
    have he : ∀ pre : List TForm, (pre.length : Int) + ((g ++ [x]).length : Int) - 1 = (((pre ++ g).length : Nat) : Int) := fun pre => by simp; omega
    rcases hop with ho | ho | ho
    · refine ⟨[126] ++ b, by simp [ftx, ho, b0], by simp; omega, e_impl_tree_text _ _ ?_, fun pre post hl => ?_⟩
      · simp only [q_impl_tree_text, treeK, ho, Int.reduceBEq, Bool.false_eq_true, ↓reduceIte]
        simp (disch := omega) only [hix, Option.bind_some, b2, if_pos, if_neg, if_true, List.length_append, List.length_cons, List.length_nil]
      · simp only [List.length_append, List.length_cons, List.length_nil] at hl
        rw [he]
        apply e_spec_l14Text
        simp only [q_spec_l14Text, hpt, Option.bind_some, Sum.elim_inl, ho, Int.reduceBEq, Bool.false_eq_true, ↓reduceIte, hp3 pre post (by omega)]
        simp (disch := omega) only [Option.bind_some, if_pos, if_neg, if_true, List.length_append, List.length_cons, List.length_nil]
    · refine ⟨[33] ++ bytesStr [65 + x.2.1] ++ b, by simp [ftx, ho, b0], by simp [bytesStr]; omega, e_impl_tree_text _ _ ?_, fun pre post hl => ?_⟩
      · simp only [q_impl_tree_text, treeK, ho, Int.reduceBEq, Bool.false_eq_true, ↓reduceIte]
        simp (disch := omega) only [w1, w2, hix, Option.bind_some, b2, if_pos, if_neg, if_true, List.length_append, List.length_cons, List.length_nil, bytesStr_len]
      · simp only [List.length_append, List.length_cons, List.length_nil] at hl
        rw [he]
        apply e_spec_l14Text
        simp only [q_spec_l14Text, hpt, Option.bind_some, Sum.elim_inl, ho, Int.reduceBEq, Bool.false_eq_true, ↓reduceIte, hlet, hp3 pre post (by omega)]
        simp (disch := omega) only [Option.bind_some, if_pos, if_neg, if_true, List.length_append, List.length_cons, List.length_nil, bytesStr_len]
    · refine ⟨[63] ++ bytesStr [65 + x.2.1] ++ b, by simp [ftx, ho, b0], by simp [bytesStr]; omega, e_impl_tree_text _ _ ?_, fun pre post hl => ?_⟩
      · simp only [q_impl_tree_text, treeK, ho, Int.reduceBEq, Bool.false_eq_true, ↓reduceIte]
        simp (disch := omega) only [w1, w2, hix, Option.bind_some, b2, if_pos, if_neg, if_true, List.length_append, List.length_cons, List.length_nil, bytesStr_len]
      · simp only [List.length_append, List.length_cons, List.length_nil] at hl
        rw [he]
        apply e_spec_l14Text
        simp only [q_spec_l14Text, hpt, Option.bind_some, Sum.elim_inl, ho, Int.reduceBEq, Bool.false_eq_true, ↓reduceIte, hlet, hp3 pre post (by omega)]
        simp (disch := omega) only [Option.bind_some, if_pos, if_neg, if_true, List.length_append, List.length_cons, List.length_nil, bytesStr_len]
  | @bin x g k t u h h2 hgt hkt ih1 ih2 =>
    intro hlen
    simp only [List.length_append, List.length_cons, List.length_nil] at hlen
    obtain ⟨b, b0, b1, b2, b3⟩ := ih1 (by omega)
    obtain ⟨c, c0, c1, c2, c3⟩ := ih2 (by omega)
    have hop := bin_op h h2
    have hix : idx [t, u] 0 = some t := rfl
    have hix1 : idx [t, u] 1 = some u := rfl
    have hpt : ∀ pre post : List TForm, idx (pre ++ (g ++ k ++ [x] ++ post)) (((pre ++ (g ++ k)).length : Nat) : Int) = some x := fun pre post => by
      have := idx_mid (pre ++ (g ++ k)) post x
      simpa using this
    have he : ∀ pre : List TForm, (pre.length : Int) + ((g ++ k ++ [x]).length : Int) - 1 = (((pre ++ (g ++ k)).length : Nat) : Int) := fun pre => by simp; omega
    have hfi : ∀ pre post : List TForm, pre.length + (g.length + k.length + 1) ≤ 900 → c_spec_l14First M (pre ++ (g ++ k ++ [x] ++ post)) (((pre ++ (g ++ k)).length : Nat) : Int) = some (((((pre ++ g).length : Nat) : Int) - 1, ()), ()) := fun pre post hl => by
      have := p_l14First hkt (pre ++ g) (x :: post) (by simp; omega)
      simp only [List.append_assoc, List.length_append] at this ⊢
      rw [show ((pre.length + g.length : Nat) : Int) + (k.length : Int) = ((pre.length + (g.length + k.length) : Nat) : Int) by omega] at this
      simpa using this
    have hp3 : ∀ pre post : List TForm, pre.length + (g.length + k.length + 1) ≤ 900 → c_spec_l14Text M (a, ()) (pre ++ (g ++ k ++ [x] ++ post)) ((((pre ++ g).length : Nat) : Int) - 1) = some ((b, ()), ()) := fun pre post hl => by
      have := b3 pre (k ++ x :: post) (by omega)
      simpa using this
    have hq3 : ∀ pre post : List TForm, pre.length + (g.length + k.length + 1) ≤ 900 → c_spec_l14Text M (a, ()) (pre ++ (g ++ k ++ [x] ++ post)) (IntKind.i64.wrap ((((pre ++ (g ++ k)).length : Nat) : Int) - 1)) = some ((c, ()), ()) := fun pre post hl => by
      have := c3 (pre ++ g) (x :: post) (by simp; omega)
      rw [w64 (by simp; omega) (by simp; omega)]
      simp only [List.append_assoc, List.length_append] at this ⊢
      rw [show ((pre.length + g.length : Nat) : Int) + (k.length : Int) = ((pre.length + (g.length + k.length) : Nat) : Int) by omega] at this
      simpa using this
    rcases hop with ho | ho
    · refine ⟨[40] ++ b ++ [38] ++ c ++ [41], by simp [ftx, ho, b0, c0], by simp; omega, e_impl_tree_text _ _ ?_, fun pre post hl => ?_⟩
      · simp only [q_impl_tree_text, treeK, ho, Int.reduceBEq, Bool.false_eq_true, ↓reduceIte]
        simp (disch := omega) only [hix, hix1, Option.bind_some, b2, c2, if_pos, if_neg, if_true, List.length_append, List.length_cons, List.length_nil]
      · simp only [List.length_append, List.length_cons, List.length_nil] at hl
        rw [he]
        apply e_spec_l14Text
        simp only [q_spec_l14Text, hpt, Option.bind_some, Sum.elim_inl, ho, Int.reduceBEq, Bool.false_eq_true, ↓reduceIte, hfi pre post (by omega), hp3 pre post (by omega), hq3 pre post (by omega)]
        simp (disch := omega) only [Option.bind_some, Sum.elim_inl, if_pos, if_neg, if_true, List.length_append, List.length_cons, List.length_nil]
    · refine ⟨[40] ++ b ++ [124] ++ c ++ [41], by simp [ftx, ho, b0, c0], by simp; omega, e_impl_tree_text _ _ ?_, fun pre post hl => ?_⟩
      · simp only [q_impl_tree_text, treeK, ho, Int.reduceBEq, Bool.false_eq_true, ↓reduceIte]
        simp (disch := omega) only [hix, hix1, Option.bind_some, b2, c2, if_pos, if_neg, if_true, List.length_append, List.length_cons, List.length_nil]
      · simp only [List.length_append, List.length_cons, List.length_nil] at hl
        rw [he]
        apply e_spec_l14Text
        simp only [q_spec_l14Text, hpt, Option.bind_some, Sum.elim_inl, ho, Int.reduceBEq, Bool.false_eq_true, ↓reduceIte, hfi pre post (by omega), hp3 pre post (by omega), hq3 pre post (by omega)]
        simp (disch := omega) only [Option.bind_some, Sum.elim_inl, if_pos, if_neg, if_true, List.length_append, List.length_cons, List.length_nil]

theorem p_FormTexts (s : TSign) (hs : s.1.length ≤ 1048576) (c : List TForm) (hc : c.length ≤ 1048576) (hx : ∀ x ∈ c, smF x) : ∃ t : List UInt8 × Bool, c_spec_FormText M s c = some ((t.1, t.2, ()), ()) ∧ c_impl_FormText M s c = some ((t.1, t.2, ()), ()) ∧ t.2 = (gS s.1 && fOK s.1 c) ∧ (t.2 = true → ∃ T, gT s.1 [] c = some [T] ∧ t.1 = ftx s.1 T) ∧ t.1.length ≤ 6000 := by
  obtain ⟨t, ft, fT⟩ := p_formula s hs c
  cases h : (gS s.1 && fOK s.1 c) with
  | false =>
    rw [h] at ft
    refine ⟨([], false), e_spec_FormText _ _ ?_, e_impl_FormText _ _ ?_, rfl, by simp, by simp⟩
    · simp only [q_spec_FormText, sign_eta', p_spec_GoodForm s hs c hc hx, h, Option.bind_some]; rfl
    · simp only [q_impl_FormText, sign_eta', ft, Option.bind_some]; rfl
  | true =>
    rw [h] at ft
    have h' := h
    simp only [Bool.and_eq_true, fOK, decide_eq_true_eq] at h'
    obtain ⟨b, b0, b1, b2, b3⟩ := p_formText h'.1 (gT_FT (fT h)) (by omega)
    have b3' := b3 [] [] (by simp; omega)
    have hpos := (gT_FT (fT h)).pos
    refine ⟨(b, true), e_spec_FormText _ _ ?_, e_impl_FormText _ _ ?_, rfl, fun _ => ⟨t, fT h, b0⟩, by simp only; omega⟩
    · simp only [q_spec_FormText, sign_eta', p_spec_GoodForm s hs c hc hx, h, Option.bind_some]
      rw [w64 (by omega) (by omega)]
      simp only [List.nil_append, List.append_nil, List.length_nil, show ((0 : Nat) : Int) = 0 from rfl, Int.zero_add, sign_eta'] at b3'
      rw [b3']
      rfl
    · simp only [q_impl_FormText, sign_eta', ft, Option.bind_some]
      rw [sign_eta'] at b2
      rw [b2]
      rfl

end Go.Proofs.YtkdceefdipljaaaFft.Ev

/- Plain laws: reading a term: both programs read the same, and fail at the same place. No condition but sizes. -/
namespace Go.Proofs.YtkdceefdipljaaaFft.Ev
open Go
set_option autoImplicit false
set_option linter.unusedVariables false
set_option linter.unusedSimpArgs false

/-- What a reader gives: the place of a fault, or what was read and how far. -/
inductive Rd (α : Type) where
  | bad (c : Nat)
  | ok (x : α) (c : Nat)

/-- Operands, each behind its sign. -/
def rdK (T : List UInt8 → Rd (List Int)) : Nat → Nat → List UInt8 → Rd (List Int)
  | _, 0, _ => .ok [] 0
  | _, _ + 1, [] => .bad 0
  | sg, m + 1, b :: r => if b.toNat = sg then
      match T r with
      | .bad c => .bad (1 + c)
      | .ok t c => match rdK T 44 m (r.drop c) with
        | .bad c' => .bad (1 + c + c')
        | .ok t' c' => .ok (t ++ t') (1 + c + c')
    else .bad 0
/-- A term. -/
def rdT (a : List Int) : Nat → List UInt8 → Rd (List Int)
  | 0, _ => .bad 0
  | _ + 1, [] => .bad 0
  | f + 1, b :: r =>
    if 65 ≤ b.toNat ∧ b.toNat ≤ 76 then .ok [-1 - ((b.toNat : Int) - 65)] 1
    else if 97 ≤ b.toNat ∧ b.toNat < 97 + a.length then
      match rdK (rdT a f) 40 (ar a ((b.toNat : Int) - 97)).toNat r with
      | .bad c => .bad (1 + c)
      | .ok t c => if ar a ((b.toNat : Int) - 97) ≤ 0 then .ok (((b.toNat : Int) - 97) :: t) (1 + c) else
        match r.drop c with
        | [] => .bad (1 + c)
        | b' :: _ => if b'.toNat = 41 then .ok (((b.toNat : Int) - 97) :: t) (1 + c + 1) else .bad (1 + c)
    else .bad 0

def Rd.within {α : Type} (n : Nat) : Rd α → Prop
  | .bad c => c ≤ n
  | .ok _ c => c ≤ n
theorem rdK_le {T : List UInt8 → Rd (List Int)} (hT : ∀ r, (T r).within r.length ∧ ∀ t c, T r = .ok t c → t.length ≤ c) : ∀ (m sg : Nat) (r : List UInt8), (rdK T sg m r).within r.length ∧ ∀ t c, rdK T sg m r = .ok t c → t.length ≤ c
  | 0, _, _ => ⟨Nat.zero_le _, fun t c h => by simp only [rdK, Rd.ok.injEq] at h; rw [← h.1]; simp⟩
  | m + 1, sg, [] => ⟨Nat.zero_le _, fun t c h => by simp [rdK] at h⟩
  | m + 1, sg, b :: r => by
    simp only [rdK]
    have h1 := hT r
    by_cases hb : b.toNat = sg
    · rw [if_pos hb]
      cases hr : T r with
      | bad c =>
        rw [hr] at h1
        have := h1.1
        simp only [Rd.within] at this
        exact ⟨by simp only [Rd.within, List.length_cons]; omega, fun t c h => by simp at h⟩
      | ok t c =>
        rw [hr] at h1
        have g1 := h1.1
        have g2 := h1.2 t c rfl
        have h2 := rdK_le hT m 44 (r.drop c)
        simp only [Rd.within] at g1
        simp only
        cases hk : rdK T 44 m (r.drop c) with
        | bad c' =>
          rw [hk] at h2
          have := h2.1
          simp only [Rd.within, List.length_drop] at this
          exact ⟨by simp only [Rd.within, List.length_cons]; omega, fun t c h => by simp at h⟩
        | ok t' c' =>
          rw [hk] at h2
          have k1 := h2.1
          have k2 := h2.2 t' c' rfl
          simp only [Rd.within, List.length_drop] at k1
          exact ⟨by simp only [Rd.within, List.length_cons]; omega, fun t c h => by simp only [Rd.ok.injEq] at h; rw [← h.1, ← h.2]; simp; omega⟩
    · rw [if_neg hb]
      exact ⟨Nat.zero_le _, fun t c h => by simp at h⟩
theorem rdT_le {a : List Int} : ∀ (f : Nat) (r : List UInt8), (rdT a f r).within r.length ∧ ∀ t c, rdT a f r = .ok t c → t.length ≤ c
  | 0, _ => ⟨Nat.zero_le _, fun t c h => by simp [rdT] at h⟩
  | f + 1, [] => ⟨Nat.zero_le _, fun t c h => by simp [rdT] at h⟩
  | f + 1, b :: r => by
    simp only [rdT]
    have hk := rdK_le (rdT_le (a := a) f) (ar a ((b.toNat : Int) - 97)).toNat 40 r
    split
    · exact ⟨by simp [Rd.within], fun t c h => by simp only [Rd.ok.injEq] at h; rw [← h.1, ← h.2]; simp⟩
    · split
      · split
        · rename_i c hc
          rw [hc] at hk
          have := hk.1
          simp only [Rd.within] at this
          exact ⟨by simp only [Rd.within, List.length_cons]; omega, fun t c h => by simp at h⟩
        · rename_i t c hc
          rw [hc] at hk
          have g1 := hk.1
          have g2 := hk.2 t c rfl
          simp only [Rd.within] at g1
          split
          · exact ⟨by simp only [Rd.within, List.length_cons]; omega, fun t c h => by simp only [Rd.ok.injEq] at h; rw [← h.1, ← h.2]; simp; omega⟩
          · split
            · exact ⟨by simp only [Rd.within, List.length_cons]; omega, fun t c h => by simp at h⟩
            · rename_i b' r' hd
              have hl := congrArg List.length hd
              simp only [List.length_drop, List.length_cons] at hl
              split
              · exact ⟨by simp only [Rd.within, List.length_cons]; omega, fun t c h => by simp only [Rd.ok.injEq] at h; rw [← h.1, ← h.2]; simp; omega⟩
              · exact ⟨by simp only [Rd.within, List.length_cons]; omega, fun t c h => by simp at h⟩
      · exact ⟨Nat.zero_le _, fun t c h => by simp at h⟩

theorem byte_ge {b : UInt8} : IntKind.i64.wrap ((b.toNat : Nat) : Int) = (b.toNat : Int) := by
  have := b.toNat_lt
  exact w64 (by omega) (by omega)

/-! ### The reference's reader -/
def spT (at0 : Nat) : Rd (List Int) → (List Int × Int × Bool × Unit) × Unit
  | .bad c => (([], ((at0 + c : Nat) : Int), false, ()), ())
  | .ok t c => ((t, ((at0 + c : Nat) : Int), true, ()), ())

theorem p_spT_loop {a : List Int} (hg : gS a = true) (X : List UInt8) (hX : X.length ≤ 1000) (f : Nat) (ih : ∀ at0 : Nat, at0 ≤ X.length → X.length - at0 < f → c_spec_l1ReadTerm M (a, ()) X at0 = some (spT at0 (rdT a f (X.drop at0))))
    (b : Nat) (hb : 97 ≤ b ∧ b < 97 + a.length) : ∀ (m i at0 : Nat) (out : List Int), ((i + m : Nat) : Int) = ar a ((b : Int) - 97) → at0 ≤ X.length → X.length - at0 ≤ f → out.length ≤ at0 →
      l_spec_l1ReadTerm_2042 M X at0 (a, ()) b out i = some (match rdK (rdT a f) (if i = 0 then 40 else 44) m (X.drop at0) with
        | .bad c => .inr (([], ((at0 + c : Nat) : Int), false, ()), ())
        | .ok t c => .inl (X, ((at0 + c : Nat) : Int), (a, ()), (b : Int), out ++ t, ())) := by
  have hsl : a.length ≤ 10 := by simp only [gS, Bool.and_eq_true, decide_eq_true_eq] at hg; exact hg.2.1
  have hbn : ¬ badN a ((b : Int) - 97) := by unfold badN; omega
  have hidx : idx a (IntKind.i64.wrap ((b : Int) - 97)) = some (ar a ((b : Int) - 97)) := by rw [w64 (by omega) (by omega)]; exact idx_ar hbn (by omega)
  have har := ar_ge hg ((b : Int) - 97)
  intro m
  induction m with
  | zero =>
    intro i at0 out hi ha hf ho
    apply el_spec_l1ReadTerm_2042
    simp only [ql_spec_l1ReadTerm_2042, hidx, Option.bind_some]
    rw [if_neg (by simp; omega)]
    simp [rdK]
  | succ m ihm =>
    intro i at0 out hi ha hf ho
    apply el_spec_l1ReadTerm_2042
    simp only [ql_spec_l1ReadTerm_2042, hidx, Option.bind_some]
    rw [if_pos (by simp; omega)]
    have key : ∀ sg : Int, sg = ((if i = 0 then 40 else 44 : Nat) : Int) → (if ((at0 : Int) == (List.length X : Int)) = true then (some (.inr (([], (at0 : Int), false, ()), ()))) else ((idx X at0).bind fun b3 => (if (((UInt8.toNat b3 : Nat) : Int) != sg) = true then (some (.inr (([], (at0 : Int), false, ()), ()))) else ((c_spec_l1ReadTerm M (a, ()) X (IntKind.i64.wrap ((at0 : Int) + (1 : Int)))).bind fun r4 => (if (!r4.1.2.2.1) = true then (some (.inr (([], r4.1.2.1, false, ()), ()))) else (if (List.length out + List.length r4.1.1) * 8 ≤ 140737488355328 then (l_spec_l1ReadTerm_2042 M X r4.1.2.1 (a, ()) b (out ++ r4.1.1) (IntKind.i64.wrap ((i : Int) + (1 : Int)))) else none)))))) = some (match rdK (rdT a f) (if i = 0 then 40 else 44) (m + 1) (X.drop at0) with
        | .bad c => .inr (([], ((at0 + c : Nat) : Int), false, ()), ())
        | .ok t c => .inl (X, ((at0 + c : Nat) : Int), (a, ()), (b : Int), out ++ t, ())) := by
      intro sg hsg
      by_cases hend : at0 = X.length
      · rw [if_pos (by simp [hend]), List.drop_eq_nil_of_le (by omega)]
        rfl
      · have hlt : at0 < X.length := by omega
        rw [if_neg (by simp; omega), idx_lt hlt, List.drop_eq_getElem_cons hlt]
        simp only [Option.bind_some, rdK]
        by_cases hs : (X[at0]).toNat = (if i = 0 then 40 else 44)
        · have hcall := ih (at0 + 1) (by omega) (by omega)
          rw [if_pos hs, if_neg (by rw [hsg, ← hs]; simp), inc_nat (by omega)]
          have hle := rdT_le (a := a) f (X.drop (at0 + 1))
          cases hr : rdT a f (X.drop (at0 + 1)) with
          | bad c =>
            rw [hr] at hcall
            have hcall' : c_spec_l1ReadTerm M (a, ()) X ((at0 + 1 : Nat) : Int) = some (([], ((at0 + 1 + c : Nat) : Int), false, ()), ()) := hcall
            rw [hcall']
            simp only [Option.bind_some]
            rw [if_pos (by simp), Nat.add_assoc]
          | ok t c =>
            rw [hr] at hle hcall
            have hcall' : c_spec_l1ReadTerm M (a, ()) X ((at0 + 1 : Nat) : Int) = some ((t, ((at0 + 1 + c : Nat) : Int), true, ()), ()) := hcall
            have g1 := hle.1
            have g2 := hle.2 t c rfl
            simp only [Rd.within, List.length_drop] at g1
            rw [hcall']
            simp only [Option.bind_some]
            rw [if_neg (by simp), if_pos (by omega), inc_nat (by omega), ihm (i + 1) (at0 + 1 + c) (out ++ t) (by omega) (by omega) (by omega) (by simp; omega)]
            rw [if_neg (by omega), List.drop_drop]
            cases rdK (rdT a f) 44 m (X.drop (at0 + 1 + c)) with
            | bad c' => simp only; rw [show at0 + 1 + c + c' = at0 + (1 + c + c') by omega]
            | ok t' c' => simp only; rw [show at0 + 1 + c + c' = at0 + (1 + c + c') by omega, List.append_assoc]
        · rw [if_neg hs, if_pos (by rw [hsg]; simp; omega)]
          rfl
    by_cases h0 : i = 0
    · subst h0
      rw [if_pos (by simp)]
      simp only [Option.bind_some, Sum.elim_inl]
      exact key 40 rfl
    · rw [if_neg (by simpa using h0)]
      simp only [Option.bind_some, Sum.elim_inl]
      exact key 44 (by rw [if_neg h0]; rfl)

theorem p_spT {a : List Int} (hg : gS a = true) (X : List UInt8) (hX : X.length ≤ 1000) : ∀ (f at0 : Nat), at0 ≤ X.length → X.length - at0 < f → c_spec_l1ReadTerm M (a, ()) X at0 = some (spT at0 (rdT a f (X.drop at0))) := by
  have hsl : a.length ≤ 10 := by simp only [gS, Bool.and_eq_true, decide_eq_true_eq] at hg; exact hg.2.1
  intro f
  induction f with
  | zero => intro at0 _ h; omega
  | succ f ih =>
    intro at0 ha hf
    apply e_spec_l1ReadTerm
    simp only [q_spec_l1ReadTerm]
    by_cases hend : at0 = X.length
    · rw [if_pos (by simp; omega), List.drop_eq_nil_of_le (by omega)]
      simp [rdT, spT, hend]
    · have hlt : at0 < X.length := by omega
      have hbl := (X[at0]).toNat_lt
      rw [if_neg (by simp; omega), idx_lt hlt, List.drop_eq_getElem_cons hlt]
      simp only [Option.bind_some, byte_ge, p_l1In]
      rw [w64 (x := (97 : Int) + (a.length : Int)) (by omega) (by omega), w64 (x := (97 : Int) + (a.length : Int) - 1) (by omega) (by omega), inc_nat (by omega)]
      simp only [rdT]
      by_cases h1 : 65 ≤ (X[at0]).toNat ∧ (X[at0]).toNat ≤ 76
      · rw [if_pos (by simp; omega), if_pos h1, w64 (x := ((X[at0]).toNat : Int) - 65) (by omega) (by omega), w64 (x := -1 - (((X[at0]).toNat : Int) - 65)) (by omega) (by omega)]
        rfl
      · rw [if_neg (by simp; omega), if_neg h1]
        by_cases h2 : 97 ≤ (X[at0]).toNat ∧ (X[at0]).toNat < 97 + a.length
        · have hbn : ¬ badN a (((X[at0]).toNat : Int) - 97) := by unfold badN; omega
          have hidx : idx a (IntKind.i64.wrap (((X[at0]).toNat : Int) - 97)) = some (ar a (((X[at0]).toNat : Int) - 97)) := by rw [w64 (by omega) (by omega)]; exact idx_ar hbn (by omega)
          have har := ar_ge hg (((X[at0]).toNat : Int) - 97)
          have hloop := p_spT_loop hg X hX f ih (X[at0]).toNat h2 (ar a (((X[at0]).toNat : Int) - 97)).toNat 0 (at0 + 1) [((X[at0]).toNat : Int) - 97] (by omega) (by omega) (by omega) (by simp)
          rw [show ((0 : Nat) : Int) = 0 from rfl, if_pos rfl] at hloop
          rw [if_neg (by simp; omega), if_pos h2, w64 (x := ((X[at0]).toNat : Int) - 97) (by omega) (by omega), hloop]
          have hkl := rdK_le (rdT_le (a := a) f) (ar a (((X[at0]).toNat : Int) - 97)).toNat 40 (X.drop (at0 + 1))
          cases hk : rdK (rdT a f) 40 (ar a (((X[at0]).toNat : Int) - 97)).toNat (X.drop (at0 + 1)) with
          | bad c =>
            simp only [Option.bind_some, Sum.elim_inr, spT]
            rw [show at0 + 1 + c = at0 + (1 + c) by omega]
          | ok t c =>
            rw [hk] at hkl
            have g1 := hkl.1
            simp only [Rd.within, List.length_drop] at g1
            simp only [Option.bind_some, Sum.elim_inl, hidx]
            by_cases h3 : ar a (((X[at0]).toNat : Int) - 97) ≤ 0
            · rw [if_neg (by simp; omega), if_pos h3]
              simp only [Option.bind_some, Sum.elim_inl, spT]
              rw [show at0 + 1 + c = at0 + (1 + c) by omega]
              rfl
            · rw [if_pos (by simp; omega), if_neg h3, List.drop_drop]
              by_cases h4 : at0 + 1 + c = X.length
              · rw [if_pos (by simp; omega), List.drop_eq_nil_of_le (by omega)]
                simp only [Option.map_some, Option.bind_some, Sum.elim_inr, spT]
                rw [show at0 + 1 + c = at0 + (1 + c) by omega]
              · have hlt2 : at0 + 1 + c < X.length := by omega
                rw [if_neg (by simp; omega), idx_lt hlt2, List.drop_eq_getElem_cons hlt2]
                simp only [Option.bind_some]
                by_cases h5 : (X[at0 + 1 + c]).toNat = 41
                · rw [if_neg (by simp [h5]), if_pos h5, inc_nat (by omega)]
                  simp only [Option.bind_some, Sum.elim_inl, spT]
                  rw [show at0 + 1 + c + 1 = at0 + (1 + c + 1) by omega]
                  rfl
                · rw [if_pos (by simp; omega), if_neg h5]
                  simp only [Option.map_some, Option.bind_some, Sum.elim_inr, spT]
                  rw [show at0 + 1 + c = at0 + (1 + c) by omega]
        · rw [if_pos (by simp; omega), if_neg h2]
          rfl

end Go.Proofs.YtkdceefdipljaaaFft.Ev

/- Plain laws: reading a term: the program's reader reads as the reference's does. No condition but sizes. -/
namespace Go.Proofs.YtkdceefdipljaaaFft.Ev
open Go
set_option autoImplicit false
set_option linter.unusedVariables false
set_option linter.unusedSimpArgs false

abbrev TP := (List Int × Unit) × List UInt8 × Int × Int × Bool × Unit
abbrev TQ := List Int × List UInt8 × Int × Int × Bool × Unit
/-- A reader at a place. -/
abbrev mkP (a : List Int) (X : List UInt8) (i : Nat) (b : Bool) : TP := ((a, ()), X, (i : Int), 12, b, ())
abbrev mkQ (a : List Int) (X : List UInt8) (i : Nat) (b : Bool) : TQ := (a, X, (i : Int), 12, b, ())
/-- The next byte, or 0. -/
def nx (X : List UInt8) (i : Nat) (b : Bool) : Nat := if b = true then 0 else match X[i]? with
  | some c => c.toNat
  | none => 0
theorem nx_lt (X : List UInt8) (i : Nat) (b : Bool) : nx X i b < 256 := by
  unfold nx
  split
  · omega
  · split
    · rename_i c _; exact c.toNat_lt
    · omega
theorem nx_true (X : List UInt8) (i : Nat) : nx X i true = 0 := rfl
theorem nx_get {X : List UInt8} {i : Nat} (h : i < X.length) : nx X i false = (X[i]).toNat := by simp [nx, h]
theorem nx_end {X : List UInt8} {i : Nat} (h : X.length ≤ i) (b : Bool) : nx X i b = 0 := by unfold nx; split <;> simp [h]

theorem p_nextP (a : List Int) (X : List UInt8) (i : Nat) (b : Bool) : c_impl_parser_next M (mkP a X i b) = some (((nx X i b : Int), ()), (mkP a X i b, ())) := by
  apply e_impl_parser_next
  simp only [q_impl_parser_next]
  cases b with
  | true => rfl
  | false =>
    rw [if_neg (by simp)]
    by_cases h : i < X.length
    · rw [if_neg (by simp; omega), idx_lt h, nx_get h]; rfl
    · rw [if_pos (by simp; omega), nx_end (by omega)]; rfl

theorem p_take_loop (a : List Int) (X : List UInt8) (i : Nat) (hi : i ≤ 1000000) (b : Bool) (w : List UInt8) (hw : w.length ≤ 1000) (c : Nat) : ∀ k j : Nat, j + k = w.length → l_impl_parser_take_58 M (mkQ a X i b) w c w.length j = some (if (w.drop j).any (fun x => x.toNat == c) = true ∧ c ≠ 0 then .inr (((c : Int), ()), (mkP a X (i + 1) b, ())) else .inl (mkQ a X i b, ())) := by
  intro k
  induction k with
  | zero =>
    intro j hj
    obtain rfl : j = w.length := by omega
    apply el_impl_parser_take_58
    simp [ql_impl_parser_take_58]
  | succ k ih =>
    intro j hj
    have hlt : j < w.length := by omega
    apply el_impl_parser_take_58
    simp only [ql_impl_parser_take_58]
    rw [if_pos (by simpa using hlt), idx_lt hlt, List.drop_eq_getElem_cons hlt, inc_nat (show j < 4611686018427387904 by omega), inc_nat (show i < 4611686018427387904 by omega)]
    simp only [Option.bind_some]
    have ihj := ih (j + 1) (by omega)
    by_cases h : (w[j]).toNat = c
    · rw [if_pos (by simp; omega)]
      by_cases h0 : c = 0
      · rw [if_neg (by simp; omega)]
        have e : (mkQ a X i b) = (a, X, (i : Int), 12, b, ()) := rfl
        rw [← e, ihj, if_neg (fun hh => hh.2 h0), if_neg (fun hh => hh.2 h0)]
      · rw [if_pos (by simp; omega), if_pos ⟨by simp only [List.any_cons, h, beq_self_eq_true, Bool.true_or], h0⟩]
    · rw [if_neg (by simp; omega)]
      have e : (mkQ a X i b) = (a, X, (i : Int), 12, b, ()) := rfl
      rw [← e, ihj]
      have : (w[j] :: w.drop (j + 1)).any (fun x => x.toNat == c) = (w.drop (j + 1)).any (fun x => x.toNat == c) := by simp only [List.any_cons, beq_false_of_ne h, Bool.false_or]
      rw [this]
theorem p_take (a : List Int) (X : List UInt8) (i : Nat) (hi : i ≤ 1000000) (b : Bool) (w : List UInt8) (hw : w.length ≤ 1000) :
    c_impl_parser_take M (mkP a X i b) w = some (if w.any (fun x => x.toNat == nx X i b) = true ∧ nx X i b ≠ 0 then (((nx X i b : Int), ()), (mkP a X (i + 1) b, ())) else ((0, ()), (mkP a X i true, ()))) := by
  apply e_impl_parser_take
  have e : ((mkP a X i b).1.1, ()) = (a, ()) := rfl
  simp only [q_impl_parser_take]
  have h1 := p_nextP a X i b
  have h2 := p_take_loop a X i hi b w hw (nx X i b) w.length 0 (by omega)
  rw [show ((0 : Nat) : Int) = 0 from rfl, List.drop_zero] at h2
  rw [show (((mkP a X i b).1.1, ()), (mkP a X i b).2.1, (mkP a X i b).2.2.1, (mkP a X i b).2.2.2.1, (mkP a X i b).2.2.2.2.1, ()) = mkP a X i b from rfl, h1]
  simp only [Option.bind_some]
  rw [h2]
  split <;> rfl

/-- What the program's reader of a term answers. -/
def imT (a : List Int) (X : List UInt8) (i : Nat) (y : Rd (List Int)) (r : (List Int × Unit) × (TP × Unit)) : Prop := match y with
  | .bad c => r.2.1 = mkP a X (i + c) true ∧ r.1.1.length ≤ c
  | .ok t c => r = ((t, ()), (mkP a X (i + c) false, ()))

theorem p_imT_after (a : List Int) (X : List UInt8) (i : Nat) (hi : i ≤ 1000000) (n : Int) (out : List Int) (cnt : Int) (k : Nat) (hk : k ≤ 1000) : ∃ r, l_impl_parser_term_1018 M (mkQ a X i true) n out cnt k = some r ∧ (r = .inr (([], ()), (mkP a X i true, ())) ∨ r = .inl (mkQ a X i true, n, out, ())) := by
  by_cases h : (k : Int) < cnt
  · refine ⟨.inr (([], ()), (mkP a X i true, ())), el_impl_parser_term_1018 _ _ _ _ _ ?_, .inl rfl⟩
    simp only [ql_impl_parser_term_1018]
    have t1 := p_take a X i hi true [40] (by simp)
    have t2 := p_take a X i hi true [44] (by simp)
    rw [if_neg (by simp [nx_true])] at t1 t2
    rw [if_pos (by simpa using h), t1, t2]
    by_cases h0 : k = 0
    · subst h0; rw [if_pos (by simp)]; rfl
    · rw [if_neg (by simpa using h0)]; rfl
  · refine ⟨.inl (mkQ a X i true, n, out, ()), el_impl_parser_term_1018 _ _ _ _ _ ?_, .inr rfl⟩
    simp only [ql_impl_parser_term_1018]
    rw [if_neg (by simpa using h)]

theorem p_imT_loop {a : List Int} (hg : gS a = true) (X : List UInt8) (hX : X.length ≤ 1000) (f : Nat) (ih : ∀ i : Nat, i ≤ X.length → X.length - i < f → ∃ r, c_impl_parser_term M (mkP a X i false) = some r ∧ imT a X i (rdT a f (X.drop i)) r)
    (n : Int) (cnt : Nat) (hcnt : cnt ≤ 3) : ∀ (m k i : Nat) (out : List Int), k + m = cnt → i ≤ X.length → X.length - i ≤ f → out.length ≤ i →
      ∃ r, l_impl_parser_term_1018 M (mkQ a X i false) n out cnt k = some r ∧ (match rdK (rdT a f) (if k = 0 then 40 else 44) m (X.drop i) with
        | .bad c => r = .inr (([], ()), (mkP a X (i + c) true, ())) ∨ ∃ o : List Int, r = .inl (mkQ a X (i + c) true, n, o, ()) ∧ o.length ≤ out.length + c
        | .ok t c => r = .inl (mkQ a X (i + c) false, n, out ++ t, ())) := by
  intro m
  induction m with
  | zero =>
    intro k i out hk hi hf ho
    refine ⟨.inl (mkQ a X i false, n, out, ()), el_impl_parser_term_1018 _ _ _ _ _ ?_, by simp [rdK]⟩
    simp only [ql_impl_parser_term_1018]
    rw [if_neg (by simp; omega)]
  | succ m ihm =>
    intro k i out hk hi hf ho
    have key : ∀ (sg : UInt8), sg.toNat = (if k = 0 then 40 else 44) → ∃ r, ((c_impl_parser_take M (mkP a X i false) [sg]).bind fun r2 => (if r2.2.1.2.2.2.2.1 = true then (some (Sum.inr (([], ()), (((r2.2.1.1.1, ()), r2.2.1.2.1, r2.2.1.2.2.1, r2.2.1.2.2.2.1, r2.2.1.2.2.2.2.1, ()), ())))) else ((c_impl_parser_term M ((r2.2.1.1.1, ()), r2.2.1.2.1, r2.2.1.2.2.1, r2.2.1.2.2.2.1, r2.2.1.2.2.2.2.1, ())).bind fun r4 => (if (List.length out + List.length r4.1.1) * 8 ≤ 140737488355328 then (l_impl_parser_term_1018 M (r4.2.1.1.1, r4.2.1.2.1, r4.2.1.2.2.1, r4.2.1.2.2.2.1, r4.2.1.2.2.2.2.1, ()) n (out ++ r4.1.1) cnt ((k + 1 : Nat) : Int)) else none)))) = some r ∧ (match rdK (rdT a f) (if k = 0 then 40 else 44) (m + 1) (X.drop i) with
        | .bad c => r = .inr (([], ()), (mkP a X (i + c) true, ())) ∨ ∃ o : List Int, r = .inl (mkQ a X (i + c) true, n, o, ()) ∧ o.length ≤ out.length + c
        | .ok t c => r = .inl (mkQ a X (i + c) false, n, out ++ t, ())) := by
      intro sg hsg
      have ht := p_take a X i (by omega) false [sg] (by simp)
      have hsg0 : sg.toNat ≠ 0 := by rw [hsg]; split <;> omega
      by_cases hend : i = X.length
      · rw [nx_end (by omega), if_neg (by simp)] at ht
        rw [ht, List.drop_eq_nil_of_le (by omega)]
        exact ⟨_, rfl, .inl rfl⟩
      · have hlt : i < X.length := by omega
        rw [nx_get hlt] at ht
        rw [List.drop_eq_getElem_cons hlt]
        simp only [rdK]
        by_cases hs : (X[i]).toNat = (if k = 0 then 40 else 44)
        · rw [if_pos ⟨by simp; omega, by omega⟩] at ht
          rw [ht, if_pos hs]
          simp only [Option.bind_some]
          rw [if_neg (by simp)]
          obtain ⟨r4, h1, h2⟩ := ih (i + 1) (by omega) (by omega)
          have h1' : c_impl_parser_term M (((mkP a X (i + 1) false).1.1, ()), (mkP a X (i + 1) false).2.1, (mkP a X (i + 1) false).2.2.1, (mkP a X (i + 1) false).2.2.2.1, (mkP a X (i + 1) false).2.2.2.2.1, ()) = some r4 := h1
          have hle := rdT_le (a := a) f (X.drop (i + 1))
          rw [h1']
          simp only [Option.bind_some]
          cases hr : rdT a f (X.drop (i + 1)) with
          | bad c =>
            rw [hr] at h2 hle
            have g1 := hle.1
            simp only [Rd.within, List.length_drop] at g1
            obtain ⟨⟨x, ⟨⟩⟩, ⟨p, ⟨⟩⟩⟩ := r4
            obtain ⟨h3, h4⟩ := h2
            simp only at h3 h4
            subst h3
            rw [if_pos (by simp only; omega)]
            obtain ⟨r, r1, r2⟩ := p_imT_after a X (i + 1 + c) (by omega) n (out ++ x) cnt (k + 1) (by omega)
            refine ⟨r, r1, ?_⟩
            simp only
            rw [show i + (1 + c) = i + 1 + c by omega]
            rcases r2 with r2 | r2
            · exact .inl r2
            · exact .inr ⟨out ++ x, r2, by simp; omega⟩
          | ok t c =>
            rw [hr] at h2 hle
            have g1 := hle.1
            have g2 := hle.2 t c rfl
            simp only [Rd.within, List.length_drop] at g1
            have h3 : r4 = ((t, ()), (mkP a X (i + 1 + c) false, ())) := h2
            subst h3
            rw [if_pos (by simp only; omega)]
            obtain ⟨r, r1, r2⟩ := ihm (k + 1) (i + 1 + c) (out ++ t) (by omega) (by omega) (by omega) (by simp; omega)
            refine ⟨r, r1, ?_⟩
            rw [if_neg (by omega)] at r2
            simp only
            rw [List.drop_drop]
            cases hk2 : rdK (rdT a f) 44 m (X.drop (i + 1 + c)) with
            | bad c' =>
              rw [hk2] at r2
              simp only at r2 ⊢
              rw [show i + (1 + c + c') = i + 1 + c + c' by omega]
              rcases r2 with r2 | ⟨o, o1, o2⟩
              · exact .inl r2
              · exact .inr ⟨o, o1, by simp at o2; omega⟩
            | ok t' c' =>
              rw [hk2] at r2
              simp only at r2 ⊢
              rw [show i + (1 + c + c') = i + 1 + c + c' by omega, r2, List.append_assoc]
        · rw [if_neg (fun hh => by
            have := hh.1
            simp at this
            omega)] at ht
          rw [ht, if_neg hs]
          exact ⟨_, rfl, .inl rfl⟩
    by_cases h0 : k = 0
    · obtain ⟨r, r1, r2⟩ := key 40 (by rw [if_pos h0]; rfl)
      refine ⟨r, el_impl_parser_term_1018 _ _ _ _ _ ?_, r2⟩
      rw [← r1]
      simp only [ql_impl_parser_term_1018]
      rw [if_pos (by simp; omega), if_pos (by simp [h0])]
      rw [Option.bind_assoc]
      simp only [Option.bind_some, Sum.elim_inl, inc_nat (show k < 4611686018427387904 by omega)]
    · obtain ⟨r, r1, r2⟩ := key 44 (by rw [if_neg h0]; rfl)
      refine ⟨r, el_impl_parser_term_1018 _ _ _ _ _ ?_, r2⟩
      rw [← r1]
      simp only [ql_impl_parser_term_1018]
      rw [if_pos (by simp; omega), if_neg (by simpa using h0)]
      rw [Option.bind_assoc]
      simp only [Option.bind_some, Sum.elim_inl, inc_nat (show k < 4611686018427387904 by omega)]

theorem p_imT {a : List Int} (hg : gS a = true) (X : List UInt8) (hX : X.length ≤ 1000) : ∀ (f i : Nat), i ≤ X.length → X.length - i < f → ∃ r, c_impl_parser_term M (mkP a X i false) = some r ∧ imT a X i (rdT a f (X.drop i)) r := by
  have hsl : a.length ≤ 10 := by simp only [gS, Bool.and_eq_true, decide_eq_true_eq] at hg; exact hg.2.1
  intro f
  induction f with
  | zero => intro i _ h; omega
  | succ f ih =>
    intro i hi hf
    have hnext := p_nextP a X i false
    have hn8 := nx_lt X i false
    have hin : IntKind.i64.wrap ((i : Int) + 1) = ((i + 1 : Nat) : Int) := inc_nat (by omega)
    have bad : ∀ (hbad : nx X i false < 97 ∧ ¬ (65 ≤ nx X i false ∧ nx X i false ≤ 76) ∨ 97 + a.length ≤ nx X i false), c_impl_parser_term M (mkP a X i false) = some (([], ()), (mkP a X i true, ())) := by
      intro hbad
      apply e_impl_parser_term
      simp only [q_impl_parser_term]
      rw [show (((mkP a X i false).1.1, ()), (mkP a X i false).2.1, (mkP a X i false).2.2.1, (mkP a X i false).2.2.2.1, (mkP a X i false).2.2.2.2.1, ()) = mkP a X i false from rfl, hnext]
      simp only [Option.bind_some]
      by_cases h65 : 65 ≤ nx X i false
      · rw [if_pos (by simp; omega), w8 (x := (nx X i false : Int) - 65) (by omega) (by omega), w64 (x := (nx X i false : Int) - 65) (by omega) (by omega), if_neg (by simp; omega)]
        by_cases h97 : nx X i false < 97
        · rw [if_pos (by simp; omega)]
        · rw [if_neg (by simp; omega), w8 (x := (nx X i false : Int) - 97) (by omega) (by omega), w64 (x := (nx X i false : Int) - 97) (by omega) (by omega), if_pos (by simp; omega)]
      · rw [if_neg (by simp; omega), if_pos (by simp; omega)]
    by_cases hend : i = X.length
    · have h0 := nx_end (X := X) (i := i) (by omega) false
      refine ⟨_, bad (by omega), ?_⟩
      rw [List.drop_eq_nil_of_le (by omega)]
      simp [rdT, imT]
    · have hlt : i < X.length := by omega
      have hnx := nx_get hlt
      rw [List.drop_eq_getElem_cons hlt]
      simp only [rdT]
      rw [← hnx]
      by_cases h1 : 65 ≤ nx X i false ∧ nx X i false ≤ 76
      · rw [if_pos h1]
        refine ⟨(([-1 - ((nx X i false : Int) - 65)], ()), (mkP a X (i + 1) false, ())), e_impl_parser_term _ ?_, rfl⟩
        simp only [q_impl_parser_term]
        rw [show (((mkP a X i false).1.1, ()), (mkP a X i false).2.1, (mkP a X i false).2.2.1, (mkP a X i false).2.2.2.1, (mkP a X i false).2.2.2.2.1, ()) = mkP a X i false from rfl, hnext]
        simp only [Option.bind_some]
        rw [if_pos (by simp; omega), w8 (x := (nx X i false : Int) - 65) (by omega) (by omega), w64 (x := (nx X i false : Int) - 65) (by omega) (by omega), if_pos (by simp; omega), w64 (x := -1 - ((nx X i false : Int) - 65)) (by omega) (by omega), hin]
      · rw [if_neg h1]
        by_cases h2 : 97 ≤ nx X i false ∧ nx X i false < 97 + a.length
        · rw [if_pos h2]
          have hbn : ¬ badN a ((nx X i false : Int) - 97) := by unfold badN; omega
          have hidx : idx a ((nx X i false : Int) - 97) = some (ar a ((nx X i false : Int) - 97)) := idx_ar hbn (by omega)
          have har := ar_ge hg ((nx X i false : Int) - 97)
          obtain ⟨r, r1, r2⟩ := p_imT_loop hg X hX f ih ((nx X i false : Int) - 97) (ar a ((nx X i false : Int) - 97)).toNat (by omega) (ar a ((nx X i false : Int) - 97)).toNat 0 (i + 1) [(nx X i false : Int) - 97] (by omega) (by omega) (by omega) (by simp)
          rw [show ((0 : Nat) : Int) = 0 from rfl, show (((ar a ((nx X i false : Int) - 97)).toNat : Nat) : Int) = ar a ((nx X i false : Int) - 97) by omega] at r1
          rw [if_pos rfl] at r2
          have pre : ∀ R, ((some r).bind (Sum.elim (fun y3 : TQ × Int × List Int × Unit => ((((idx y3.1.1 y3.2.1).bind fun x6 => (if (decide (x6 > (0 : Int))) = true then (if (!y3.1.2.2.2.2.1) = true then ((c_impl_parser_take M ((y3.1.1, ()), y3.1.2.1, y3.1.2.2.1, y3.1.2.2.2.1, y3.1.2.2.2.2.1, ()) ([41] : List UInt8)).bind fun r7 => (some (.inl ((r7.2.1.1.1, r7.2.1.2.1, r7.2.1.2.2.1, r7.2.1.2.2.2.1, r7.2.1.2.2.2.2.1, ()), y3.2.2.1, ())))) else (some (.inl ((y3.1.1, y3.1.2.1, y3.1.2.2.1, y3.1.2.2.2.1, y3.1.2.2.2.2.1, ()), y3.2.2.1, ())))) else (some (.inl ((y3.1.1, y3.1.2.1, y3.1.2.2.1, y3.1.2.2.2.1, y3.1.2.2.2.2.1, ()), y3.2.2.1, ()))))) : Option ((TQ × (List Int) × Unit) ⊕ ((List Int) × Unit) × (TP × Unit))).bind (Sum.elim (fun q5 => (some ((q5.2.1, ()), (((q5.1.1, ()), q5.1.2.1, q5.1.2.2.1, q5.1.2.2.2.1, q5.1.2.2.2.2.1, ()), ())))) (fun r => some r)))) (fun r4 => (some r4)))) = some R → c_impl_parser_term M (mkP a X i false) = some R := by
            intro R hR
            apply e_impl_parser_term
            simp only [q_impl_parser_term]
            rw [show (((mkP a X i false).1.1, ()), (mkP a X i false).2.1, (mkP a X i false).2.2.1, (mkP a X i false).2.2.2.1, (mkP a X i false).2.2.2.2.1, ()) = mkP a X i false from rfl, hnext]
            simp only [Option.bind_some]
            rw [if_pos (by simp; omega), w8 (x := (nx X i false : Int) - 65) (by omega) (by omega), w64 (x := (nx X i false : Int) - 65) (by omega) (by omega), if_neg (by simp; omega), if_neg (by simp; omega), w8 (x := (nx X i false : Int) - 97) (by omega) (by omega), w64 (x := (nx X i false : Int) - 97) (by omega) (by omega), if_neg (by simp; omega), hidx, hin]
            simp only [Option.bind_some]
            rw [show (((mkP a X i false).1.1, (mkP a X i false).2.1, ((i + 1 : Nat) : Int), (mkP a X i false).2.2.2.1, (mkP a X i false).2.2.2.2.1, ()) : TQ) = mkQ a X (i + 1) false from rfl, r1]
            exact hR
          have hle := rdK_le (rdT_le (a := a) f) (ar a ((nx X i false : Int) - 97)).toNat 40 (X.drop (i + 1))
          cases hk : rdK (rdT a f) 40 (ar a ((nx X i false : Int) - 97)).toNat (X.drop (i + 1)) with
          | bad c =>
            rw [hk] at r2
            simp only at r2 ⊢
            rcases r2 with r2 | ⟨o, o1, o2⟩
            · refine ⟨(([], ()), (mkP a X (i + 1 + c) true, ())), pre _ (by rw [r2]; rfl), ?_⟩
              simp only [imT]
              exact ⟨by rw [show i + (1 + c) = i + 1 + c by omega], by simp⟩
            · refine ⟨((o, ()), (mkP a X (i + 1 + c) true, ())), pre _ ?_, ?_⟩
              · rw [o1]
                simp only [Option.bind_some, Sum.elim_inl, hidx]
                by_cases h3 : ar a ((nx X i false : Int) - 97) > 0
                · rw [if_pos (by simpa using h3), if_neg (by simp)]; rfl
                · rw [if_neg (by simpa using h3)]; rfl
              · simp only [imT]
                exact ⟨by rw [show i + (1 + c) = i + 1 + c by omega], by simp at o2; omega⟩
          | ok t c =>
            rw [hk] at r2 hle
            have g1 := hle.1
            simp only [Rd.within, List.length_drop] at g1
            simp only at r2 ⊢
            by_cases h3 : ar a ((nx X i false : Int) - 97) ≤ 0
            · rw [if_pos h3]
              refine ⟨((((nx X i false : Int) - 97) :: t, ()), (mkP a X (i + 1 + c) false, ())), pre _ ?_, ?_⟩
              · rw [r2]
                simp only [Option.bind_some, Sum.elim_inl, hidx]
                rw [if_neg (by simp; omega)]
                rfl
              · simp only [imT]
                rw [show i + (1 + c) = i + 1 + c by omega]
            · rw [if_neg h3, List.drop_drop]
              have ht := p_take a X (i + 1 + c) (by omega) false [41] (by simp)
              have step : ∀ (j : Nat) (b : Bool) (x : Int), c_impl_parser_take M (mkP a X (i + 1 + c) false) [41] = some ((x, ()), (mkP a X j b, ())) → c_impl_parser_term M (mkP a X i false) = some ((((nx X i false : Int) - 97) :: t, ()), (mkP a X j b, ())) := by
                intro j b x hx
                apply pre
                rw [r2]
                simp only [Option.bind_some, Sum.elim_inl, hidx]
                rw [if_pos (by simp; omega), if_pos (by simp)]
                have hx' : c_impl_parser_take M (((mkQ a X (i + 1 + c) false).1, ()), (mkQ a X (i + 1 + c) false).2.1, (mkQ a X (i + 1 + c) false).2.2.1, (mkQ a X (i + 1 + c) false).2.2.2.1, (mkQ a X (i + 1 + c) false).2.2.2.2.1, ()) [41] = some ((x, ()), (mkP a X j b, ())) := hx
                rw [hx']
                rfl
              by_cases h4 : i + 1 + c = X.length
              · rw [nx_end (by omega), if_neg (by simp)] at ht
                rw [List.drop_eq_nil_of_le (by omega)]
                refine ⟨_, step _ _ _ ht, ?_⟩
                simp only [imT]
                have hlen := hle.2 t c rfl
                exact ⟨by rw [show i + (1 + c) = i + 1 + c by omega], by simp; omega⟩
              · have hlt2 : i + 1 + c < X.length := by omega
                rw [nx_get hlt2] at ht
                rw [List.drop_eq_getElem_cons hlt2]
                simp only
                by_cases h5 : (X[i + 1 + c]).toNat = 41
                · rw [if_pos ⟨by simp [h5], by omega⟩] at ht
                  rw [if_pos h5]
                  refine ⟨_, step _ _ _ ht, ?_⟩
                  simp only [imT]
                  rw [show i + (1 + c + 1) = i + 1 + c + 1 by omega]
                · rw [if_neg (fun hh => by have := hh.1; simp at this; omega)] at ht
                  rw [if_neg h5]
                  refine ⟨_, step _ _ _ ht, ?_⟩
                  simp only [imT]
                  have hlen := hle.2 t c rfl
                  exact ⟨by rw [show i + (1 + c) = i + 1 + c by omega], by simp; omega⟩
        · rw [if_neg h2]
          exact ⟨_, bad (by omega), by simp [imT]⟩

end Go.Proofs.YtkdceefdipljaaaFft.Ev
