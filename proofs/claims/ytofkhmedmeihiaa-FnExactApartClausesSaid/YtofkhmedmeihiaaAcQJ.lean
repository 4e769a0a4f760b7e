/- Texts laid together: PAa, PBa, PB, PEb, PEc, PA, PDe, PD, QH, QI, QD, QE, PQ, PQl, QJ; no condition but those that each theorem names. -/
import Derived.Test.YtofkhmedmeihiaaAcEq
/- Plain laws: numbers and rows. No condition but sizes. -/
namespace Go.Proofs.YtofkhmedmeihiaaAc.Ev
open Go
set_option autoImplicit false
set_option linter.unusedVariables false
set_option linter.unusedSimpArgs false

theorem w64 {x : Int} (h : -9223372036854775808 ≤ x) (k : x < 9223372036854775808) : IntKind.i64.wrap x = x := by
  rw [IntKind.wrap_i64]
  omega
theorem w8 {x : Int} (h : 0 ≤ x) (k : x < 256) : IntKind.u8.wrap x = x := by
  simp only [IntKind.wrap, IntKind.bits, IntKind.signed, Bool.false_and, Bool.false_eq_true, if_false]
  omega
theorem idx_nat {α : Type} (xs : List α) (i : Nat) : idx xs (i : Int) = xs[i]? := by simp [idx]
theorem idx_zero {α : Type} (xs : List α) : idx xs 0 = xs[0]? := by simp [idx]
theorem idx_lt {α : Type} {xs : List α} {i : Nat} (h : i < xs.length) : idx xs (i : Int) = some xs[i] := by simp [idx, h]
theorem inc_nat {i : Nat} (h : i < 4611686018427387904) : IntKind.i64.wrap ((i : Int) + 1) = ((i + 1 : Nat) : Int) := by
  rw [w64 (by omega) (by omega)]; rfl

abbrev TSign := List Int × Unit
abbrev TLit := Bool × List Int × List Int × Unit

/-- Lists of no more than 2^20 numbers. -/
def smL (x : TLit) : Prop := x.2.1.length ≤ 1048576 ∧ x.2.2.1.length ≤ 1048576

end Go.Proofs.YtofkhmedmeihiaaAc.Ev

/- Plain laws: good signatures. No condition but sizes. -/
namespace Go.Proofs.YtofkhmedmeihiaaAc.Ev
open Go
set_option autoImplicit false
set_option linter.unusedVariables false
set_option linter.unusedSimpArgs false

theorem p_l1In (x lo hi : Int) : c_spec_l1In M x lo hi = some ((decide (lo ≤ x) && decide (x ≤ hi), ()), ()) := by
  apply e_spec_l1In
  simp only [q_spec_l1In, decide_eq_true_eq]
  by_cases h : x ≥ lo
  · rw [if_pos h]; simp [h]
  · rw [if_neg h]; simp; omega

theorem p_l1All_loop (a : List Int) (lo up : Int) (ha : a.length ≤ 17592186044416) : ∀ k i : Nat, i + k = a.length → l_spec_l1All_26 M lo up a a.length i = some (if (a.drop i).all (fun x => decide (lo ≤ x) && decide (x ≤ up)) = true then .inl () else .inr ((false, ()), ())) := by
  intro k
  induction k with
  | zero =>
    intro i hi
    obtain rfl : i = a.length := by omega
    apply el_spec_l1All_26
    simp [ql_spec_l1All_26]
  | succ k ih =>
    intro i hi
    apply el_spec_l1All_26
    have h1 : i < a.length := by omega
    simp only [ql_spec_l1All_26]
    rw [if_pos (by simpa using h1), idx_lt h1, inc_nat (by omega)]
    simp only [Option.bind_some, p_l1In, ih (i + 1) (by omega)]
    rw [List.drop_eq_getElem_cons h1, List.all_cons]
    generalize (decide (lo ≤ a[i]) && decide (a[i] ≤ up)) = b
    cases b <;> rfl

theorem p_l1All (a : List Int) (lo hi : Int) (ha : a.length ≤ 17592186044416) : c_spec_l1All M a lo hi = some ((a.all (fun x => decide (lo ≤ x) && decide (x ≤ hi)), ()), ()) := by
  apply e_spec_l1All
  simp only [q_spec_l1All]
  have := p_l1All_loop a lo hi ha a.length 0 (by omega)
  rw [show ((0 : Nat) : Int) = 0 from rfl] at this
  rw [this, List.drop_zero]
  cases a.all (fun x => decide (lo ≤ x) && decide (x ≤ hi)) <;> simp

/-- A signature that is good. -/
def gS (a : List Int) : Bool := decide (1 ≤ a.length) && (decide (a.length ≤ 10) && (a.all (fun x => decide (0 ≤ x) && decide (x ≤ 3)) && decide (a[0]? = some 0)))

theorem p_spec_GoodSign (s : TSign) (ha : s.1.length ≤ 17592186044416) : c_spec_GoodSign M s = some ((gS s.1, ()), ()) := by
  apply e_spec_GoodSign
  simp only [q_spec_GoodSign, p_l1In, p_l1All s.1 0 3 ha, Option.bind_some, gS]
  rcases hs : s.1 with _ | ⟨x, r⟩
  · simp
  · rw [idx_zero]
    simp only [List.length_cons, List.getElem?_cons_zero, Option.bind_some]
    by_cases h : r.length + 1 ≤ 10
    · rw [if_pos (by simp; omega)]
      cases (x :: r).all (fun x => decide (0 ≤ x) && decide (x ≤ 3)) <;> simp [h]
      rw [Bool.eq_iff_iff]; simp
    · rw [if_neg (by simp; omega)]
      simp [h]

theorem p_gs1 (x : Int) : c_impl_GoodSign_1 M x = some ((!(decide (0 ≤ x) && decide (x ≤ 3)), ()), ()) := by
  apply e_impl_GoodSign_1
  simp only [q_impl_GoodSign_1, decide_eq_true_eq]
  by_cases h : x < 0
  · rw [if_pos h]; simp; omega
  · rw [if_neg h]
    have h0 : 0 ≤ x := by omega
    rw [decide_eq_true h0, Bool.true_and]
    by_cases h3 : x ≤ 3
    · rw [decide_eq_true h3, decide_eq_false (by omega)]; rfl
    · rw [decide_eq_false h3, decide_eq_true (by omega)]; rfl

theorem p_gsIdx_loop (a : List Int) (ha : a.length ≤ 17592186044416) : ∀ k i : Nat, i + k = a.length → ∃ r, l_slices_IndexFunc_int_int__impl_GoodSign_1_26 M a () a.length i = some r ∧ (match r with | .inl _ => (a.drop i).all (fun x => decide (0 ≤ x) && decide (x ≤ 3)) = true | .inr r => 0 ≤ r.1.1 ∧ (a.drop i).all (fun x => decide (0 ≤ x) && decide (x ≤ 3)) = false) := by
  intro k
  induction k with
  | zero =>
    intro i hi
    obtain rfl : i = a.length := by omega
    refine ⟨.inl (), el_slices_IndexFunc_int_int__impl_GoodSign_1_26 _ _ _ _ (by simp [ql_slices_IndexFunc_int_int__impl_GoodSign_1_26]), by simp⟩
  | succ k ih =>
    intro i hi
    have h1 : i < a.length := by omega
    obtain ⟨r, hr, hm⟩ := ih (i + 1) (by omega)
    rw [List.drop_eq_getElem_cons h1, List.all_cons]
    by_cases hp : (decide (0 ≤ a[i]) && decide (a[i] ≤ 3)) = true
    · refine ⟨r, el_slices_IndexFunc_int_int__impl_GoodSign_1_26 _ _ _ _ ?_, by rw [hp, Bool.true_and]; exact hm⟩
      simp only [ql_slices_IndexFunc_int_int__impl_GoodSign_1_26]
      rw [if_pos (by simpa using h1), idx_lt h1, inc_nat (by omega)]
      simp only [Option.bind_some, p_gs1, hp, Bool.not_true, Bool.false_eq_true, if_false]
      exact hr
    · rw [Bool.not_eq_true] at hp
      refine ⟨.inr (((i : Int), ()), ()), el_slices_IndexFunc_int_int__impl_GoodSign_1_26 _ _ _ _ ?_, Int.natCast_nonneg i, by rw [hp, Bool.false_and]⟩
      simp only [ql_slices_IndexFunc_int_int__impl_GoodSign_1_26]
      rw [if_pos (by simpa using h1), idx_lt h1]
      simp only [Option.bind_some, p_gs1, hp, Bool.not_false, if_true]

theorem p_gsContains (a : List Int) (ha : a.length ≤ 17592186044416) : c_slices_ContainsFunc_int_int__impl_GoodSign_1 M a () = some ((!(a.all (fun x => decide (0 ≤ x) && decide (x ≤ 3))), ()), ()) := by
  apply e_slices_ContainsFunc_int_int__impl_GoodSign_1
  simp only [q_slices_ContainsFunc_int_int__impl_GoodSign_1]
  obtain ⟨r, hr, hm⟩ := p_gsIdx_loop a ha a.length 0 (by omega)
  rw [show ((0 : Nat) : Int) = 0 from rfl] at hr
  rw [List.drop_zero] at hm
  cases r with
  | inl r =>
    rw [e_slices_IndexFunc_int_int__impl_GoodSign_1 a () (r := ((-1, ()), ())) (by simp only [q_slices_IndexFunc_int_int__impl_GoodSign_1, hr, Option.bind_some, Sum.elim_inl])]
    simp only at hm
    simp [hm]
  | inr r =>
    rw [e_slices_IndexFunc_int_int__impl_GoodSign_1 a () (r := r) (by simp only [q_slices_IndexFunc_int_int__impl_GoodSign_1, hr, Option.bind_some, Sum.elim_inr])]
    simp only at hm
    simp [hm]

theorem p_impl_GoodSign (s : TSign) (ha : s.1.length ≤ 17592186044416) : c_impl_GoodSign M s = some ((gS s.1, ()), ()) := by
  apply e_impl_GoodSign
  simp only [q_impl_GoodSign, p_gsContains s.1 ha, Option.bind_some, gS, decide_eq_true_eq]
  rcases hs : s.1 with _ | ⟨x, r⟩
  · simp
  · rw [idx_zero]
    simp only [List.length_cons, List.getElem?_cons_zero, Option.bind_some]
    rw [if_neg (by omega)]
    by_cases h : r.length + 1 ≤ 10
    · rw [if_neg (by omega)]
      by_cases hx : x = 0
      · subst hx; simp [h]
      · rw [if_pos (by simpa using hx)]; simp [hx]
    · rw [if_pos (by omega)]
      simp [h]

theorem sign_eta (x : TSign) : (x.1, ()) = x := rfl
theorem lit_eta (x : TLit) : (x.1, x.2.1, x.2.2.1, ()) = x := rfl
theorem sign_eta' (x : TSign) : (x.1, ()) = x := rfl

end Go.Proofs.YtofkhmedmeihiaaAc.Ev

/- Plain laws: signatures and terms: both programs tell the same signatures and terms. No condition but sizes. -/
namespace Go.Proofs.YtofkhmedmeihiaaAc.Ev
open Go
set_option autoImplicit false
set_option linter.unusedVariables false
set_option linter.unusedSimpArgs false

/-! ### Terms -/
def ar (a : List Int) (n : Int) : Int := if n < 0 then 0 else (a[n.toNat]?).getD 0
def badN (a : List Int) (n : Int) : Prop := n < -12 ∨ (a.length : Int) ≤ n
instance (a : List Int) (n : Int) : Decidable (badN a n) := inferInstanceAs (Decidable (_ ∨ _))
/-- What stands behind some terms. -/
def sE (a : List Int) : Int → List Int → Option (List Int)
  | k, [] => if k ≤ 0 then some [] else none
  | k, n :: t => if k ≤ 0 then some (n :: t) else if badN a n then none else sE a (k - 1 + ar a n) t

theorem ar_ge {a : List Int} (hg : gS a = true) (n : Int) : 0 ≤ ar a n ∧ ar a n ≤ 3 := by
  unfold ar
  split
  · omega
  · cases h : a[n.toNat]? with
    | none => simp
    | some x =>
      simp only [gS, Bool.and_eq_true, List.all_eq_true, decide_eq_true_eq] at hg
      have := hg.2.2.1 x (List.mem_of_getElem? h)
      simpa using this
theorem idx_ar {a : List Int} {n : Int} (h : ¬ badN a n) (h0 : ¬ n < 0) : idx a n = some (ar a n) := by
  unfold badN at h
  have h1 : n.toNat < a.length := by omega
  unfold ar idx
  rw [if_pos (by omega), if_neg h0, List.getElem?_eq_getElem h1]
  rfl

theorem sE_zero (a : List Int) (t : List Int) : sE a 0 t = some t := by cases t <;> simp [sE]
theorem sE_app {a : List Int} (hg : gS a = true) : ∀ (u : List Int) (j k : Int) (x : List Int), 0 ≤ j → 0 ≤ k → sE a j u = some [] → sE a (j + k) (u ++ x) = sE a k x := by
  intro u
  induction u with
  | nil =>
    intro j k x hj hk h
    simp only [sE] at h
    split at h
    · obtain rfl : j = 0 := by omega
      simp
    · cases h
  | cons n u ih =>
    intro j k x hj hk h
    simp only [sE] at h
    split at h
    · cases h
    · rename_i hj'
      split at h
      · cases h
      · rename_i hb
        have hn := ar_ge hg n
        rw [List.cons_append]
        conv => lhs; unfold sE
        rw [if_neg (by omega), if_neg hb]
        have := ih (j - 1 + ar a n) k x (by omega) hk h
        rw [← this]
        congr 1; omega
theorem sE_split {a : List Int} (hg : gS a = true) : ∀ (t : List Int) (j k : Int) (r : List Int), 0 ≤ j → 0 ≤ k → sE a (j + k) t = some r → ∃ u x, t = u ++ x ∧ sE a j u = some [] ∧ sE a k x = some r := by
  intro t
  induction t with
  | nil =>
    intro j k r hj hk h
    simp only [sE] at h
    split at h
    · obtain rfl : j = 0 := by omega
      obtain rfl : k = 0 := by omega
      exact ⟨[], [], rfl, by simp [sE], by simpa [sE] using h⟩
    · cases h
  | cons n t ih =>
    intro j k r hj hk h
    by_cases h0 : j = 0
    · subst h0
      exact ⟨[], n :: t, rfl, by simp [sE], by simpa using h⟩
    · simp only [sE] at h
      split at h
      · omega
      · split at h
        · cases h
        · rename_i hb
          have hn := ar_ge hg n
          obtain ⟨u, x, rfl, h1, h2⟩ := ih (j - 1 + ar a n) k r (by omega) hk (by rw [← h]; congr 1; omega)
          refine ⟨n :: u, x, rfl, ?_, h2⟩
          unfold sE
          rw [if_neg (by omega), if_neg hb]
          exact h1
/-- A term. -/
abbrev Tm (a : List Int) (u : List Int) : Prop := sE a 1 u = some []
theorem sE_kids {a : List Int} (hg : gS a = true) : ∀ (k : Nat) (t r : List Int), sE a k t = some r → ∃ us : List (List Int), us.length = k ∧ t = us.flatten ++ r ∧ ∀ u ∈ us, Tm a u := by
  intro k
  induction k with
  | zero =>
    intro t r h
    rw [show ((0 : Nat) : Int) = 0 from rfl, sE_zero] at h
    obtain rfl := Option.some.inj h
    exact ⟨[], rfl, rfl, by simp⟩
  | succ k ih =>
    intro t r h
    obtain ⟨u, x, rfl, h1, h2⟩ := sE_split hg t 1 k r (by omega) (by omega) (by rw [← h]; congr 1; omega)
    obtain ⟨us, hl, rfl, hu⟩ := ih x r h2
    exact ⟨u :: us, by simp [hl], by simp, by simpa using ⟨h1, hu⟩⟩
theorem Tm.parts {a : List Int} (hg : gS a = true) {u : List Int} (h : Tm a u) : ∃ (n : Int) (us : List (List Int)), u = n :: us.flatten ∧ ¬ badN a n ∧ (us.length : Int) = ar a n ∧ ∀ v ∈ us, Tm a v := by
  cases u with
  | nil => simp [Tm, sE] at h
  | cons n t =>
    simp only [Tm, sE] at h
    rw [if_neg (by omega)] at h
    split at h
    · cases h
    · rename_i hb
      have hn := ar_ge hg n
      obtain ⟨us, hl, ht, hu⟩ := sE_kids hg (ar a n).toNat t [] (by rw [← h]; congr 1; omega)
      exact ⟨n, us, by rw [ht]; simp, hb, by omega, hu⟩
theorem Tm.rest {a : List Int} (hg : gS a = true) {u : List Int} (h : Tm a u) (x : List Int) : sE a 1 (u ++ x) = some x := by
  have := sE_app hg u 1 0 x (by omega) (by omega) h
  rw [sE_zero] at this
  simpa using this
theorem Tm.pos {a u : List Int} (h : Tm a u) : 0 < u.length := by
  cases u with
  | nil => simp [Tm, sE] at h
  | cons n t => simp

theorem p_l1End_loop (s : TSign) (hg : gS s.1 = true) (t : List Int) (ht : t.length ≤ 1048576) : ∀ (k i : Nat) (need : Int), i + k = t.length → 0 ≤ need → need + 3 * k ≤ 4000000 →
    l_spec_l1End_28 M t i s need = some (match sE s.1 need (t.drop i) with | none => .inr (((-1 : Int), ()), ()) | some r => .inl ((t.length : Int) - r.length, ())) := by
  have hs : s.1.length ≤ 10 := by simp only [gS, Bool.and_eq_true, decide_eq_true_eq] at hg; exact hg.2.1
  intro k
  induction k with
  | zero =>
    intro i need hi h0 hn
    obtain rfl : i = t.length := by omega
    apply el_spec_l1End_28
    simp only [ql_spec_l1End_28, List.drop_length, sE, decide_eq_true_eq]
    by_cases h : need > 0
    · rw [if_pos h, if_pos (by omega), if_neg (by omega)]
    · rw [if_neg h, if_pos (by omega)]; simp
  | succ k ih =>
    intro i need hi h0 hn
    apply el_spec_l1End_28
    have h1 : i < t.length := by omega
    rw [List.drop_eq_getElem_cons h1]
    simp only [ql_spec_l1End_28, sE, decide_eq_true_eq]
    by_cases h : need > 0
    · rw [if_pos h, if_neg (by omega), if_neg (by omega), idx_lt h1]
      simp only [Option.bind_some, p_l1In]
      rw [w64 (x := (s.1.length : Int) - 1) (by omega) (by omega)]
      by_cases hb : badN s.1 t[i]
      · rw [if_pos hb, if_pos (by unfold badN at hb; simp; omega)]
      · rw [if_neg hb, if_neg (by unfold badN at hb; simp; omega)]
        have ha := ar_ge hg t[i]
        have hw : IntKind.i64.wrap (need - 1) = need - 1 := w64 (by omega) (by omega)
        by_cases hx : t[i] ≥ 0
        · rw [if_pos hx, idx_ar hb (by omega), hw]
          simp only [Option.bind_some, Sum.elim_inl]
          rw [w64 (x := need - 1 + _) (by omega) (by omega), inc_nat (by omega)]
          exact ih (i + 1) _ (by omega) (by omega) (by omega)
        · have : ar s.1 t[i] = 0 := by unfold ar; rw [if_pos (by omega)]
          rw [if_neg hx, hw, this]
          simp only [Option.bind_some, Sum.elim_inl]
          rw [inc_nat (by omega), Int.add_zero]
          exact ih (i + 1) _ (by omega) (by omega) (by omega)
    · rw [if_neg h, if_pos (by omega)]
      simp only [List.length_cons, List.length_drop]
      congr 3
      omega

theorem p_l1End (s : TSign) (hg : gS s.1 = true) (t : List Int) (i : Nat) (hi : i ≤ t.length) (ht : t.length ≤ 1048576) :
    c_spec_l1End M s t i = some ((match sE s.1 1 (t.drop i) with | none => (-1 : Int) | some r => (t.length : Int) - r.length, ()), ()) := by
  apply e_spec_l1End
  simp only [q_spec_l1End]
  rw [p_l1End_loop s hg t ht (t.length - i) i 1 (by omega) (by omega) (by omega)]
  cases sE s.1 1 (t.drop i) <;> rfl

theorem sE_len {a : List Int} : ∀ (t : List Int) (k : Int) (r : List Int), sE a k t = some r → r.length ≤ t.length := by
  intro t
  induction t with
  | nil => intro k r h; simp only [sE] at h; split at h <;> simp_all
  | cons n t ih =>
    intro k r h
    simp only [sE] at h
    split at h
    · obtain rfl := Option.some.inj h; simp
    · split at h
      · cases h
      · have := ih _ _ h; simp; omega

/-- A term of no more than 40 numbers. -/
def isT (a t : List Int) : Bool := decide (t.length ≤ 40) && decide (Tm a t)

theorem p_l1Term (s : TSign) (hg : gS s.1 = true) (t : List Int) (ht : t.length ≤ 1048576) : c_spec_l1Term M s t = some ((isT s.1 t, ()), ()) := by
  apply e_spec_l1Term
  have := p_l1End s hg t 0 (by omega) ht
  rw [show ((0 : Nat) : Int) = 0 from rfl, List.drop_zero] at this
  simp only [q_spec_l1Term, p_l1In, Option.bind_some, this, isT]
  by_cases h0 : t = []
  · subst h0; simp [Tm, sE]
  · have : 0 < t.length := List.length_pos_iff.2 h0
    by_cases h : t.length ≤ 40
    · rw [if_pos (by simp; omega)]
      simp only [Option.some.injEq, Prod.mk.injEq, and_true]
      rw [Bool.eq_iff_iff]
      simp only [Bool.and_eq_true, decide_eq_true_eq, Tm, beq_iff_eq]
      cases hE : sE s.1 1 t with
      | none => simp
      | some r =>
        have := sE_len _ _ _ hE
        simp only [Option.some.injEq]
        constructor
        · intro h'; exact ⟨h, List.eq_nil_of_length_eq_zero (by omega)⟩
        · rintro ⟨-, rfl⟩; simp
    · rw [if_neg (by simp; omega)]
      simp [h]

theorem p_args (s : TSign) (n : Int) (h : ¬ badN s.1 n) : c_impl_Sign_args M s n = some ((ar s.1 n, ()), ()) := by
  apply e_impl_Sign_args
  simp only [q_impl_Sign_args, decide_eq_true_eq]
  by_cases hn : n < 0
  · rw [if_pos hn]; simp [ar, hn]
  · rw [if_neg hn, idx_ar h hn]; rfl

theorem p_isTerm_loop (s : TSign) (hg : gS s.1 = true) (t : List Int) (ht : t.length ≤ 40) : ∀ (k i : Nat) (left : Int), i + k = t.length → 0 ≤ left → left + 3 * k ≤ 4000000 →
    ∃ r, l_impl_Sign_isTerm_122 M s left t t.length i = some r ∧ Sum.elim (fun y => y.1 == 0) (fun r => r.1.1) r = decide (sE s.1 left (t.drop i) = some []) := by
  intro k
  induction k with
  | zero =>
    intro i left hi h0 hn
    obtain rfl : i = t.length := by omega
    refine ⟨.inl (left, ()), el_impl_Sign_isTerm_122 _ _ _ _ _ ?_, ?_⟩
    · simp [ql_impl_Sign_isTerm_122]
    · rw [List.drop_length]
      simp only [Sum.elim_inl, sE]
      rw [Bool.eq_iff_iff]; simp; omega
  | succ k ih =>
    intro i left hi h0 hn
    have h1 : i < t.length := by omega
    rw [List.drop_eq_getElem_cons h1]
    have pre : ∀ r, (if (left == 0) = true then some (.inr ((false, ()), ())) else if decide (t[i] < -12) = true then some (.inr ((false, ()), ())) else if decide (t[i] ≥ (s.1.length : Int)) = true then some (.inr ((false, ()), ())) else (c_impl_Sign_args M (s.1, ()) t[i]).bind fun r2 => l_impl_Sign_isTerm_122 M (s.1, ()) (IntKind.i64.wrap (left + IntKind.i64.wrap (r2.1.1 - 1))) t t.length (IntKind.i64.wrap ((i : Int) + 1))) = some r → l_impl_Sign_isTerm_122 M s left t t.length i = some r := by
      intro r hr
      apply el_impl_Sign_isTerm_122
      simp only [ql_impl_Sign_isTerm_122]
      rw [if_pos (by simpa using h1), idx_lt h1]
      exact hr
    by_cases hl : left = 0
    · subst hl
      refine ⟨.inr ((false, ()), ()), pre _ rfl, (decide_eq_false (by rw [sE_zero]; exact fun h => by cases h)).symm⟩
    · by_cases hb : badN s.1 t[i]
      · refine ⟨.inr ((false, ()), ()), pre _ ?_, by simp [sE, hb]; omega⟩
        rw [if_neg (by simpa using hl)]
        unfold badN at hb
        by_cases h2 : t[i] < -12
        · rw [if_pos (by simpa using h2)]
        · rw [if_neg (by simpa using h2), if_pos (by simp; omega)]
      · have ha := ar_ge hg t[i]
        obtain ⟨r, hr, hm⟩ := ih (i + 1) (left - 1 + ar s.1 t[i]) (by omega) (by omega) (by omega)
        refine ⟨r, pre _ ?_, ?_⟩
        · have hb' := hb
          unfold badN at hb'
          rw [if_neg (by simpa using hl), if_neg (by simp; omega), if_neg (by simp; omega), p_args (s.1, ()) _ hb]
          simp only [Option.bind_some]
          rw [w64 (x := ar s.1 t[i] - 1) (by omega) (by omega), w64 (by omega) (by omega), inc_nat (by omega), show left + (ar s.1 t[i] - 1) = left - 1 + ar s.1 t[i] by omega]
          exact hr
        · rw [hm]
          conv => rhs; unfold sE
          rw [if_neg (by omega), if_neg hb]

theorem p_isTerm (s : TSign) (hg : gS s.1 = true) (t : List Int) : c_impl_Sign_isTerm M s t = some ((isT s.1 t, ()), ()) := by
  apply e_impl_Sign_isTerm
  simp only [q_impl_Sign_isTerm, decide_eq_true_eq, isT]
  by_cases h : t.length ≤ 40
  · obtain ⟨r, hr, hm⟩ := p_isTerm_loop s hg t h t.length 0 1 (by omega) (by omega) (by omega)
    rw [show ((0 : Nat) : Int) = 0 from rfl] at hr
    rw [List.drop_zero] at hm
    rw [if_neg (by omega), show ((s.1, ()) : TSign) = s from rfl, hr]
    cases r with
    | inl r => simp only [Sum.elim_inl, Option.bind_some] at hm ⊢; rw [hm]; simp [h, Tm]
    | inr r => obtain ⟨⟨b, _⟩, _⟩ := r; simp only [Sum.elim_inr, Option.bind_some] at hm ⊢; rw [hm]; simp [h, Tm]
  · rw [if_pos (by omega)]; simp [h]

end Go.Proofs.YtofkhmedmeihiaaAc.Ev

/- Plain laws: both programs tell the same clauses. No condition but sizes. -/
namespace Go.Proofs.YtofkhmedmeihiaaAc.Ev
open Go
set_option autoImplicit false
set_option linter.unusedVariables false
set_option linter.unusedSimpArgs false

def litOK (a : List Int) (x : TLit) : Bool := isT a x.2.1 && isT a x.2.2.1

def clOK (a : List Int) (c : List TLit) : Bool := decide (c.length ≤ 8) && c.all (litOK a)

theorem p_l4Lit (s : TSign) (hg : gS s.1 = true) (x : TLit) (h : smL x) : c_spec_l4Lit M s x = some ((litOK s.1 x, ()), ()) := by
  apply e_spec_l4Lit
  simp only [q_spec_l4Lit, sign_eta, p_l1Term s hg x.2.1 h.1, p_l1Term s hg x.2.2.1 h.2, Option.bind_some, litOK]
  cases isT s.1 x.2.1 <;> simp

theorem p_isLit (s : TSign) (hg : gS s.1 = true) (x : TLit) : c_impl_Sign_isLit M s x = some ((litOK s.1 x, ()), ()) := by
  apply e_impl_Sign_isLit
  simp only [q_impl_Sign_isLit, sign_eta, p_isTerm s hg x.2.1, p_isTerm s hg x.2.2.1, Option.bind_some, litOK]
  cases isT s.1 x.2.1 <;> simp

theorem p_l4Clause_loop (s : TSign) (hg : gS s.1 = true) (a : List TLit) (ha : a.length ≤ 1048576) (hx : ∀ x ∈ a, smL x) : ∀ k i : Nat, i + k = a.length → l_spec_l4Clause_26 M a s a a.length i = some (if (a.drop i).all (litOK s.1) = true then .inl (a, ()) else .inr ((false, ()), ())) := by
  intro k
  induction k with
  | zero =>
    intro i hi
    obtain rfl : i = a.length := by omega
    apply el_spec_l4Clause_26
    simp [ql_spec_l4Clause_26]
  | succ k ih =>
    intro i hi
    apply el_spec_l4Clause_26
    have h1 : i < a.length := by omega
    simp only [ql_spec_l4Clause_26]
    rw [if_pos (by simpa using h1), idx_lt h1, inc_nat (by omega)]
    simp only [Option.bind_some, sign_eta, lit_eta, p_l4Lit s hg a[i] (hx _ (List.getElem_mem h1)), ih (i + 1) (by omega)]
    rw [List.drop_eq_getElem_cons h1, List.all_cons]
    generalize litOK s.1 a[i] = b
    cases b <;> rfl

theorem p_l4Clause (s : TSign) (hg : gS s.1 = true) (a : List TLit) (ha : a.length ≤ 1048576) (hx : ∀ x ∈ a, smL x) : c_spec_l4Clause M s a = some ((clOK s.1 a, ()), ()) := by
  apply e_spec_l4Clause
  simp only [q_spec_l4Clause, sign_eta]
  have := p_l4Clause_loop s hg a ha hx a.length 0 (by omega)
  rw [show ((0 : Nat) : Int) = 0 from rfl] at this
  rw [this, List.drop_zero, clOK]
  cases a.all (litOK s.1)
  · simp
  · simp; omega

theorem p_isClause1 (s : TSign) (hg : gS s.1 = true) (x : TLit) : c_impl_Sign_isClause_1 M x s = some ((!litOK s.1 x, ()), ()) := by
  apply e_impl_Sign_isClause_1
  simp only [q_impl_Sign_isClause_1, sign_eta, lit_eta, p_isLit s hg x, Option.bind_some]

theorem p_clIdx_loop (s : TSign) (hg : gS s.1 = true) (a : List TLit) (ha : a.length ≤ 1048576) : ∀ k i : Nat, i + k = a.length → ∃ r, l_slices_IndexFunc_impl_Lit_impl_Lit__impl_Sign_isClause_1_26 M a (s, ()) a.length i = some r ∧ (match r with | .inl _ => (a.drop i).all (litOK s.1) = true | .inr r => 0 ≤ r.1.1 ∧ (a.drop i).all (litOK s.1) = false) := by
  intro k
  induction k with
  | zero =>
    intro i hi
    obtain rfl : i = a.length := by omega
    refine ⟨.inl (), el_slices_IndexFunc_impl_Lit_impl_Lit__impl_Sign_isClause_1_26 _ _ _ _ (by simp [ql_slices_IndexFunc_impl_Lit_impl_Lit__impl_Sign_isClause_1_26]), by simp⟩
  | succ k ih =>
    intro i hi
    have h1 : i < a.length := by omega
    obtain ⟨r, hr, hm⟩ := ih (i + 1) (by omega)
    rw [List.drop_eq_getElem_cons h1, List.all_cons]
    by_cases hp : litOK s.1 a[i] = true
    · refine ⟨r, el_slices_IndexFunc_impl_Lit_impl_Lit__impl_Sign_isClause_1_26 _ _ _ _ ?_, by rw [hp, Bool.true_and]; exact hm⟩
      simp only [ql_slices_IndexFunc_impl_Lit_impl_Lit__impl_Sign_isClause_1_26]
      rw [if_pos (by simpa using h1), idx_lt h1, inc_nat (by omega)]
      simp only [Option.bind_some, lit_eta, p_isClause1 s hg, hp, Bool.not_true, Bool.false_eq_true, if_false]
      exact hr
    · rw [Bool.not_eq_true] at hp
      refine ⟨.inr (((i : Int), ()), ()), el_slices_IndexFunc_impl_Lit_impl_Lit__impl_Sign_isClause_1_26 _ _ _ _ ?_, Int.natCast_nonneg i, by rw [hp, Bool.false_and]⟩
      simp only [ql_slices_IndexFunc_impl_Lit_impl_Lit__impl_Sign_isClause_1_26]
      rw [if_pos (by simpa using h1), idx_lt h1]
      simp only [Option.bind_some, lit_eta, p_isClause1 s hg, hp, Bool.not_false, if_true]

theorem p_clContains (s : TSign) (hg : gS s.1 = true) (a : List TLit) (ha : a.length ≤ 1048576) : c_slices_ContainsFunc_impl_Lit_impl_Lit__impl_Sign_isClause_1 M a (s, ()) = some ((!(a.all (litOK s.1)), ()), ()) := by
  apply e_slices_ContainsFunc_impl_Lit_impl_Lit__impl_Sign_isClause_1
  simp only [q_slices_ContainsFunc_impl_Lit_impl_Lit__impl_Sign_isClause_1]
  obtain ⟨r, hr, hm⟩ := p_clIdx_loop s hg a ha a.length 0 (by omega)
  rw [show ((0 : Nat) : Int) = 0 from rfl] at hr
  rw [List.drop_zero] at hm
  cases r with
  | inl r =>
    rw [e_slices_IndexFunc_impl_Lit_impl_Lit__impl_Sign_isClause_1 a (s, ()) (r := ((-1, ()), ())) (by simp only [q_slices_IndexFunc_impl_Lit_impl_Lit__impl_Sign_isClause_1, hr, Option.bind_some, Sum.elim_inl])]
    simp only at hm
    simp [hm]
  | inr r =>
    rw [e_slices_IndexFunc_impl_Lit_impl_Lit__impl_Sign_isClause_1 a (s, ()) (r := r) (by simp only [q_slices_IndexFunc_impl_Lit_impl_Lit__impl_Sign_isClause_1, hr, Option.bind_some, Sum.elim_inr])]
    simp only at hm
    simp [hm]

theorem p_isClause (s : TSign) (hg : gS s.1 = true) (a : List TLit) (ha : a.length ≤ 1048576) : c_impl_Sign_isClause M s a = some ((clOK s.1 a, ()), ()) := by
  apply e_impl_Sign_isClause
  simp only [q_impl_Sign_isClause, sign_eta, p_clContains s hg a ha, Option.bind_some, clOK]
  by_cases h : a.length ≤ 8
  · rw [if_pos (by simp; omega)]; simp [h]
  · rw [if_neg (by simp; omega)]; simp [h]

end Go.Proofs.YtofkhmedmeihiaaAc.Ev

/- Plain laws: clauses that are good, by both programs. No condition but sizes. -/
namespace Go.Proofs.YtofkhmedmeihiaaAc.Ev
open Go
set_option autoImplicit false
set_option linter.unusedVariables false
set_option linter.unusedSimpArgs false

theorem p_spec_GoodClause (s : TSign) (hs : s.1.length ≤ 1048576) (a : List TLit) (ha : a.length ≤ 1048576) (hx : ∀ x ∈ a, smL x) : c_spec_GoodClause M s a = some ((gS s.1 && clOK s.1 a, ()), ()) := by
  apply e_spec_GoodClause
  simp only [q_spec_GoodClause, sign_eta, p_spec_GoodSign s (by omega), Option.bind_some]
  cases hg : gS s.1 with
  | false => rfl
  | true => rw [if_pos rfl, p_l4Clause s hg a ha hx]; rfl

theorem p_impl_GoodClause (s : TSign) (hs : s.1.length ≤ 1048576) (a : List TLit) (ha : a.length ≤ 1048576) : c_impl_GoodClause M s a = some ((gS s.1 && clOK s.1 a, ()), ()) := by
  apply e_impl_GoodClause
  simp only [q_impl_GoodClause, sign_eta, p_impl_GoodSign s (by omega), Option.bind_some]
  cases hg : gS s.1 with
  | false => rfl
  | true => rw [if_pos rfl, p_isClause s hg a ha]; rfl

end Go.Proofs.YtofkhmedmeihiaaAc.Ev

/- Plain laws: the laws' own copying, comparing and counting functions answer as they should, at lists that memory can hold. -/
namespace Go.Proofs.YtofkhmedmeihiaaAc.Ev
open Go
set_option autoImplicit false
set_option linter.unusedVariables false
set_option linter.unusedSimpArgs false

theorem p_toIntS_loop (a : List Int) (ha : a.length ≤ 17592186044416) : ∀ k i : Nat, i + k = a.length → ∀ o : List Int, o.length = a.length → l_laws_toIntS_58 M a o i = some (.inl (o.take i ++ a.drop i, ())) := by
  intro k
  induction k with
  | zero =>
    intro i hi o ho
    obtain rfl : i = a.length := by omega
    apply el_laws_toIntS_58
    simp only [ql_laws_toIntS_58, Int.lt_irrefl, decide_false, Bool.false_eq_true, if_false, List.drop_length, List.append_nil]
    rw [← ho, List.take_length]
  | succ k ih =>
    intro i hi o ho
    apply el_laws_toIntS_58
    have h1 : i < a.length := by omega
    have h2 : i < o.length := by omega
    simp only [ql_laws_toIntS_58]
    rw [if_pos (by simpa using h1), idx_lt h1, inc_nat (by omega)]
    simp only [Option.bind_some]
    rw [if_pos (by omega)]
    simp only [Option.bind_some, Int.toNat_natCast, List.getElem?_eq_getElem h2]
    rw [ih (i + 1) (by omega) _ (by simpa using ho)]
    rw [List.take_set, List.take_succ_eq_append_getElem h2, List.set_append_right _ _ (by simp; omega), List.drop_eq_getElem_cons h1]
    simp [Nat.min_eq_left (Nat.le_of_lt h2)]

theorem p_toIntS (a : List Int) (ha : a.length ≤ 17592186044416) : c_laws_toIntS M a = some ((a, ()), ()) := by
  apply e_laws_toIntS
  simp only [q_laws_toIntS]
  rw [if_pos (by refine ⟨by omega, by omega, trivial⟩)]
  have := p_toIntS_loop a ha a.length 0 (by omega) (List.replicate a.length 0) (by simp)
  simp only [Int.toNat_natCast]
  rw [show ((0 : Nat) : Int) = 0 from rfl] at this
  rw [this]
  simp

theorem p_eqIntS_loop (a : List Int) (ha : a.length ≤ 17592186044416) : ∀ k i : Nat, i + k = a.length → l_laws_eqIntS_58 M a a i = some (.inl ()) := by
  intro k
  induction k with
  | zero =>
    intro i hi
    obtain rfl : i = a.length := by omega
    apply el_laws_eqIntS_58
    simp only [ql_laws_eqIntS_58, Int.lt_irrefl, decide_false, Bool.false_eq_true, if_false]
  | succ k ih =>
    intro i hi
    apply el_laws_eqIntS_58
    have h1 : i < a.length := by omega
    simp only [ql_laws_eqIntS_58]
    rw [if_pos (by simpa using h1), idx_lt h1, inc_nat (by omega)]
    simp only [Option.bind_some, bne_self_eq_false, Bool.false_eq_true, if_false]
    exact ih (i + 1) (by omega)
theorem p_eqIntS (a : List Int) (ha : a.length ≤ 17592186044416) : c_laws_eqIntS M a a = some ((true, ()), ()) := by
  apply e_laws_eqIntS
  simp only [q_laws_eqIntS, bne_self_eq_false, Bool.false_eq_true, if_false]
  have := p_eqIntS_loop a ha a.length 0 (by omega)
  rw [show ((0 : Nat) : Int) = 0 from rfl] at this
  rw [this]
  rfl

theorem p_szIntS (a : List Int) (n : Int) (hn : 0 ≤ n) (hn' : n ≤ 1048576) (ha : a.length ≤ 9223372036854775807) : c_laws_szIntS M a n = some ((if n - a.length < 0 then -1 else n - a.length, ()), ()) := by
  apply e_laws_szIntS
  simp only [q_laws_szIntS, decide_eq_true_eq]
  rw [w64 (by omega) (by omega)]
  split <;> rfl

theorem p_szSign (s : TSign) (n : Int) (hn : 0 ≤ n) (hn' : n ≤ 1048576) (ha : s.1.length ≤ 9223372036854775807) : ∃ r : Int, c_laws_szSign M s n = some ((r, ()), ()) ∧ r ≤ n ∧ (0 ≤ r → s.1.length ≤ 1048576) := by
  refine ⟨if n - s.1.length < 0 then -1 else n - s.1.length, ?_, by split <;> omega, by split <;> omega⟩
  apply e_laws_szSign
  simp only [q_laws_szSign, p_szIntS s.1 n hn hn' ha, Option.bind_some, decide_eq_true_eq]
  by_cases h : n - (s.1.length : Int) < 0
  · simp [h]
  · simp [h]

theorem p_toSign (s : TSign) (ha : s.1.length ≤ 17592186044416) : c_laws_toSign M s = some ((s, ()), ()) := by
  apply e_laws_toSign
  simp only [q_laws_toSign, p_toIntS s.1 ha, Option.bind_some]
theorem p_eqSign (s : TSign) (ha : s.1.length ≤ 17592186044416) : c_laws_eqSign M s s = some ((true, ()), ()) := by
  apply e_laws_eqSign
  simp only [q_laws_eqSign, p_eqIntS s.1 ha, Option.bind_some, Bool.not_true, Bool.false_eq_true, if_false]

end Go.Proofs.YtofkhmedmeihiaaAc.Ev

/- Plain laws: literals, compared. No condition but sizes. -/
namespace Go.Proofs.YtofkhmedmeihiaaAc.Ev
open Go
set_option autoImplicit false
set_option linter.unusedVariables false
set_option linter.unusedSimpArgs false

theorem p_eqLit (x : TLit) (h : smL x) : c_laws_eqLit M x x = some ((true, ()), ()) := by
  apply e_laws_eqLit
  simp only [q_laws_eqLit, p_eqIntS x.2.1 (by have := h.1; omega), p_eqIntS x.2.2.1 (by have := h.2; omega), Option.bind_some]
  simp

theorem p_eqLitS_loop (a : List TLit) (ha : a.length ≤ 1048576) (hx : ∀ x ∈ a, smL x) : ∀ k i : Nat, i + k = a.length → l_laws_eqLitS_58 M a a i = some (.inl ()) := by
  intro k
  induction k with
  | zero =>
    intro i hi
    obtain rfl : i = a.length := by omega
    apply el_laws_eqLitS_58
    simp only [ql_laws_eqLitS_58, Int.lt_irrefl, decide_false, Bool.false_eq_true, if_false]
  | succ k ih =>
    intro i hi
    apply el_laws_eqLitS_58
    have h1 : i < a.length := by omega
    simp only [ql_laws_eqLitS_58]
    rw [if_pos (by simpa using h1), idx_lt h1, inc_nat (by omega)]
    simp only [Option.bind_some, lit_eta, p_eqLit a[i] (hx _ (List.getElem_mem h1)), Bool.not_true, Bool.false_eq_true, if_false]
    exact ih (i + 1) (by omega)

theorem p_eqLitS (a : List TLit) (ha : a.length ≤ 1048576) (hx : ∀ x ∈ a, smL x) : c_laws_eqLitS M a a = some ((true, ()), ()) := by
  apply e_laws_eqLitS
  simp only [q_laws_eqLitS, bne_self_eq_false, Bool.false_eq_true, if_false]
  have := p_eqLitS_loop a ha hx a.length 0 (by omega)
  rw [show ((0 : Nat) : Int) = 0 from rfl] at this
  rw [this]
  rfl

end Go.Proofs.YtofkhmedmeihiaaAc.Ev

/- Plain laws: clauses, as the laws copy, compare and count them. No condition but sizes. -/
namespace Go.Proofs.YtofkhmedmeihiaaAc.Ev
open Go
set_option autoImplicit false
set_option linter.unusedVariables false
set_option linter.unusedSimpArgs false

theorem p_toLit (x : TLit) (h : smL x) : c_laws_toLit M x = some ((x, ()), ()) := by
  apply e_laws_toLit
  simp only [q_laws_toLit, p_toIntS x.2.1 (by have := h.1; omega), p_toIntS x.2.2.1 (by have := h.2; omega), Option.bind_some]

theorem p_toLitS_loop (a : List TLit) (ha : a.length ≤ 1048576) (hx : ∀ x ∈ a, smL x) : ∀ k i : Nat, i + k = a.length → ∀ o : List TLit, o.length = a.length → l_laws_toLitS_58 M a o i = some (.inl (o.take i ++ a.drop i, ())) := by
  intro k
  induction k with
  | zero =>
    intro i hi o ho
    obtain rfl : i = a.length := by omega
    apply el_laws_toLitS_58
    simp only [ql_laws_toLitS_58, Int.lt_irrefl, decide_false, Bool.false_eq_true, if_false, List.drop_length, List.append_nil]
    rw [← ho, List.take_length]
  | succ k ih =>
    intro i hi o ho
    apply el_laws_toLitS_58
    have h1 : i < a.length := by omega
    have h2 : i < o.length := by omega
    simp only [ql_laws_toLitS_58]
    rw [if_pos (by simpa using h1), idx_lt h1, inc_nat (by omega)]
    simp only [Option.bind_some, lit_eta, p_toLit a[i] (hx _ (List.getElem_mem h1))]
    rw [if_pos (by omega)]
    simp only [Option.bind_some, Int.toNat_natCast, List.getElem?_eq_getElem h2]
    rw [ih (i + 1) (by omega) _ (by simpa using ho)]
    rw [List.take_set, List.take_succ_eq_append_getElem h2, List.set_append_right _ _ (by simp; omega), List.drop_eq_getElem_cons h1]
    simp [Nat.min_eq_left (Nat.le_of_lt h2)]

theorem p_toLitS (a : List TLit) (ha : a.length ≤ 1048576) (hx : ∀ x ∈ a, smL x) : c_laws_toLitS M a = some ((a, ()), ()) := by
  apply e_laws_toLitS
  simp only [q_laws_toLitS]
  rw [if_pos (by refine ⟨by omega, by omega, trivial⟩)]
  have := p_toLitS_loop a ha hx a.length 0 (by omega) (List.replicate a.length (false, [], [], ())) (by simp)
  simp only [Int.toNat_natCast]
  rw [show ((0 : Nat) : Int) = 0 from rfl] at this
  rw [this]
  simp


def wlL (x : TLit) : Prop := x.2.1.length ≤ 9223372036854775807 ∧ x.2.2.1.length ≤ 9223372036854775807
theorem p_szLit (x : TLit) (n : Int) (hn : 0 ≤ n) (hn' : n ≤ 1048576) (hx : wlL x) : ∃ r : Int, c_laws_szLit M x n = some ((r, ()), ()) ∧ r ≤ n ∧ (0 ≤ r → smL x) := by
  by_cases h1 : n - x.2.1.length < 0
  · refine ⟨-1, e_laws_szLit _ _ ?_, by omega, by omega⟩
    simp only [q_laws_szLit, p_szIntS x.2.1 n hn hn' hx.1, Option.bind_some, if_pos h1]
    rfl
  · by_cases h2 : n - x.2.1.length - x.2.2.1.length < 0
    · refine ⟨-1, e_laws_szLit _ _ ?_, by omega, by omega⟩
      simp only [q_laws_szLit, p_szIntS x.2.1 n hn hn' hx.1, Option.bind_some, if_neg h1, decide_eq_true_eq, p_szIntS x.2.2.1 (n - x.2.1.length) (by omega) (by omega) hx.2, if_pos h2]
      rfl
    · refine ⟨n - x.2.1.length - x.2.2.1.length, e_laws_szLit _ _ ?_, by omega, fun _ => ⟨by omega, by omega⟩⟩
      simp only [q_laws_szLit, p_szIntS x.2.1 n hn hn' hx.1, Option.bind_some, if_neg h1, decide_eq_true_eq, p_szIntS x.2.2.1 (n - x.2.1.length) (by omega) (by omega) hx.2, if_neg h2]

theorem p_szLitS_loop (a : List TLit) (ha : a.length ≤ 1048576) (hx : ∀ x ∈ a, wlL x) : ∀ (k i : Nat) (n : Int), i + k = a.length → 0 ≤ n → n ≤ 1048576 → (∀ x ∈ a.take i, smL x) →
    ∃ r, l_laws_szLitS_122 M a n i = some r ∧ (match r with | .inl y => 0 ≤ y.1 ∧ y.1 ≤ n ∧ ∀ x ∈ a, smL x | .inr y => y.1.1 = -1) := by
  intro k
  induction k with
  | zero =>
    intro i n hi h0 hn hs
    obtain rfl : i = a.length := by omega
    refine ⟨.inl (n, ()), el_laws_szLitS_122 _ _ _ (by simp [ql_laws_szLitS_122]), h0, Int.le_refl _, by simpa using hs⟩
  | succ k ih =>
    intro i n hi h0 hn hs
    have h1 : i < a.length := by omega
    obtain ⟨m, hm, hm1, hm2⟩ := p_szLit a[i] n h0 hn (hx _ (List.getElem_mem h1))
    by_cases hneg : m < 0
    · refine ⟨.inr ((-1, ()), ()), el_laws_szLitS_122 _ _ _ ?_, rfl⟩
      simp only [ql_laws_szLitS_122]
      rw [if_pos (by simpa using h1), idx_lt h1]
      simp only [Option.bind_some, lit_eta, hm]
      rw [if_pos (by simpa using hneg)]
    · obtain ⟨r, hr, hp⟩ := ih (i + 1) m (by omega) (by omega) (by omega) (by
        intro x hx'
        rw [List.take_succ_eq_append_getElem h1] at hx'
        rcases List.mem_append.1 hx' with h | h
        · exact hs x h
        · rw [List.mem_singleton.1 h]; exact hm2 (by omega))
      refine ⟨r, el_laws_szLitS_122 _ _ _ ?_, ?_⟩
      · simp only [ql_laws_szLitS_122]
        rw [if_pos (by simpa using h1), idx_lt h1, inc_nat (by omega)]
        simp only [Option.bind_some, lit_eta, hm]
        rw [if_neg (by simpa using hneg)]
        exact hr
      · cases r with
        | inl y => exact ⟨hp.1, by have := hp.2.1; omega, hp.2.2⟩
        | inr y => exact hp
theorem p_szLitS (a : List TLit) (n : Int) (hn : 0 ≤ n) (hn' : n ≤ 1048576) (ha : a.length ≤ 9223372036854775807) (hx : ∀ x ∈ a, wlL x) : ∃ r : Int, c_laws_szLitS M a n = some ((r, ()), ()) ∧ r ≤ n ∧ (0 ≤ r → a.length ≤ 1048576 ∧ ∀ x ∈ a, smL x) := by
  have hw : IntKind.i64.wrap (n - a.length) = n - a.length := w64 (by omega) (by omega)
  by_cases h1 : n - a.length < 0
  · refine ⟨-1, e_laws_szLitS _ _ ?_, by omega, by omega⟩
    simp only [q_laws_szLitS, hw]
    rw [if_pos (by simpa using h1)]
  · obtain ⟨r, hr, hp⟩ := p_szLitS_loop a (by omega) hx a.length 0 (n - a.length) (by omega) (by omega) (by omega) (by simp)
    rw [show ((0 : Nat) : Int) = 0 from rfl] at hr
    cases r with
    | inl y =>
      refine ⟨y.1, e_laws_szLitS _ _ ?_, by have := hp.2.1; omega, fun _ => ⟨by omega, hp.2.2⟩⟩
      simp only [q_laws_szLitS, hw]
      rw [if_neg (by simpa using h1), hr]
      rfl
    | inr y =>
      obtain ⟨⟨y, _⟩, _⟩ := y
      simp only at hp
      subst hp
      refine ⟨-1, e_laws_szLitS _ _ ?_, by omega, by omega⟩
      simp only [q_laws_szLitS, hw]
      rw [if_neg (by simpa using h1), hr]
      rfl

end Go.Proofs.YtofkhmedmeihiaaAc.Ev

/- Plain laws: terms with other numbers of variables; the terms of a clause; terms that are valid. No condition but sizes. -/
namespace Go.Proofs.YtofkhmedmeihiaaAc.Ev
open Go
set_option autoImplicit false
set_option linter.unusedVariables false
set_option linter.unusedSimpArgs false

/-- A number of a term, its variable further on. -/
def shn (by' n : Int) : Int := if n < 0 then n - by' else n
theorem p_shift_loop (by' : Int) (h0 : 0 ≤ by') (h1 : by' ≤ 1000) (t : List Int) (hl : t.length ≤ 1000000) (hx : ∀ n ∈ t, -1000000 ≤ n ∧ n ≤ 1000000) : ∀ k i : Nat, i + k = t.length → l_impl_shift_58 M by' ((t.take i).map (shn by') ++ t.drop i) t.length i = some (.inl (t.map (shn by'), ())) := by
  intro k
  induction k with
  | zero =>
    intro i hi
    obtain rfl : i = t.length := by omega
    apply el_impl_shift_58
    simp [ql_impl_shift_58]
  | succ k ih =>
    intro i hi
    have h2 : i < t.length := by omega
    have hn := hx _ (List.getElem_mem h2)
    have hlen : ((t.take i).map (shn by') ++ t.drop i).length = t.length := by simp; omega
    have hget : ((t.take i).map (shn by') ++ t.drop i)[i]? = some t[i] := by
      rw [List.getElem?_append_right (by simp; omega)]
      simp [Nat.min_eq_left (Nat.le_of_lt h2), h2]
    have hnext : (t.take (i + 1)).map (shn by') ++ t.drop (i + 1) = ((t.take i).map (shn by') ++ t.drop i).set i (shn by' t[i]) := by
      rw [List.take_succ_eq_append_getElem h2, List.map_append, List.set_append_right _ _ (by simp; omega)]
      have e : i - ((t.take i).map (shn by')).length = 0 := by simp; omega
      rw [e, List.drop_eq_getElem_cons h2, List.set_cons_zero, List.append_assoc]
      rfl
    have ih' := ih (i + 1) (by omega)
    rw [hnext] at ih'
    apply el_impl_shift_58
    simp only [ql_impl_shift_58]
    rw [if_pos (by simpa using h2), if_pos (by rw [hlen]; omega), Int.toNat_natCast, hget]
    simp only [Option.bind_some]
    by_cases hneg : t[i] < 0
    · rw [if_pos (by simpa using hneg), if_pos (by rw [hlen]; omega), w64 (x := t[i] - by') (by omega) (by omega)]
      simp only [Option.bind_some, Sum.elim_inl]
      rw [inc_nat (by omega)]
      have : shn by' t[i] = t[i] - by' := by simp [shn, hneg]
      rw [this] at ih'
      exact ih'
    · rw [if_neg (by simpa using hneg)]
      simp only [Option.bind_some, Sum.elim_inl]
      rw [inc_nat (by omega)]
      have : shn by' t[i] = t[i] := by simp [shn, hneg]
      rw [this] at ih'
      have hset : ((t.take i).map (shn by') ++ t.drop i).set i t[i] = (t.take i).map (shn by') ++ t.drop i := by
        apply List.ext_getElem? 
        intro j
        rw [List.getElem?_set]
        split
        · rename_i e; subst e; rw [hget, if_pos (by rw [hlen]; exact h2)]
        · rfl
      rw [hset] at ih'
      exact ih'
theorem p_shift (t : List Int) (by' : Int) (h0 : 0 ≤ by') (h1 : by' ≤ 1000) (hl : t.length ≤ 1000000) (hx : ∀ n ∈ t, -1000000 ≤ n ∧ n ≤ 1000000) : c_impl_shift M t by' = some ((t.map (shn by'), ()), ()) := by
  apply e_impl_shift
  simp only [q_impl_shift]
  have := p_shift_loop by' h0 h1 t hl hx t.length 0 (by omega)
  rw [show ((0 : Nat) : Int) = 0 from rfl] at this
  simp only [List.take_zero, List.map_nil, List.nil_append, List.drop_zero] at this
  rw [if_pos (by omega), this]
  rfl
theorem p_l1Shift_loop (by' : Int) (h0 : 0 ≤ by') (h1 : by' ≤ 1000) (t : List Int) (hl : t.length ≤ 1000000) (hx : ∀ n ∈ t, -1000000 ≤ n ∧ n ≤ 1000000) : ∀ k i : Nat, i + k = t.length → l_spec_l1Shift_58 M by' ((t.take i).map (shn by') ++ t.drop i) t.length i = some (.inl (t.map (shn by'), ())) := by
  intro k
  induction k with
  | zero =>
    intro i hi
    obtain rfl : i = t.length := by omega
    apply el_spec_l1Shift_58
    simp [ql_spec_l1Shift_58]
  | succ k ih =>
    intro i hi
    have h2 : i < t.length := by omega
    have hn := hx _ (List.getElem_mem h2)
    have hlen : ((t.take i).map (shn by') ++ t.drop i).length = t.length := by simp; omega
    have hget : ((t.take i).map (shn by') ++ t.drop i)[i]? = some t[i] := by
      rw [List.getElem?_append_right (by simp; omega)]
      simp [Nat.min_eq_left (Nat.le_of_lt h2), h2]
    have hnext : (t.take (i + 1)).map (shn by') ++ t.drop (i + 1) = ((t.take i).map (shn by') ++ t.drop i).set i (shn by' t[i]) := by
      rw [List.take_succ_eq_append_getElem h2, List.map_append, List.set_append_right _ _ (by simp; omega)]
      have e : i - ((t.take i).map (shn by')).length = 0 := by simp; omega
      rw [e, List.drop_eq_getElem_cons h2, List.set_cons_zero, List.append_assoc]
      rfl
    have ih' := ih (i + 1) (by omega)
    rw [hnext] at ih'
    apply el_spec_l1Shift_58
    simp only [ql_spec_l1Shift_58]
    rw [if_pos (by simpa using h2), if_pos (by rw [hlen]; omega), Int.toNat_natCast, hget]
    simp only [Option.bind_some]
    by_cases hneg : t[i] < 0
    · rw [if_pos (by simpa using hneg), if_pos (by rw [hlen]; omega), w64 (x := t[i] - by') (by omega) (by omega)]
      simp only [Option.bind_some, Sum.elim_inl]
      rw [inc_nat (by omega)]
      have : shn by' t[i] = t[i] - by' := by simp [shn, hneg]
      rw [this] at ih'
      exact ih'
    · rw [if_neg (by simpa using hneg)]
      simp only [Option.bind_some, Sum.elim_inl]
      rw [inc_nat (by omega)]
      have : shn by' t[i] = t[i] := by simp [shn, hneg]
      rw [this] at ih'
      have hset : ((t.take i).map (shn by') ++ t.drop i).set i t[i] = (t.take i).map (shn by') ++ t.drop i := by
        apply List.ext_getElem? 
        intro j
        rw [List.getElem?_set]
        split
        · rename_i e; subst e; rw [hget, if_pos (by rw [hlen]; exact h2)]
        · rfl
      rw [hset] at ih'
      exact ih'
theorem p_l1Shift (t : List Int) (by' : Int) (h0 : 0 ≤ by') (h1 : by' ≤ 1000) (hl : t.length ≤ 1000000) (hx : ∀ n ∈ t, -1000000 ≤ n ∧ n ≤ 1000000) : c_spec_l1Shift M t by' = some ((t.map (shn by'), ()), ()) := by
  apply e_spec_l1Shift
  have ho : c_spec_l1Own M t = some ((t, ()), ()) := by
    apply e_spec_l1Own
    simp only [q_spec_l1Own, List.length_nil, List.nil_append]
    rw [if_pos (by omega)]
  simp only [q_spec_l1Shift, ho, Option.bind_some]
  have := p_l1Shift_loop by' h0 h1 t hl hx t.length 0 (by omega)
  rw [show ((0 : Nat) : Int) = 0 from rfl] at this
  simp only [List.take_zero, List.map_nil, List.nil_append, List.drop_zero] at this
  rw [this]
  rfl
theorem sE_rng {a : List Int} : ∀ (t : List Int) (k : Int), sE a k t = some [] → ∀ n ∈ t, -12 ≤ n ∧ n < a.length := by
  intro t
  induction t with
  | nil => intro k _ n hn; cases hn
  | cons m t ih =>
    intro k h n hn
    simp only [sE] at h
    split at h
    · cases h
    · split at h
      · cases h
      · rename_i hb
        unfold badN at hb
        rcases List.mem_cons.1 hn with rfl | hn
        · omega
        · exact ih _ h n hn
theorem isT_rng {a t : List Int} (h : isT a t = true) : t.length ≤ 40 ∧ ∀ n ∈ t, -12 ≤ n ∧ n < a.length := by
  simp only [isT, Bool.and_eq_true, decide_eq_true_eq] at h
  exact ⟨h.1, sE_rng t 1 h.2⟩
end Go.Proofs.YtofkhmedmeihiaaAc.Ev

/- Plain laws: the terms of a clause, as the program lists them; whether terms are valid. No condition but sizes. -/
namespace Go.Proofs.YtofkhmedmeihiaaAc.Ev
open Go
set_option autoImplicit false
set_option linter.unusedVariables false
set_option linter.unusedSimpArgs false

/-- The terms of a clause, literal by literal. -/
def tms (c : List TLit) : List (List Int) := c.flatMap fun x => [x.2.1, x.2.2.1]
theorem tms_len (c : List TLit) : (tms c).length = 2 * c.length := by
  induction c with
  | nil => rfl
  | cons x r ih =>
    have : tms (x :: r) = [x.2.1, x.2.2.1] ++ tms r := rfl
    rw [this, List.length_append, ih]; simp; omega
theorem mem_tms {c : List TLit} {t : List Int} : t ∈ tms c ↔ ∃ x ∈ c, t = x.2.1 ∨ t = x.2.2.1 := by
  simp [tms]
theorem p_termsOf_loop (c : List TLit) (hc : c.length ≤ 1048576) : ∀ k i : Nat, i + k = c.length → ∀ o : List (List Int), o.length ≤ 2 * i → l_impl_termsOf_58 M o c c.length i = some (.inl (o ++ tms (c.drop i), ())) := by
  intro k
  induction k with
  | zero =>
    intro i hi o ho
    obtain rfl : i = c.length := by omega
    exact el_impl_termsOf_58 _ _ _ _ (by simp [ql_impl_termsOf_58, tms])
  | succ k ih =>
    intro i hi o ho
    have h1 : i < c.length := by omega
    apply el_impl_termsOf_58
    simp only [ql_impl_termsOf_58]
    rw [if_pos (by simpa using h1), idx_lt h1]
    simp only [Option.bind_some]
    rw [if_pos (by simp; omega), inc_nat (by omega), ih (i + 1) (by omega) _ (by simp; omega), List.drop_eq_getElem_cons h1]
    have : tms (c[i] :: c.drop (i + 1)) = [c[i].2.1, c[i].2.2.1] ++ tms (c.drop (i + 1)) := rfl
    rw [this, List.append_assoc]
theorem p_termsOf (c : List TLit) (hc : c.length ≤ 1048576) : c_impl_termsOf M c = some ((tms c, ()), ()) := by
  apply e_impl_termsOf
  have := p_termsOf_loop c hc c.length 0 (by omega) [] (by simp)
  rw [show ((0 : Nat) : Int) = 0 from rfl] at this
  simp only [q_impl_termsOf, this, Option.bind_some, Sum.elim_inl, List.nil_append, List.drop_zero]

theorem p_at1 (s : TSign) (hg : gS s.1 = true) (t : List Int) : c_impl_Sign_areTerms_1 M t s = some ((!isT s.1 t, ()), ()) := by
  apply e_impl_Sign_areTerms_1
  simp only [q_impl_Sign_areTerms_1, sign_eta', p_isTerm s hg t, Option.bind_some]
theorem p_atIdx_loop (s : TSign) (hg : gS s.1 = true) (a : List (List Int)) (ha : a.length ≤ 17592186044416) : ∀ k i : Nat, i + k = a.length → ∃ r, l_slices_IndexFunc_SS_int_int__impl_Sign_areTerms_1_26 M a (s, ()) a.length i = some r ∧ (match r with | .inl _ => (a.drop i).all (isT s.1) = true | .inr r => 0 ≤ r.1.1 ∧ (a.drop i).all (isT s.1) = false) := by
  intro k
  induction k with
  | zero =>
    intro i hi
    obtain rfl : i = a.length := by omega
    refine ⟨.inl (), el_slices_IndexFunc_SS_int_int__impl_Sign_areTerms_1_26 _ _ _ _ (by simp [ql_slices_IndexFunc_SS_int_int__impl_Sign_areTerms_1_26]), by simp⟩
  | succ k ih =>
    intro i hi
    have h1 : i < a.length := by omega
    obtain ⟨r, hr, hm⟩ := ih (i + 1) (by omega)
    rw [List.drop_eq_getElem_cons h1, List.all_cons]
    by_cases hp : isT s.1 a[i] = true
    · refine ⟨r, el_slices_IndexFunc_SS_int_int__impl_Sign_areTerms_1_26 _ _ _ _ ?_, by rw [hp, Bool.true_and]; exact hm⟩
      simp only [ql_slices_IndexFunc_SS_int_int__impl_Sign_areTerms_1_26]
      rw [if_pos (by simpa using h1), idx_lt h1, inc_nat (by omega)]
      simp only [Option.bind_some, p_at1 s hg, hp, Bool.not_true, Bool.false_eq_true, if_false]
      exact hr
    · rw [Bool.not_eq_true] at hp
      refine ⟨.inr (((i : Int), ()), ()), el_slices_IndexFunc_SS_int_int__impl_Sign_areTerms_1_26 _ _ _ _ ?_, Int.natCast_nonneg i, by rw [hp, Bool.false_and]⟩
      simp only [ql_slices_IndexFunc_SS_int_int__impl_Sign_areTerms_1_26]
      rw [if_pos (by simpa using h1), idx_lt h1]
      simp only [Option.bind_some, p_at1 s hg, hp, Bool.not_false, if_true]
theorem p_areTerms (s : TSign) (hg : gS s.1 = true) (a : List (List Int)) (ha : a.length ≤ 17592186044416) : c_impl_Sign_areTerms M s a = some ((a.all (isT s.1), ()), ()) := by
  obtain ⟨r, hr, hm⟩ := p_atIdx_loop s hg a ha a.length 0 (by omega)
  rw [show ((0 : Nat) : Int) = 0 from rfl] at hr
  rw [List.drop_zero] at hm
  have key : c_slices_ContainsFunc_SS_int_int__impl_Sign_areTerms_1 M a (s, ()) = some ((!(a.all (isT s.1)), ()), ()) := by
    apply e_slices_ContainsFunc_SS_int_int__impl_Sign_areTerms_1
    simp only [q_slices_ContainsFunc_SS_int_int__impl_Sign_areTerms_1]
    cases r with
    | inl r =>
      rw [e_slices_IndexFunc_SS_int_int__impl_Sign_areTerms_1 a (s, ()) (r := ((-1, ()), ())) (by simp only [q_slices_IndexFunc_SS_int_int__impl_Sign_areTerms_1, hr, Option.bind_some, Sum.elim_inl])]
      simp only at hm
      simp [hm]
    | inr r =>
      rw [e_slices_IndexFunc_SS_int_int__impl_Sign_areTerms_1 a (s, ()) (r := r) (by simp only [q_slices_IndexFunc_SS_int_int__impl_Sign_areTerms_1, hr, Option.bind_some, Sum.elim_inr])]
      simp only at hm
      simp [hm]
  apply e_impl_Sign_areTerms
  simp only [q_impl_Sign_areTerms, sign_eta', key, Option.bind_some, Bool.not_not]
theorem p_withTerms (c : List TLit) (ts : List (List Int)) (hc : c.length ≤ 1000000) (hl : 2 * c.length ≤ ts.length) : c_impl_withTerms M c ts = some ((wtZ c ts, ()), ()) := by
  apply e_impl_withTerms
  simp only [q_impl_withTerms]
  rw [if_pos ⟨hc, hl⟩]
end Go.Proofs.YtofkhmedmeihiaaAc.Ev

/- Plain laws: rows that are searched; rows that rise; variables of terms in rising order. No condition but sizes. -/
namespace Go.Proofs.YtofkhmedmeihiaaAc.Ev
open Go
set_option autoImplicit false
set_option linter.unusedVariables false
set_option linter.unusedSimpArgs false

theorem p_Index_loop (a : List Int) (x : Int) (ha : a.length ≤ 17592186044416) : ∀ k i : Nat, i + k = a.length → ∃ r, l_slices_Index_int_int_26 M a x a.length i = some r ∧ (match r with | .inl _ => x ∉ a.drop i | .inr r => 0 ≤ r.1.1 ∧ x ∈ a.drop i) := by
  intro k
  induction k with
  | zero =>
    intro i hi
    obtain rfl : i = a.length := by omega
    exact ⟨.inl (), el_slices_Index_int_int_26 _ _ _ _ (by simp [ql_slices_Index_int_int_26]), by simp⟩
  | succ k ih =>
    intro i hi
    have h1 : i < a.length := by omega
    obtain ⟨r, hr, hm⟩ := ih (i + 1) (by omega)
    rw [List.drop_eq_getElem_cons h1]
    by_cases hx : x = a[i]
    · refine ⟨.inr (((i : Int), ()), ()), el_slices_Index_int_int_26 _ _ _ _ ?_, Int.natCast_nonneg i, hx ▸ List.mem_cons_self⟩
      simp only [ql_slices_Index_int_int_26]
      rw [if_pos (by simpa using h1), idx_lt h1]
      simp only [Option.bind_some]
      rw [if_pos (by simpa using hx)]
    · refine ⟨r, el_slices_Index_int_int_26 _ _ _ _ ?_, ?_⟩
      · simp only [ql_slices_Index_int_int_26]
        rw [if_pos (by simpa using h1), idx_lt h1]
        simp only [Option.bind_some]
        rw [if_neg (by simpa using hx), inc_nat (by omega)]
        exact hr
      · cases r with
        | inl r => simp only [List.mem_cons, not_or]; exact ⟨hx, hm⟩
        | inr r => exact ⟨hm.1, List.mem_cons_of_mem _ hm.2⟩
theorem p_Contains (a : List Int) (x : Int) (ha : a.length ≤ 17592186044416) : c_slices_Contains_int_int M a x = some ((decide (x ∈ a), ()), ()) := by
  obtain ⟨r, hr, hm⟩ := p_Index_loop a x ha a.length 0 (by omega)
  rw [show ((0 : Nat) : Int) = 0 from rfl] at hr
  rw [List.drop_zero] at hm
  apply e_slices_Contains_int_int
  cases r with
  | inl r =>
    rw [q_slices_Contains_int_int, e_slices_Index_int_int a x (r := ((-1, ()), ())) (by simp only [q_slices_Index_int_int, hr, Option.bind_some, Sum.elim_inl])]
    have : decide (x ∈ a) = false := by simpa using hm
    rw [this]; rfl
  | inr r =>
    rw [q_slices_Contains_int_int, e_slices_Index_int_int a x (r := r) (by simp only [q_slices_Index_int_int, hr, Option.bind_some, Sum.elim_inr])]
    have : decide (x ∈ a) = true := by simpa using hm.2
    rw [this]
    simp [hm.1]

/-- A row that rises. -/
def Up (l : List Int) : Prop := l.Pairwise (· < ·)
theorem Up.ext {l k : List Int} (hl : Up l) (hk : Up k) (h : ∀ x, x ∈ l ↔ x ∈ k) : l = k := by
  induction l generalizing k with
  | nil =>
    cases k with
    | nil => rfl
    | cons y k => exact absurd ((h y).2 (by simp)) (by simp)
  | cons x l ih =>
    cases k with
    | nil => exact absurd ((h x).1 (by simp)) (by simp)
    | cons y k =>
      have hl' := List.pairwise_cons.1 hl
      have hk' := List.pairwise_cons.1 hk
      have hxy : x = y := by
        have a1 := (h x).1 (by simp)
        have a2 := (h y).2 (by simp)
        rcases List.mem_cons.1 a1 with a1 | a1
        · exact a1
        · rcases List.mem_cons.1 a2 with a2 | a2
          · exact a2.symm
          · have := hl'.1 _ a2; have := hk'.1 _ a1; omega
      subst hxy
      rw [ih hl'.2 hk'.2 fun z => ?_]
      constructor
      · intro hz
        rcases List.mem_cons.1 ((h z).1 (by simp [hz])) with e | e
        · have := hl'.1 _ hz; omega
        · exact e
      · intro hz
        rcases List.mem_cons.1 ((h z).2 (by simp [hz])) with e | e
        · have := hk'.1 _ hz; omega
        · exact e
/-- Some of the numbers from 0 to 11, rising. -/
def upTo (p : Int → Bool) : List Int := ((List.range 12).map Int.ofNat).filter p
theorem upTo_up (p : Int → Bool) : Up (upTo p) := by
  unfold Up upTo
  exact List.Pairwise.filter _ (by decide)
theorem mem_upTo {p : Int → Bool} {v : Int} : v ∈ upTo p ↔ 0 ≤ v ∧ v ≤ 11 ∧ p v = true := by
  simp only [upTo, List.mem_filter, List.mem_map, List.mem_range]
  constructor
  · rintro ⟨⟨n, h, rfl⟩, hp⟩
    exact ⟨Int.natCast_nonneg n, by simp only [Int.ofNat_eq_natCast]; omega, hp⟩
  · rintro ⟨h1, h2, hp⟩
    exact ⟨⟨v.toNat, by omega, by simp only [Int.ofNat_eq_natCast]; omega⟩, hp⟩
theorem upTo_len (p : Int → Bool) : (upTo p).length ≤ 12 := by
  unfold upTo
  exact Nat.le_trans (List.length_filter_le _ _) (by simp)
/-- The loop that gathers them. -/
theorem upTo_part (p : Int → Bool) (i : Nat) (hi : i ≤ 12) : ∀ o, o = (((List.range i).map Int.ofNat).filter p) → (i < 12 → ((((List.range (i + 1)).map Int.ofNat).filter p) = if p i = true then o ++ [(i : Int)] else o)) := by
  intro o ho _
  subst ho
  rw [List.range_succ, List.map_append, List.filter_append]
  simp only [List.map_cons, List.map_nil, Int.ofNat_eq_natCast]
  cases h : p i <;> simp [h]

/-- A number put into a rising row. -/
def putN : List Int → Int → List Int
  | [], n => [n]
  | x :: r, n => if x < n then x :: putN r n else if x = n then x :: r else n :: x :: r
theorem mem_putN {l : List Int} {n x : Int} : x ∈ putN l n ↔ x ∈ l ∨ x = n := by
  induction l with
  | nil => simp [putN]
  | cons y r ih =>
    simp only [putN]
    split
    · simp only [List.mem_cons, ih, or_assoc]
    · split
      · rename_i h; subst h
        simp only [List.mem_cons]
        constructor
        · intro h; exact .inl h
        · rintro (h | rfl)
          · exact h
          · exact .inl rfl
      · simp only [List.mem_cons]
        constructor
        · rintro (h | h)
          · exact .inr h
          · exact .inl h
        · rintro (h | h)
          · exact .inr h
          · exact .inl h
theorem up_putN {l : List Int} (h : Up l) (n : Int) : Up (putN l n) := by
  induction l with
  | nil => simp [putN, Up]
  | cons y r ih =>
    have h' := List.pairwise_cons.1 h
    simp only [putN]
    split
    · refine List.pairwise_cons.2 ⟨fun z hz => ?_, ih h'.2⟩
      rcases mem_putN.1 hz with hz | rfl
      · exact h'.1 _ hz
      · assumption
    · split
      · exact h
      · refine List.pairwise_cons.2 ⟨fun z hz => ?_, h⟩
        rcases List.mem_cons.1 hz with rfl | hz
        · omega
        · have := h'.1 _ hz; omega
theorem putN_len (l : List Int) (n : Int) : (putN l n).length ≤ l.length + 1 := by
  induction l with
  | nil => simp [putN]
  | cons y r ih =>
    simp only [putN]
    split
    · simp only [List.length_cons]; omega
    · split <;> simp
theorem putN_split (n : Int) : ∀ (P R : List Int), (∀ x ∈ P, x < n) → (∀ y, R.head? = some y → n ≤ y) → putN (P ++ R) n = if R.head? = some n then P ++ R else P ++ n :: R
  | [], [], _, _ => by simp [putN]
  | [], y :: R, _, h => by
    have := h y rfl
    simp only [List.nil_append, putN, List.head?_cons, Option.some.injEq]
    rw [if_neg (by omega)]
  | x :: P, R, h, h' => by
    have ih := putN_split n P R (fun y hy => h y (by simp [hy])) h'
    simp only [List.cons_append, putN]
    rw [if_pos (h x (by simp)), ih]
    split <;> rfl

theorem p_l1Put_at (l : List Int) (hl : l.length ≤ 1000) (n : Int) : ∀ k i : Nat, i + k = l.length → (∀ x ∈ l.take i, x < n) → ∃ j : Nat, j ≤ l.length ∧ l_spec_l1Put_28 M l n i = some (.inl (l, n, j, ())) ∧ (∀ x ∈ l.take j, x < n) ∧ (∀ y, (l.drop j).head? = some y → n ≤ y) := by
  intro k
  induction k with
  | zero =>
    intro i hi h
    obtain rfl : i = l.length := by omega
    exact ⟨l.length, Nat.le_refl _, el_spec_l1Put_28 _ _ _ (by simp [ql_spec_l1Put_28]), h, by simp⟩
  | succ k ih =>
    intro i hi h
    have h1 : i < l.length := by omega
    by_cases hx : l[i] < n
    · obtain ⟨j, g2, g3, g4⟩ := ih (i + 1) (by omega) (by
        intro x hx'
        rw [List.take_succ_eq_append_getElem h1, List.mem_append] at hx'
        rcases hx' with hx' | hx'
        · exact h x hx'
        · simp at hx'; omega)
      refine ⟨j, g2, el_spec_l1Put_28 _ _ _ ?_, g4⟩
      simp only [ql_spec_l1Put_28]
      rw [if_pos (by simpa using h1), if_pos (by omega), Int.toNat_natCast, List.getElem?_eq_getElem h1]
      simp only [Option.bind_some]
      rw [if_pos (by simpa using hx), inc_nat (by omega)]
      exact g3
    · refine ⟨i, by omega, el_spec_l1Put_28 _ _ _ ?_, h, ?_⟩
      · simp only [ql_spec_l1Put_28]
        rw [if_pos (by simpa using h1), if_pos (by omega), Int.toNat_natCast, List.getElem?_eq_getElem h1]
        simp only [Option.bind_some]
        rw [if_neg (by simpa using hx)]
      · intro y hy
        rw [List.drop_eq_getElem_cons h1] at hy
        simp only [List.head?_cons, Option.some.injEq] at hy; omega
theorem p_putN (l : List Int) (hl : l.length ≤ 1000) (n : Int) : c_spec_l1Put M l n = some ((putN l n, ()), ()) := by
  obtain ⟨j, g2, g3, g4, g5⟩ := p_l1Put_at l hl n l.length 0 (by omega) (by simp)
  rw [show ((0 : Nat) : Int) = 0 from rfl] at g3
  have key := putN_split n (l.take j) (l.drop j) g4 g5
  rw [List.take_append_drop] at key
  apply e_spec_l1Put
  simp only [q_spec_l1Put, g3, Option.bind_some, Sum.elim_inl]
  by_cases h1 : j < l.length
  · have hh : (l.drop j).head? = some l[j] := by rw [List.drop_eq_getElem_cons h1]; rfl
    rw [if_pos (by simpa using h1), if_pos (by omega), Int.toNat_natCast, List.getElem?_eq_getElem h1]
    simp only [Option.bind_some, Int.toNat_natCast, Int.toNat_zero, List.drop_zero, List.nil_append, List.length_nil, List.length_append, List.length_take, List.length_drop, List.length_cons, List.take_length]
    rw [hh] at key
    by_cases h2 : l[j] = n
    · rw [if_pos (by simpa using h2), key, if_pos (by rw [h2])]
    · rw [if_neg (by simpa using h2), if_pos (by omega), if_pos (by omega), if_pos (by omega), if_pos (by omega), if_pos (by omega), key, if_neg (by simpa using h2)]
      simp
  · have hd : l.drop j = [] := List.drop_of_length_le (by omega)
    rw [hd] at key
    rw [if_neg (by simpa using h1)]
    simp only [Option.bind_some, Int.toNat_natCast, Int.toNat_zero, List.drop_zero, List.nil_append, List.length_nil, List.length_append, List.length_take, List.length_drop, List.length_cons, List.take_length]
    rw [if_pos (by omega), if_pos (by omega), if_pos (by omega), if_pos (by omega), if_pos (by omega), key, hd]
    simp
theorem Up.le12 {L : List Int} (h : Up L) (hb : ∀ v ∈ L, 0 ≤ v ∧ v ≤ 11) : L = upTo (fun v => decide (v ∈ L)) := by
  refine Up.ext h (upTo_up _) fun x => ?_
  rw [mem_upTo]
  constructor
  · intro hx; exact ⟨(hb x hx).1, (hb x hx).2, by simpa using hx⟩
  · rintro ⟨_, _, hx⟩; simpa using hx
theorem Up.len12 {L : List Int} (h : Up L) (hb : ∀ v ∈ L, 0 ≤ v ∧ v ≤ 11) : L.length ≤ 12 := by
  rw [h.le12 hb]; exact upTo_len _

theorem foldPut_len : ∀ (vs o : List Int), (vs.foldl putN o).length ≤ o.length + vs.length
  | [], o => by simp
  | v :: vs, o => by
    have h1 := foldPut_len vs (putN o v)
    have h2 := putN_len o v
    simp only [List.foldl_cons, List.length_cons]
    omega
theorem mem_foldPut : ∀ (vs o : List Int) (x : Int), x ∈ vs.foldl putN o ↔ x ∈ o ∨ x ∈ vs
  | [], o, x => by simp
  | v :: vs, o, x => by
    simp only [List.foldl_cons, mem_foldPut vs, mem_putN, List.mem_cons, or_assoc]
theorem up_foldPut : ∀ (vs o : List Int), Up o → Up (vs.foldl putN o)
  | [], o, h => h
  | v :: vs, o, h => up_foldPut vs _ (up_putN h v)
end Go.Proofs.YtofkhmedmeihiaaAc.Ev

/- Plain laws: the variables of some terms, in rising order, as the program gathers them. No condition but sizes. -/
namespace Go.Proofs.YtofkhmedmeihiaaAc.Ev
open Go
set_option autoImplicit false
set_option linter.unusedVariables false
set_option linter.unusedSimpArgs false

theorem p_vi1 (t : List Int) (v : Int) (ht : t.length ≤ 17592186044416) (h0 : -1000 ≤ v) (h1 : v ≤ 1000) : c_impl_varsIn_1 M t v = some ((decide (-1 - v ∈ t), ()), ()) := by
  apply e_impl_varsIn_1
  simp only [q_impl_varsIn_1]
  rw [w64 (x := -1 - v) (by omega) (by omega), p_Contains t _ ht]
  rfl
/-- Whether a variable is in one of some terms. -/
def inV (ts : List (List Int)) (v : Int) : Bool := ts.any fun t => decide (-1 - v ∈ t)
theorem p_viIdx_loop (ts : List (List Int)) (v : Int) (h0 : -1000 ≤ v) (h1 : v ≤ 1000) (hl : ts.length ≤ 17592186044416) (hx : ∀ t ∈ ts, t.length ≤ 17592186044416) : ∀ k i : Nat, i + k = ts.length → ∃ r, l_slices_IndexFunc_SS_int_int__impl_varsIn_1_26 M ts (v, ()) ts.length i = some r ∧ (match r with | .inl _ => inV (ts.drop i) v = false | .inr r => 0 ≤ r.1.1 ∧ inV (ts.drop i) v = true) := by
  intro k
  induction k with
  | zero =>
    intro i hi
    obtain rfl : i = ts.length := by omega
    exact ⟨.inl (), el_slices_IndexFunc_SS_int_int__impl_varsIn_1_26 _ _ _ _ (by simp [ql_slices_IndexFunc_SS_int_int__impl_varsIn_1_26]), by simp [inV]⟩
  | succ k ih =>
    intro i hi
    have h2 : i < ts.length := by omega
    obtain ⟨r, hr, hm⟩ := ih (i + 1) (by omega)
    rw [List.drop_eq_getElem_cons h2]
    have hc := p_vi1 ts[i] v (hx _ (List.getElem_mem h2)) h0 h1
    cases hp : decide (-1 - v ∈ ts[i]) with
    | false =>
      refine ⟨r, el_slices_IndexFunc_SS_int_int__impl_varsIn_1_26 _ _ _ _ ?_, ?_⟩
      · simp only [ql_slices_IndexFunc_SS_int_int__impl_varsIn_1_26]
        rw [if_pos (by simpa using h2), idx_lt h2]
        simp only [Option.bind_some, hc, hp, Bool.false_eq_true, if_false]
        rw [inc_nat (by omega)]
        exact hr
      · cases r with
        | inl r => simp only [inV, List.any_cons, hp, Bool.false_or]; exact hm
        | inr r => simp only [inV, List.any_cons, hp, Bool.false_or]; exact hm
    | true =>
      refine ⟨.inr (((i : Int), ()), ()), el_slices_IndexFunc_SS_int_int__impl_varsIn_1_26 _ _ _ _ ?_, Int.natCast_nonneg i, ?_⟩
      · simp only [ql_slices_IndexFunc_SS_int_int__impl_varsIn_1_26]
        rw [if_pos (by simpa using h2), idx_lt h2]
        simp only [Option.bind_some, hc, hp, if_true]
      · simp only [inV, List.any_cons, hp, Bool.true_or]
theorem p_viContains (ts : List (List Int)) (v : Int) (h0 : -1000 ≤ v) (h1 : v ≤ 1000) (hl : ts.length ≤ 17592186044416) (hx : ∀ t ∈ ts, t.length ≤ 17592186044416) : c_slices_ContainsFunc_SS_int_int__impl_varsIn_1 M ts (v, ()) = some ((inV ts v, ()), ()) := by
  obtain ⟨r, hr, hm⟩ := p_viIdx_loop ts v h0 h1 hl hx ts.length 0 (by omega)
  rw [show ((0 : Nat) : Int) = 0 from rfl] at hr
  rw [List.drop_zero] at hm
  apply e_slices_ContainsFunc_SS_int_int__impl_varsIn_1
  cases r with
  | inl r =>
    rw [q_slices_ContainsFunc_SS_int_int__impl_varsIn_1, e_slices_IndexFunc_SS_int_int__impl_varsIn_1 ts (v, ()) (r := ((-1, ()), ())) (by simp only [q_slices_IndexFunc_SS_int_int__impl_varsIn_1, hr, Option.bind_some, Sum.elim_inl])]
    simp only at hm
    simp [hm]
  | inr r =>
    rw [q_slices_ContainsFunc_SS_int_int__impl_varsIn_1, e_slices_IndexFunc_SS_int_int__impl_varsIn_1 ts (v, ()) (r := r) (by simp only [q_slices_IndexFunc_SS_int_int__impl_varsIn_1, hr, Option.bind_some, Sum.elim_inr])]
    simp only at hm
    simp [hm]
theorem p_varsIn_loop (ts : List (List Int)) (hl : ts.length ≤ 17592186044416) (hx : ∀ t ∈ ts, t.length ≤ 17592186044416) : ∀ k i : Nat, i + k = 12 → ∀ o : List Int, o = ((List.range i).map Int.ofNat).filter (inV ts) → l_impl_varsIn_58 M ts o i = some (.inl (upTo (inV ts), ())) := by
  intro k
  induction k with
  | zero =>
    intro i hi o ho
    obtain rfl : i = 12 := by omega
    subst ho
    exact el_impl_varsIn_58 _ _ _ (by simp [ql_impl_varsIn_58, upTo])
  | succ k ih =>
    intro i hi o ho
    have hp := upTo_part (inV ts) i (by omega) o ho (by omega)
    have hol : o.length ≤ 12 := by rw [ho]; exact Nat.le_trans (List.length_filter_le _ _) (by simp; omega)
    apply el_impl_varsIn_58
    simp only [ql_impl_varsIn_58]
    rw [if_pos (by simp; omega), p_viContains ts i (by omega) (by omega) hl hx]
    simp only [Option.bind_some]
    cases hv : inV ts (i : Int) with
    | true =>
      rw [hv, if_pos rfl] at hp
      rw [if_pos rfl, if_pos (by simp; omega)]
      simp only [Option.bind_some, Sum.elim_inl]
      rw [inc_nat (by omega)]
      exact ih (i + 1) (by omega) _ hp.symm
    | false =>
      rw [hv, if_neg (by simp)] at hp
      rw [if_neg (by simp)]
      simp only [Option.bind_some, Sum.elim_inl]
      rw [inc_nat (by omega)]
      exact ih (i + 1) (by omega) _ hp.symm
theorem p_varsIn (ts : List (List Int)) (hl : ts.length ≤ 17592186044416) (hx : ∀ t ∈ ts, t.length ≤ 17592186044416) : c_impl_varsIn M ts = some ((upTo (inV ts), ()), ()) := by
  apply e_impl_varsIn
  simp only [q_impl_varsIn]
  have := p_varsIn_loop ts hl hx 12 0 (by omega) [] (by simp)
  rw [show ((0 : Nat) : Int) = 0 from rfl] at this
  rw [this]
  rfl
end Go.Proofs.YtofkhmedmeihiaaAc.Ev

/- Plain laws: what the laws write into rows to tell whether they are shared, and read again. No condition but sizes. -/
namespace Go.Proofs.YtofkhmedmeihiaaAc.Ev
open Go
set_option autoImplicit false
set_option linter.unusedVariables false
set_option linter.unusedSimpArgs false

/-- Numbers from one on. -/
def mkS (k : Int) : Nat → List Int
  | 0 => []
  | n + 1 => k :: mkS (k + 1) n
theorem mkS_len : ∀ (n : Nat) (k : Int), (mkS k n).length = n
  | 0, _ => rfl
  | n + 1, k => by simp [mkS, mkS_len n]

theorem set_mid {α : Type} (P R : List α) (x y : α) : (P ++ x :: R).set P.length y = P ++ y :: R := by
  rw [List.set_append_right _ _ (Nat.le_refl _)]; simp
theorem get_mid {α : Type} (P R : List α) (x : α) : (P ++ x :: R)[P.length]? = some x := by simp
theorem idx_midQ {α : Type} (P R : List α) (x : α) : idx (P ++ x :: R) (P.length : Int) = some x := by rw [idx_nat]; simp

theorem p_markIntS_loop : ∀ (R P : List Int) (k : Int), 0 ≤ k → k + R.length ≤ 4611686018427387904 → P.length + R.length ≤ 4611686018427387904 → l_laws_markIntS_26 M (P ++ R) k P.length = some (.inl (P ++ mkS k R.length, k + R.length, ())) := by
  intro R
  induction R with
  | nil =>
    intro P k _ _ _
    apply el_laws_markIntS_26
    simp [ql_laws_markIntS_26, mkS]
  | cons x R ih =>
    intro P k h0 hk hp
    simp only [List.length_cons] at hk hp
    apply el_laws_markIntS_26
    simp only [ql_laws_markIntS_26]
    rw [if_pos (by simp; omega), if_pos (by simp; omega), Int.toNat_natCast, get_mid, set_mid, w64 (x := k + 1) (by omega) (by omega), inc_nat (by omega)]
    simp only [Option.bind_some]
    have := ih (P ++ [k]) (k + 1) (by omega) (by omega) (by simp; omega)
    rw [List.append_assoc, List.length_append] at this
    simp only [List.cons_append, List.nil_append, List.length_cons, List.length_nil, Nat.zero_add] at this
    rw [this]
    simp only [List.length_cons, mkS, List.append_assoc, List.cons_append, List.nil_append]
    rw [show k + 1 + (R.length : Int) = k + ((R.length + 1 : Nat) : Int) by omega]
theorem p_markIntS (a : List Int) (k : Int) (h0 : 0 ≤ k) (hk : k + a.length ≤ 4611686018427387904) : c_laws_markIntS M a k = some ((k + a.length, ()), (mkS k a.length, ())) := by
  apply e_laws_markIntS
  have := p_markIntS_loop a [] k h0 hk (by simp; omega)
  simp only [List.nil_append, List.length_nil] at this
  rw [show ((0 : Nat) : Int) = 0 from rfl] at this
  simp only [q_laws_markIntS, this, Option.bind_some, Sum.elim_inl]

theorem p_heldIntS_loop : ∀ (n : Nat) (P : List Int) (k : Int), 0 ≤ k → k + n ≤ 4611686018427387904 → P.length + n ≤ 4611686018427387904 → l_laws_heldIntS_26 M (P ++ mkS k n) k P.length = some (.inl (k + n, ())) := by
  intro n
  induction n with
  | zero =>
    intro P k _ _ _
    apply el_laws_heldIntS_26
    simp [ql_laws_heldIntS_26, mkS]
  | succ n ih =>
    intro P k h0 hk hp
    rw [show mkS k (n + 1) = k :: mkS (k + 1) n from rfl]
    apply el_laws_heldIntS_26
    simp only [ql_laws_heldIntS_26]
    rw [if_pos (by simp [mkS_len]; omega), idx_midQ, w64 (x := k + 1) (by omega) (by omega), inc_nat (by omega)]
    simp only [Option.bind_some]
    rw [if_neg (by simp)]
    have := ih (P ++ [k]) (k + 1) (by omega) (by omega) (by simp; omega)
    rw [List.append_assoc, List.length_append] at this
    simp only [List.cons_append, List.nil_append, List.length_cons, List.length_nil, Nat.zero_add] at this
    rw [this, show k + 1 + (n : Int) = k + ((n + 1 : Nat) : Int) by omega]
theorem p_heldIntS (k : Int) (n : Nat) (h0 : 0 ≤ k) (hk : k + n ≤ 4611686018427387904) : c_laws_heldIntS M (mkS k n) k = some ((k + n, ()), ()) := by
  apply e_laws_heldIntS
  have := p_heldIntS_loop n [] k h0 hk (by simp; omega)
  simp only [List.nil_append, List.length_nil] at this
  rw [show ((0 : Nat) : Int) = 0 from rfl] at this
  simp only [q_laws_heldIntS, this, Option.bind_some, Sum.elim_inl]

theorem p_markSign (s : TSign) (k : Int) (h0 : 0 ≤ k) (hk : k + s.1.length ≤ 4611686018427387904) : c_laws_markSign M s k = some ((k + s.1.length, ()), ((mkS k s.1.length, ()), ())) := by
  apply e_laws_markSign
  simp only [q_laws_markSign, p_markIntS s.1 k h0 hk, Option.bind_some]

end Go.Proofs.YtofkhmedmeihiaaAc.Ev

/- Plain laws: marks in literals. No condition but sizes. -/
namespace Go.Proofs.YtofkhmedmeihiaaAc.Ev
open Go
set_option autoImplicit false
set_option linter.unusedVariables false
set_option linter.unusedSimpArgs false

/-- How many marks literals take. -/
def totL : List TLit → Nat
  | [] => 0
  | x :: r => 1 + x.2.1.length + x.2.2.1.length + totL r
/-- Literals with marks. -/
def mkL (k : Int) : List TLit → List TLit
  | [] => []
  | x :: r => (((Int.tmod k 3) == 0), mkS (k + 1) x.2.1.length, mkS (k + 1 + x.2.1.length) x.2.2.1.length, ()) :: mkL (k + 1 + x.2.1.length + x.2.2.1.length) r
theorem mkL_len : ∀ (r : List TLit) (k : Int), (mkL k r).length = r.length
  | [], _ => rfl
  | x :: r, k => by simp [mkL, mkL_len r]
theorem totL_le : ∀ (r : List TLit), (∀ x ∈ r, smL x) → totL r ≤ 2097153 * r.length
  | [], _ => by simp [totL]
  | x :: r, h => by
    have h1 := h x (by simp)
    have h2 := totL_le r (fun y hy => h y (by simp [hy]))
    have h3 := h1.1
    have h4 := h1.2
    simp only [totL, List.length_cons]
    omega

theorem p_markLitS_loop : ∀ (R P : List TLit) (k : Int), 0 ≤ k → k + totL R ≤ 4611686018427387904 → P.length + R.length ≤ 4611686018427387904 → l_laws_markLitS_26 M (P ++ R) k P.length = some (.inl (P ++ mkL k R, k + totL R, ())) := by
  intro R
  induction R with
  | nil =>
    intro P k _ _ _
    apply el_laws_markLitS_26
    simp [ql_laws_markLitS_26, mkL, totL]
  | cons x R ih =>
    intro P k h0 hk hp
    simp only [List.length_cons, totL] at hk hp
    apply el_laws_markLitS_26
    simp only [ql_laws_markLitS_26]
    rw [if_pos (by simp; omega), if_neg (by omega), if_pos (by simp; omega), Int.toNat_natCast, get_mid, inc_nat (by omega), w64 (x := k + 1) (by omega) (by omega)]
    simp only [Option.bind_some]
    rw [set_mid, if_pos (by simp; omega), get_mid]
    simp only [Option.bind_some]
    rw [p_markIntS x.2.1 (k + 1) (by omega) (by omega)]
    simp only [Option.bind_some]
    rw [set_mid, if_pos (by simp; omega), get_mid]
    simp only [Option.bind_some]
    rw [p_markIntS x.2.2.1 (k + 1 + x.2.1.length) (by omega) (by omega)]
    simp only [Option.bind_some]
    rw [set_mid]
    have := ih (P ++ [(((Int.tmod k 3) == 0), mkS (k + 1) x.2.1.length, mkS (k + 1 + x.2.1.length) x.2.2.1.length, ())]) (k + 1 + x.2.1.length + x.2.2.1.length) (by omega) (by omega) (by simp; omega)
    rw [List.append_assoc, List.length_append] at this
    simp only [List.cons_append, List.nil_append, List.length_cons, List.length_nil, Nat.zero_add] at this
    rw [this]
    simp only [mkL, totL, List.append_assoc, List.cons_append, List.nil_append]
    rw [show k + 1 + (x.2.1.length : Int) + (x.2.2.1.length : Int) + (totL R : Int) = k + ((1 + x.2.1.length + x.2.2.1.length + totL R : Nat) : Int) by omega]
theorem p_markLitS (a : List TLit) (k : Int) (h0 : 0 ≤ k) (hk : k + totL a ≤ 4611686018427387904) (hl : a.length ≤ 4611686018427387904) : c_laws_markLitS M a k = some ((k + totL a, ()), (mkL k a, ())) := by
  apply e_laws_markLitS
  have := p_markLitS_loop a [] k h0 hk (by simp; omega)
  simp only [List.nil_append, List.length_nil] at this
  rw [show ((0 : Nat) : Int) = 0 from rfl] at this
  simp only [q_laws_markLitS, this, Option.bind_some, Sum.elim_inl]
theorem p_heldLitS_loop : ∀ (R P : List TLit) (k : Int), 0 ≤ k → k + totL R ≤ 4611686018427387904 → P.length + R.length ≤ 4611686018427387904 → l_laws_heldLitS_26 M (P ++ mkL k R) k P.length = some (.inl (k + totL R, ())) := by
  intro R
  induction R with
  | nil =>
    intro P k _ _ _
    apply el_laws_heldLitS_26
    simp [ql_laws_heldLitS_26, mkL, totL]
  | cons x R ih =>
    intro P k h0 hk hp
    simp only [List.length_cons, totL] at hk hp
    rw [show mkL k (x :: R) = (((Int.tmod k 3) == 0), mkS (k + 1) x.2.1.length, mkS (k + 1 + x.2.1.length) x.2.2.1.length, ()) :: mkL (k + 1 + x.2.1.length + x.2.2.1.length) R from rfl]
    apply el_laws_heldLitS_26
    simp only [ql_laws_heldLitS_26]
    rw [if_pos (by simp [mkL_len]; omega), idx_midQ, inc_nat (by omega), w64 (x := k + 1) (by omega) (by omega)]
    simp only [Option.bind_some]
    rw [if_neg (by omega), if_neg (by simp), p_heldIntS (k + 1) x.2.1.length (by omega) (by omega)]
    simp only [Option.bind_some]
    rw [if_neg (by simp; omega), p_heldIntS (k + 1 + x.2.1.length) x.2.2.1.length (by omega) (by omega)]
    simp only [Option.bind_some]
    rw [if_neg (by simp; omega)]
    have := ih (P ++ [(((Int.tmod k 3) == 0), mkS (k + 1) x.2.1.length, mkS (k + 1 + x.2.1.length) x.2.2.1.length, ())]) (k + 1 + x.2.1.length + x.2.2.1.length) (by omega) (by omega) (by simp; omega)
    rw [List.append_assoc, List.length_append] at this
    simp only [List.cons_append, List.nil_append, List.length_cons, List.length_nil, Nat.zero_add] at this
    rw [this]
    simp only [totL]
    rw [show k + 1 + (x.2.1.length : Int) + (x.2.2.1.length : Int) + (totL R : Int) = k + ((1 + x.2.1.length + x.2.2.1.length + totL R : Nat) : Int) by omega]
theorem p_heldLitS (a : List TLit) (k : Int) (h0 : 0 ≤ k) (hk : k + totL a ≤ 4611686018427387904) (hl : a.length ≤ 4611686018427387904) : c_laws_heldLitS M (mkL k a) k = some ((k + totL a, ()), ()) := by
  apply e_laws_heldLitS
  have := p_heldLitS_loop a [] k h0 hk (by simp; omega)
  simp only [List.nil_append, List.length_nil] at this
  rw [show ((0 : Nat) : Int) = 0 from rfl] at this
  simp only [q_laws_heldLitS, this, Option.bind_some, Sum.elim_inl]

end Go.Proofs.YtofkhmedmeihiaaAc.Ev

/- Plain laws: setting clauses apart: both programs do the same; FnExactApartClauses. No condition but sizes. -/
namespace Go.Proofs.YtofkhmedmeihiaaAc.Ev
open Go
set_option autoImplicit false
set_option linter.unusedVariables false
set_option linter.unusedSimpArgs false

/-! ### The variables of a clause, by the reference -/
def negs (t : List Int) : List Int := (t.filter fun n => decide (n < 0)).map fun n => -1 - n
theorem negs_neg {x : Int} (h : x < 0) (r : List Int) : negs (x :: r) = (-1 - x) :: negs r := by simp [negs, h]
theorem negs_pos {x : Int} (h : ¬ x < 0) (r : List Int) : negs (x :: r) = negs r := by simp [negs, h]
theorem negs_len (t : List Int) : (negs t).length ≤ t.length := by simp only [negs, List.length_map]; exact List.length_filter_le _ _
theorem mem_negs {t : List Int} {v : Int} : v ∈ negs t ↔ 0 ≤ v ∧ -1 - v ∈ t := by
  simp only [negs, List.mem_map, List.mem_filter, decide_eq_true_eq]
  constructor
  · rintro ⟨n, ⟨h1, h2⟩, rfl⟩
    exact ⟨by omega, by rw [show -1 - (-1 - n) = n by omega]; exact h1⟩
  · rintro ⟨h1, h2⟩
    exact ⟨-1 - v, ⟨h2, by omega⟩, by omega⟩
theorem p_l1VarsN_loop (t : List Int) (ht : t.length ≤ 400) (hw : ∀ n ∈ t, -1000 ≤ n) : ∀ k i : Nat, i + k = t.length → ∀ o : List Int, o.length ≤ i → l_spec_l1Vars_58 M o t t.length i = some (.inl ((negs (t.drop i)).foldl putN o, ())) := by
  intro k
  induction k with
  | zero =>
    intro i hi o ho
    obtain rfl : i = t.length := by omega
    exact el_spec_l1Vars_58 _ _ _ _ (by simp [ql_spec_l1Vars_58, negs])
  | succ k ih =>
    intro i hi o ho
    have h1 : i < t.length := by omega
    have hn := hw _ (List.getElem_mem h1)
    apply el_spec_l1Vars_58
    simp only [ql_spec_l1Vars_58]
    rw [if_pos (by simpa using h1), idx_lt h1, List.drop_eq_getElem_cons h1]
    simp only [Option.bind_some]
    by_cases hx : t[i] < 0
    · have hl := putN_len o (-1 - t[i])
      rw [if_pos (by simpa using hx), w64 (x := -1 - t[i]) (by omega) (by omega), p_putN o (by omega)]
      simp only [Option.bind_some, Sum.elim_inl]
      rw [inc_nat (by omega), ih (i + 1) (by omega) _ (by omega)]
      rw [negs_neg hx]
      rfl
    · rw [if_neg (by simpa using hx)]
      simp only [Option.bind_some, Sum.elim_inl]
      rw [inc_nat (by omega), ih (i + 1) (by omega) _ (by omega)]
      rw [negs_pos hx]
theorem p_l1VarsN (t : List Int) (ht : t.length ≤ 400) (hw : ∀ n ∈ t, -1000 ≤ n) : c_spec_l1Vars M t = some (((negs t).foldl putN [], ()), ()) := by
  apply e_spec_l1Vars
  have := p_l1VarsN_loop t ht hw t.length 0 (by omega) [] (by simp)
  rw [show ((0 : Nat) : Int) = 0 from rfl] at this
  simp only [q_spec_l1Vars, this, Option.bind_some, Sum.elim_inl, List.drop_zero]

/-- What is put for one literal. -/
def lvs (x : TLit) : List Int := (negs x.2.1).foldl putN [] ++ (negs x.2.2.1).foldl putN []
theorem mem_lvs {x : TLit} {v : Int} : v ∈ lvs x ↔ 0 ≤ v ∧ (-1 - v ∈ x.2.1 ∨ -1 - v ∈ x.2.2.1) := by
  simp only [lvs, List.mem_append, mem_foldPut, List.not_mem_nil, false_or, mem_negs]
  constructor
  · rintro (⟨h1, h2⟩ | ⟨h1, h2⟩)
    · exact ⟨h1, .inl h2⟩
    · exact ⟨h1, .inr h2⟩
  · rintro ⟨h1, h2 | h2⟩
    · exact .inl ⟨h1, h2⟩
    · exact .inr ⟨h1, h2⟩
theorem p_l4Vars_in (c : List TLit) (n j : Int) (vs : List Int) (hl : vs.length ≤ 500) : ∀ k i : Nat, i + k = vs.length → ∀ o : List Int, o.length ≤ 400 + i → l_spec_l4Vars_14950 M o c n j vs vs.length i = some (.inl ((vs.drop i).foldl putN o, c, n, j, ())) := by
  intro k
  induction k with
  | zero =>
    intro i hi o ho
    obtain rfl : i = vs.length := by omega
    exact el_spec_l4Vars_14950 _ _ _ _ _ _ _ (by simp [ql_spec_l4Vars_14950])
  | succ k ih =>
    intro i hi o ho
    have h1 : i < vs.length := by omega
    apply el_spec_l4Vars_14950
    simp only [ql_spec_l4Vars_14950]
    rw [if_pos (by simpa using h1), if_pos (by omega), Int.toNat_natCast, List.getElem?_eq_getElem h1]
    simp only [Option.bind_some, p_putN o (by omega)]
    have := putN_len o vs[i]
    rw [inc_nat (by omega), ih (i + 1) (by omega) _ (by omega), List.drop_eq_getElem_cons h1]
    rfl
/-- A literal whose terms are short and whose variables are few. -/
def liV (x : TLit) : Prop := x.2.1.length ≤ 40 ∧ x.2.2.1.length ≤ 40 ∧ (∀ n ∈ x.2.1, -12 ≤ n) ∧ ∀ n ∈ x.2.2.1, -12 ≤ n
theorem foldv (c : List TLit) (hc : ∀ x ∈ c, liV x) : ∀ o : List Int, Up o → (∀ v ∈ o, 0 ≤ v ∧ v ≤ 11) → Up (c.foldl (fun o x => (lvs x).foldl putN o) o) ∧ (∀ v ∈ c.foldl (fun o x => (lvs x).foldl putN o) o, 0 ≤ v ∧ v ≤ 11) ∧ ∀ v, v ∈ c.foldl (fun o x => (lvs x).foldl putN o) o ↔ v ∈ o ∨ ∃ x ∈ c, v ∈ lvs x := by
  induction c with
  | nil => intro o h1 h2; exact ⟨h1, h2, by simp⟩
  | cons x r ih =>
    intro o h1 h2
    have hx := hc x (by simp)
    have hb : ∀ v ∈ (lvs x).foldl putN o, 0 ≤ v ∧ v ≤ 11 := by
      intro v hv
      rcases (mem_foldPut _ _ _).1 hv with h | h
      · exact h2 v h
      · obtain ⟨a1, a2⟩ := mem_lvs.1 h
        rcases a2 with a2 | a2
        · have := hx.2.2.1 _ a2; omega
        · have := hx.2.2.2 _ a2; omega
    obtain ⟨g1, g2, g3⟩ := ih (fun y hy => hc y (by simp [hy])) _ (up_foldPut (lvs x) o h1) hb
    refine ⟨g1, g2, fun v => ?_⟩
    rw [List.foldl_cons, g3 v, mem_foldPut]
    simp only [List.mem_cons, exists_eq_or_imp, or_assoc]
theorem p_l4Vars_loop (c : List TLit) (hl : c.length ≤ 1000) (hc : ∀ x ∈ c, liV x) : ∀ k i : Nat, i + k = c.length → ∀ o : List Int, Up o → (∀ v ∈ o, 0 ≤ v ∧ v ≤ 11) → l_spec_l4Vars_58 M o c c.length i = some (.inl ((c.drop i).foldl (fun o x => (lvs x).foldl putN o) o, ())) := by
  intro k
  induction k with
  | zero =>
    intro i hi o ho hb
    obtain rfl : i = c.length := by omega
    exact el_spec_l4Vars_58 _ _ _ _ (by simp [ql_spec_l4Vars_58])
  | succ k ih =>
    intro i hi o ho hb
    have h1 : i < c.length := by omega
    have hx := hc _ (List.getElem_mem h1)
    have l1 := negs_len c[i].2.1
    have l2 := negs_len c[i].2.2.1
    have l3 := foldPut_len (negs c[i].2.1) []
    have l4 := foldPut_len (negs c[i].2.2.1) []
    have x1 := hx.1
    have x2 := hx.2.1
    simp only [List.length_nil] at l3 l4
    have ol := ho.len12 hb
    have step := foldv [c[i]] (by intro y hy; simp at hy; subst hy; exact hx) o ho hb
    simp only [List.foldl_cons, List.foldl_nil] at step
    apply el_spec_l4Vars_58
    simp only [ql_spec_l4Vars_58]
    rw [if_pos (by simpa using h1), idx_lt h1]
    simp only [Option.bind_some]
    rw [p_l1VarsN _ (by omega) (fun n hn => by have := hx.2.2.1 n hn; omega)]
    simp only [Option.bind_some]
    rw [p_l1VarsN _ (by omega) (fun n hn => by have := hx.2.2.2 n hn; omega)]
    simp only [Option.bind_some]
    rw [if_pos (by omega)]
    have hin := p_l4Vars_in c c.length i (lvs c[i]) (by simp only [lvs, List.length_append]; omega) (lvs c[i]).length 0 (by omega) o (by omega)
    rw [show ((0 : Nat) : Int) = 0 from rfl, List.drop_zero] at hin
    have hin' : l_spec_l4Vars_14950 M o c c.length i ((negs c[i].2.1).foldl putN [] ++ (negs c[i].2.2.1).foldl putN []) ((negs c[i].2.1).foldl putN [] ++ (negs c[i].2.2.1).foldl putN []).length 0 = some (.inl ((lvs c[i]).foldl putN o, c, c.length, i, ())) := hin
    rw [hin']
    simp only [Option.bind_some, Sum.elim_inl]
    rw [inc_nat (by omega), ih (i + 1) (by omega) _ step.1 step.2.1, List.drop_eq_getElem_cons h1]
    rfl
/-- The variables of a clause are the same by both programs. -/
theorem p_l4Vars (c : List TLit) (hl : c.length ≤ 1000) (hc : ∀ x ∈ c, liV x) : c_spec_l4Vars M c = some ((upTo (inV (tms c)), ()), ()) := by
  apply e_spec_l4Vars
  have := p_l4Vars_loop c hl hc c.length 0 (by omega) [] List.Pairwise.nil (by simp)
  rw [show ((0 : Nat) : Int) = 0 from rfl] at this
  simp only [q_spec_l4Vars, this, Option.bind_some, Sum.elim_inl, List.drop_zero]
  obtain ⟨g1, g2, g3⟩ := foldv c hc [] List.Pairwise.nil (by simp)
  congr 3
  refine Up.ext g1 (upTo_up _) fun v => ?_
  rw [g3 v, mem_upTo]
  simp only [List.not_mem_nil, false_or, mem_lvs, inV, List.any_eq_true, decide_eq_true_eq]
  constructor
  · rintro ⟨x, hx, h0, h⟩
    have hh := hc x hx
    refine ⟨h0, ?_, ?_⟩
    · rcases h with h | h
      · have := hh.2.2.1 _ h; omega
      · have := hh.2.2.2 _ h; omega
    · rcases h with h | h
      · exact ⟨_, mem_tms.2 ⟨x, hx, .inl rfl⟩, h⟩
      · exact ⟨_, mem_tms.2 ⟨x, hx, .inr rfl⟩, h⟩
  · rintro ⟨h0, _, t, ht, h⟩
    obtain ⟨x, hx, h1⟩ := mem_tms.1 ht
    rcases h1 with rfl | rfl
    · exact ⟨x, hx, h0, .inl h⟩
    · exact ⟨x, hx, h0, .inr h⟩

/-! ### How far -/
def far (L : List Int) : Int := match L.getLast? with
  | some v => v + 1
  | none => 0
theorem far_get {L : List Int} (h : 0 < L.length) : ∃ v, L[L.length - 1]? = some v ∧ far L = v + 1 ∧ v ∈ L := by
  have h1 : L.length - 1 < L.length := by omega
  refine ⟨L[L.length - 1], List.getElem?_eq_getElem h1, ?_, List.getElem_mem h1⟩
  unfold far
  rw [List.getLast?_eq_getElem?, List.getElem?_eq_getElem h1]
theorem far_rng {L : List Int} (h : ∀ v ∈ L, 0 ≤ v ∧ v ≤ 11) : 0 ≤ far L ∧ far L ≤ 12 := by
  by_cases h0 : 0 < L.length
  · obtain ⟨v, _, e, hv⟩ := far_get h0
    have := h v hv; omega
  · have : L = [] := List.length_eq_zero_iff.1 (by omega)
    subst this
    simp [far]
theorem p_l6Shift (c : List TLit) (hl : c.length ≤ 1000) (hc : ∀ x ∈ c, liV x) : c_spec_l6Shift M c = some ((far (upTo (inV (tms c))), ()), ()) := by
  apply e_spec_l6Shift
  simp only [q_spec_l6Shift, p_l4Vars c hl hc, Option.bind_some]
  have hlen := upTo_len (inV (tms c))
  by_cases h0 : 0 < (upTo (inV (tms c))).length
  · obtain ⟨v, e1, e2, hv⟩ := far_get h0
    have hb := mem_upTo.1 hv
    rw [if_neg (by simp; intro h; rw [h] at h0; simp at h0), w64 (by omega) (by omega), if_pos (by omega), show ((upTo (inV (tms c))).length : Int) - 1 = (((upTo (inV (tms c))).length - 1 : Nat) : Int) by omega, Int.toNat_natCast, e1]
    simp only [Option.bind_some]
    rw [w64 (by omega) (by omega), e2]
  · have : upTo (inV (tms c)) = [] := List.length_eq_zero_iff.1 (by omega)
    rw [this]
    simp [far]
/-- A clause with its variables further on. -/
def shl (by' : Int) (x : TLit) : TLit := (x.1, x.2.1.map (shn by'), x.2.2.1.map (shn by'), ())
theorem p_l6Apart_loop (s : TSign) (by' : Int) (h0 : 0 ≤ by') (h1 : by' ≤ 1000) (d : List TLit) (hl : d.length ≤ 1000) (hd : ∀ x ∈ d, x.2.1.length ≤ 1000 ∧ x.2.2.1.length ≤ 1000 ∧ (∀ n ∈ x.2.1, -1000 ≤ n ∧ n ≤ 1000) ∧ ∀ n ∈ x.2.2.1, -1000 ≤ n ∧ n ≤ 1000) : ∀ k i : Nat, i + k = d.length → ∀ o : List TLit, o.length = i → l_spec_l6Apart_122 M s by' o d d.length i = some (.inl (s, o ++ (d.drop i).map (shl by'), ())) := by
  intro k
  induction k with
  | zero =>
    intro i hi o ho
    obtain rfl : i = d.length := by omega
    exact el_spec_l6Apart_122 _ _ _ _ _ _ (by simp [ql_spec_l6Apart_122])
  | succ k ih =>
    intro i hi o ho
    have h2 : i < d.length := by omega
    obtain ⟨d1, d2, d3, d4⟩ := hd _ (List.getElem_mem h2)
    apply el_spec_l6Apart_122
    simp only [ql_spec_l6Apart_122]
    rw [if_pos (by simpa using h2), idx_lt h2]
    simp only [Option.bind_some]
    rw [p_l1Shift _ by' h0 h1 (by omega) (fun n hn => by have := d3 n hn; omega)]
    simp only [Option.bind_some]
    rw [p_l1Shift _ by' h0 h1 (by omega) (fun n hn => by have := d4 n hn; omega)]
    simp only [Option.bind_some]
    rw [if_pos (by simp; omega), inc_nat (by omega), sign_eta', ih (i + 1) (by omega) _ (by simp [ho]), List.drop_eq_getElem_cons h2, List.map_cons, List.append_assoc]
    rfl

/-! ### The program -/
theorem p_apart_loop (d : List TLit) (s : TSign) (by' : Int) (h0 : 0 ≤ by') (h1 : by' ≤ 1000) (ts : List (List Int)) (hl : ts.length ≤ 1000) (ht : ∀ t ∈ ts, t.length ≤ 1000 ∧ ∀ n ∈ t, -1000 ≤ n ∧ n ≤ 1000) : ∀ k i : Nat, i + k = ts.length →
    l_impl_Sign_apart_250 M d s by' ((ts.take i).map (fun t => (some (true, t.map (shn by')) : Option (Bool × List Int))) ++ (ts.drop i).map (fun t => some (false, t))) ts.length i = some (.inl (d, s, ts.map (fun t => some (true, t.map (shn by'))), ())) := by
  intro k
  induction k with
  | zero =>
    intro i hi
    obtain rfl : i = ts.length := by omega
    apply el_impl_Sign_apart_250
    simp [ql_impl_Sign_apart_250]
  | succ k ih =>
    intro i hi
    have h2 : i < ts.length := by omega
    obtain ⟨t1, t2⟩ := ht _ (List.getElem_mem h2)
    have hlen : ((ts.take i).map (fun t => (some (true, t.map (shn by')) : Option (Bool × List Int))) ++ (ts.drop i).map (fun t => some (false, t))).length = ts.length := by simp; omega
    have hget : ((ts.take i).map (fun t => (some (true, t.map (shn by')) : Option (Bool × List Int))) ++ (ts.drop i).map (fun t => some (false, t)))[i]? = some (some (false, ts[i])) := by
      rw [List.getElem?_append_right (by simp; omega)]
      simp [Nat.min_eq_left (Nat.le_of_lt h2), h2]
    have hsee : seeO ((ts.take i).map (fun t => (some (true, t.map (shn by')) : Option (Bool × List Int))) ++ (ts.drop i).map (fun t => some (false, t))) i = some ts[i] := by
      unfold seeO; rw [hget]
    have hnext : (ts.take (i + 1)).map (fun t => (some (true, t.map (shn by')) : Option (Bool × List Int))) ++ (ts.drop (i + 1)).map (fun t => some (false, t)) = ((ts.take i).map (fun t => (some (true, t.map (shn by')) : Option (Bool × List Int))) ++ (ts.drop i).map (fun t => some (false, t))).set i (some (true, ts[i].map (shn by'))) := by
      rw [List.take_succ_eq_append_getElem h2, List.map_append, List.set_append_right _ _ (by simp; omega)]
      have e : i - ((ts.take i).map (fun t => (some (true, t.map (shn by')) : Option (Bool × List Int)))).length = 0 := by simp; omega
      rw [e, List.drop_eq_getElem_cons h2]
      simp only [List.map_cons, List.map_nil, List.set_cons_zero, List.append_assoc, List.cons_append, List.nil_append]
    have ih' := ih (i + 1) (by omega)
    rw [hnext] at ih'
    apply el_impl_Sign_apart_250
    simp only [ql_impl_Sign_apart_250]
    rw [if_pos (by simpa using h2), if_pos (by rw [hlen]; omega), Int.toNat_natCast, hsee]
    simp only [Option.bind_some]
    rw [p_shift _ by' h0 h1 (by omega) (fun n hn => by have := t2 n hn; omega)]
    simp only [Option.bind_some]
    rw [if_pos (by rw [hlen]; omega), hget]
    simp only [Option.bind_some]
    rw [inc_nat (by omega), sign_eta']
    exact ih'
theorem allOw_map (f : List Int → List Int) (ts : List (List Int)) : allOw (ts.map fun t => (some (true, f t) : Option (Bool × List Int))) = true := by
  induction ts with
  | nil => rfl
  | cons t r ih => simpa [allOw] using ih
theorem forceL_map (f : List Int → List Int) (ts : List (List Int)) : forceL (ts.map fun t => (some (true, f t) : Option (Bool × List Int))) = ts.map f := by
  simp [forceL, List.map_map, Function.comp_def]
theorem wtZ_tms (f : List Int → List Int) (d : List TLit) : wtZ d ((tms d).map f) = d.map fun x => (x.1, f x.2.1, f x.2.2.1, ()) := by
  induction d with
  | nil => rfl
  | cons x r ih =>
    have : tms (x :: r) = [x.2.1, x.2.2.1] ++ tms r := rfl
    rw [this]
    simp only [List.cons_append, List.nil_append, List.map_cons, wtZ, ih]
theorem all_tms (s : List Int) (by' : Int) (d : List TLit) : ((tms d).map fun t => t.map (shn by')).all (isT s) = (d.map (shl by')).all (litOK s) := by
  induction d with
  | nil => rfl
  | cons x r ih =>
    have : tms (x :: r) = [x.2.1, x.2.2.1] ++ tms r := rfl
    rw [this]
    simp only [List.cons_append, List.nil_append, List.map_cons, List.all_cons, ih, shl, litOK, Bool.and_assoc]
theorem clOK_liV {a : List Int} {c : List TLit} (h : clOK a c = true) : c.length ≤ 8 ∧ ∀ x ∈ c, liV x := by
  simp only [clOK, Bool.and_eq_true, decide_eq_true_eq] at h
  refine ⟨h.1, fun x hx => ?_⟩
  have := (List.all_eq_true.1 h.2) x hx
  simp only [litOK, Bool.and_eq_true] at this
  obtain ⟨l1, l2⟩ := isT_rng this.1
  obtain ⟨r1, r2⟩ := isT_rng this.2
  exact ⟨l1, r1, fun n hn => (l2 n hn).1, fun n hn => (r2 n hn).1⟩
theorem clOK_rng {a : List Int} (hg : gS a = true) {c : List TLit} (h : clOK a c = true) : ∀ x ∈ c, x.2.1.length ≤ 1000 ∧ x.2.2.1.length ≤ 1000 ∧ (∀ n ∈ x.2.1, -1000 ≤ n ∧ n ≤ 1000) ∧ ∀ n ∈ x.2.2.1, -1000 ≤ n ∧ n ≤ 1000 := by
  have hal : a.length ≤ 10 := by
    simp only [gS, Bool.and_eq_true, decide_eq_true_eq] at hg
    omega
  simp only [clOK, Bool.and_eq_true, decide_eq_true_eq] at h
  intro x hx
  have := (List.all_eq_true.1 h.2) x hx
  simp only [litOK, Bool.and_eq_true] at this
  obtain ⟨l1, l2⟩ := isT_rng this.1
  obtain ⟨r1, r2⟩ := isT_rng this.2
  exact ⟨by omega, by omega, fun n hn => by have := l2 n hn; omega, fun n hn => by have := r2 n hn; omega⟩

/-- The clause that is set apart from another one. -/
def apartC (c d : List TLit) : List TLit := d.map (shl (far (upTo (inV (tms c)))))
theorem p_impl_apart (s : TSign) (hg : gS s.1 = true) (c d : List TLit) (hc : clOK s.1 c = true) (hd : clOK s.1 d = true) : c_impl_Sign_apart M s c d = some (if (apartC c d).all (litOK s.1) = true then ((apartC c d, true, ()), ()) else (([], false, ()), ())) := by
  obtain ⟨c1, c2⟩ := clOK_liV hc
  obtain ⟨d1, _⟩ := clOK_liV hd
  have d2 := clOK_rng hg hd
  have hv := p_varsIn (tms c) (by rw [tms_len]; omega) (by
    intro t ht
    obtain ⟨x, hx, h⟩ := mem_tms.1 ht
    have := c2 x hx
    rcases h with rfl | rfl
    · have := this.1; omega
    · have := this.2.1; omega)
  have hf := far_rng (L := upTo (inV (tms c))) (fun v hv => ⟨(mem_upTo.1 hv).1, (mem_upTo.1 hv).2.1⟩)
  have hlen := upTo_len (inV (tms c))
  have hloop := p_apart_loop d s (far (upTo (inV (tms c)))) hf.1 (by omega) (tms d) (by rw [tms_len]; omega) (by
    intro t ht
    obtain ⟨x, hx, h⟩ := mem_tms.1 ht
    obtain ⟨e1, e2, e3, e4⟩ := d2 x hx
    rcases h with rfl | rfl
    · exact ⟨e1, e3⟩
    · exact ⟨e2, e4⟩) (tms d).length 0 (by omega)
  rw [show ((0 : Nat) : Int) = 0 from rfl] at hloop
  simp only [List.take_zero, List.map_nil, List.nil_append, List.drop_zero] at hloop
  apply e_impl_Sign_apart
  simp only [q_impl_Sign_apart, p_termsOf c (by omega), Option.bind_some, hv, sign_eta']
  have rest : ∀ b : Int, b = far (upTo (inV (tms c))) → ((c_impl_termsOf M d).bind fun r5 => ((l_impl_Sign_apart_250 M d s b (List.map (fun x => (some (false, x) : Option (Bool × List Int))) r5.1.1) (List.length r5.1.1 : Int) (0 : Int)).bind (Sum.elim (fun y6 => (if allOw y6.2.2.1 = true then ((c_impl_Sign_areTerms M y6.2.1 (forceL y6.2.2.1)).bind fun r8 => (if (!r8.1.1) = true then (some (([], false, ()), ())) else ((c_impl_withTerms M y6.1 (forceL y6.2.2.1)).bind fun r9 => (some ((r9.1.1, true, ()), ()))))) else none)) (fun r7 => (some r7)))) : Option ((List TLit × Bool × Unit) × Unit)) = some (if (apartC c d).all (litOK s.1) = true then ((apartC c d, true, ()), ()) else (([], false, ()), ())) := by
    intro b hb
    subst hb
    rw [p_termsOf d (by omega)]
    simp only [Option.bind_some, hloop, Sum.elim_inl]
    rw [if_pos (allOw_map _ _), forceL_map, p_areTerms s hg _ (by simp only [List.length_map, tms_len]; omega)]
    simp only [Option.bind_some, all_tms]
    show _ = some (if ((d.map (shl (far (upTo (inV (tms c)))))).all (litOK s.1)) = true then _ else _)
    cases hh : (d.map (shl (far (upTo (inV (tms c)))))).all (litOK s.1) with
    | false => rfl
    | true =>
      simp only [Bool.not_true, Bool.false_eq_true, if_false, if_true]
      rw [p_withTerms d _ (by omega) (by simp only [List.length_map, tms_len]; omega), wtZ_tms]
      rfl
  by_cases h0 : 0 < (upTo (inV (tms c))).length
  · obtain ⟨v, e1, e2, hv⟩ := far_get h0
    have hb := mem_upTo.1 hv
    rw [if_pos (by simp; omega), w64 (by omega) (by omega), if_pos (by omega), show ((upTo (inV (tms c))).length : Int) - 1 = (((upTo (inV (tms c))).length - 1 : Nat) : Int) by omega, Int.toNat_natCast, e1]
    simp only [Option.bind_some, Sum.elim_inl]
    exact rest _ (by rw [w64 (x := v + 1) (by omega) (by omega), e2])
  · rw [if_neg (by rw [decide_eq_true_eq]; omega)]
    simp only [Option.bind_some, Sum.elim_inl]
    refine rest 0 ?_
    have : upTo (inV (tms c)) = [] := List.length_eq_zero_iff.1 (by omega)
    rw [this]; rfl
theorem p_spec_apart (s : TSign) (hg : gS s.1 = true) (c d : List TLit) (hc : clOK s.1 c = true) (hd : clOK s.1 d = true) : c_spec_l6Apart M s c d = some (if (apartC c d).all (litOK s.1) = true then ((apartC c d, true, ()), ()) else (([], false, ()), ())) := by
  obtain ⟨c1, c2⟩ := clOK_liV hc
  obtain ⟨d1, _⟩ := clOK_liV hd
  have d2 := clOK_rng hg hd
  have hf := far_rng (L := upTo (inV (tms c))) (fun v hv => ⟨(mem_upTo.1 hv).1, (mem_upTo.1 hv).2.1⟩)
  have hloop := p_l6Apart_loop s (far (upTo (inV (tms c)))) hf.1 (by omega) d (by omega) d2 d.length 0 (by omega) [] rfl
  rw [show ((0 : Nat) : Int) = 0 from rfl] at hloop
  simp only [List.nil_append, List.drop_zero] at hloop
  have hsm : ∀ x ∈ d.map (shl (far (upTo (inV (tms c))))), smL x := by
    intro x hx
    obtain ⟨y, hy, rfl⟩ := List.mem_map.1 hx
    obtain ⟨e1, e2, _, _⟩ := d2 y hy
    exact ⟨by simp [shl]; omega, by simp [shl]; omega⟩
  apply e_spec_l6Apart
  simp only [q_spec_l6Apart, p_l6Shift c (by omega) c2, Option.bind_some, sign_eta', hloop, Sum.elim_inl]
  have hm : c_spec_l4Made M s (d.map (shl (far (upTo (inV (tms c)))))) = some (if (apartC c d).all (litOK s.1) = true then ((apartC c d, true, ()), ()) else (([], false, ()), ())) := by
    apply e_spec_l4Made
    simp only [q_spec_l4Made, sign_eta', p_l4Clause s hg _ (by simp; omega) hsm, Option.bind_some]
    have : clOK s.1 (d.map (shl (far (upTo (inV (tms c)))))) = (apartC c d).all (litOK s.1) := by
      simp only [clOK, List.length_map, decide_eq_true d1, Bool.true_and]; rfl
    rw [this]
    cases (apartC c d).all (litOK s.1) <;> rfl
  rw [hm]
  cases (apartC c d).all (litOK s.1) <;> rfl

theorem p_ApartClausess (s : TSign) (hs : s.1.length ≤ 1048576) (c d : List TLit) (hc : c.length ≤ 1048576) (hcx : ∀ x ∈ c, smL x) (hd : d.length ≤ 1048576) (hdx : ∀ x ∈ d, smL x) : ∃ r : (List TLit × Bool × Unit) × Unit, c_spec_ApartClauses M s c d = some r ∧ c_impl_ApartClauses M s c d = some r ∧ r.1.1.length ≤ 8 ∧ ∀ x ∈ r.1.1, smL x := by
  cases h1 : (gS s.1 && clOK s.1 c) with
  | false =>
    refine ⟨(([], false, ()), ()), e_spec_ApartClauses _ _ _ ?_, e_impl_ApartClauses _ _ _ ?_, by simp, by simp⟩
    · simp only [q_spec_ApartClauses, sign_eta', p_spec_GoodClause s hs c hc hcx, h1, Option.bind_some]; rfl
    · simp only [q_impl_ApartClauses, sign_eta', p_impl_GoodClause s hs c hc, h1, Option.bind_some]; rfl
  | true =>
    have h1' := h1
    simp only [Bool.and_eq_true] at h1'
    obtain ⟨hg, h2⟩ := h1'
    cases h3 : clOK s.1 d with
    | false =>
      refine ⟨(([], false, ()), ()), e_spec_ApartClauses _ _ _ ?_, e_impl_ApartClauses _ _ _ ?_, by simp, by simp⟩
      · simp only [q_spec_ApartClauses, sign_eta', p_spec_GoodClause s hs c hc hcx, h1, Option.bind_some, p_l4Clause s hg d hd hdx, h3]; rfl
      · simp only [q_impl_ApartClauses, sign_eta', p_impl_GoodClause s hs c hc, h1, Option.bind_some, p_isClause s hg d hd, h3]; rfl
    | true =>
      refine ⟨if (apartC c d).all (litOK s.1) = true then ((apartC c d, true, ()), ()) else (([], false, ()), ()), e_spec_ApartClauses _ _ _ ?_, e_impl_ApartClauses _ _ _ ?_, ?_, ?_⟩
      · simp only [q_spec_ApartClauses, sign_eta', p_spec_GoodClause s hs c hc hcx, h1, Option.bind_some, p_l4Clause s hg d hd hdx, h3, p_spec_apart s hg c d h2 h3]
        cases (apartC c d).all (litOK s.1) <;> rfl
      · simp only [q_impl_ApartClauses, sign_eta', p_impl_GoodClause s hs c hc, h1, Option.bind_some, p_isClause s hg d hd, h3, p_impl_apart s hg c d h2 h3]
        cases (apartC c d).all (litOK s.1) <;> rfl
      · have := (clOK_liV h3).1
        split
        · simp [apartC]; omega
        · simp
      · have d2 := clOK_rng hg h3
        split
        · intro x hx
          obtain ⟨y, hy, rfl⟩ := List.mem_map.1 (show x ∈ d.map _ from hx)
          obtain ⟨e1, e2, _, _⟩ := d2 y hy
          exact ⟨by simp [shl]; omega, by simp [shl]; omega⟩
        · simp

theorem p_FnExactApartClauses (s : TSign) (c d : List TLit) (hs : s.1.length ≤ 9223372036854775807) (hc : c.length ≤ 9223372036854775807) (hx : ∀ x ∈ c, wlL x) (hd : d.length ≤ 9223372036854775807) (hy : ∀ x ∈ d, wlL x) : c_laws_FnExactApartClauses M s c d = some ((true, ()), ()) := by
  obtain ⟨r1, e1, g1, k1⟩ := p_szSign s 1048576 (by omega) (by omega) hs
  apply e_laws_FnExactApartClauses
  by_cases h1 : r1 < 0
  · simp only [q_laws_FnExactApartClauses, sign_eta', e1, Option.bind_some]
    rw [if_pos (by simpa using h1)]
  · obtain ⟨r2, e2, g2, k2⟩ := p_szLitS c r1 (by omega) g1 hc hx
    by_cases h2 : r2 < 0
    · simp only [q_laws_FnExactApartClauses, sign_eta', e1, e2, Option.bind_some]
      rw [if_neg (by simpa using h1), if_pos (by simpa using h2)]
    · obtain ⟨r3, e3, g3, k3⟩ := p_szLitS d r2 (by omega) (by omega) hd hy
      by_cases h3 : r3 < 0
      · simp only [q_laws_FnExactApartClauses, sign_eta', e1, e2, e3, Option.bind_some]
        rw [if_neg (by simpa using h1), if_neg (by simpa using h2), if_pos (by simpa using h3)]
      · have hs' := k1 (by omega)
        obtain ⟨hc', hx'⟩ := k2 (by omega)
        obtain ⟨hd', hy'⟩ := k3 (by omega)
        obtain ⟨r, t1, t2, o1, o2⟩ := p_ApartClausess s hs' c d hc' hx' hd' hy'
        have b1 := totL_le c hx'
        have b3 := totL_le d hy'
        have b2 := totL_le r.1.1 o2
        have m1 := p_markSign s 1 (by omega) (by omega)
        have m2 := p_markLitS c (1 + s.1.length) (by omega) (by omega) (by omega)
        have m2' := p_markLitS d (1 + s.1.length + totL c) (by omega) (by omega) (by omega)
        have m3 := p_markLitS r.1.1 1 (by omega) (by omega) (by omega)
        have m4 := p_heldLitS r.1.1 1 (by omega) (by omega) (by omega)
        simp only [q_laws_FnExactApartClauses, sign_eta', e1, e2, e3, Option.bind_some, p_toSign s (by omega), p_toLitS c hc' hx', p_toLitS d hd' hy', t1, t2, p_eqSign s (by omega), p_eqLitS c hc' hx', p_eqLitS d hd' hy', p_eqLitS r.1.1 (by omega) o2, m1, m2, m2', m3, m4]
        rw [if_neg (by simpa using h1), if_neg (by simpa using h2), if_neg (by simpa using h3)]
        simp
        rw [if_neg (by omega), if_neg (by omega), if_neg (by omega)]
end Go.Proofs.YtofkhmedmeihiaaAc.Ev
