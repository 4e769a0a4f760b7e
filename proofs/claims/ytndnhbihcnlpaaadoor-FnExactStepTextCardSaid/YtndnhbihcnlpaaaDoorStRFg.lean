/- Texts laid together: PAa, PBa, PB, PAb, PCa, PC, PEb, PEf, PEg, RFb, PA, PDe, PD, RFe, RFf, RFg; no condition but those that each theorem names. -/
import Derived.Test.YtndnhbihcnlpaaaDoorStEq
import Derived.Lib.ItoaNum
/- Plain laws: numbers and rows. No condition but sizes. -/
namespace Go.Proofs.YtndnhbihcnlpaaaDoorSt.Ev
open Go
set_option autoImplicit false
set_option linter.unusedVariables false
set_option linter.unusedSimpArgs false

theorem w64 {x : Int} (h : -9223372036854775808 ≤ x) (k : x < 9223372036854775808) : IntKind.i64.wrap x = x := by
  rw [IntKind.wrap_i64]
  omega
theorem w8 {x : Int} (h : 0 ≤ x) (k : x < 256) : IntKind.u8.wrap x = x := by
  simp only [IntKind.wrap, IntKind.bits, IntKind.signed, Bool.false_and, Bool.false_eq_true, if_false]
  omega
theorem idx_nat {α : Type} (xs : List α) (i : Nat) : idx xs (i : Int) = xs[i]? := by simp [idx]
theorem idx_zero {α : Type} (xs : List α) : idx xs 0 = xs[0]? := by simp [idx]
theorem idx_lt {α : Type} {xs : List α} {i : Nat} (h : i < xs.length) : idx xs (i : Int) = some xs[i] := by simp [idx, h]
theorem inc_nat {i : Nat} (h : i < 4611686018427387904) : IntKind.i64.wrap ((i : Int) + 1) = ((i + 1 : Nat) : Int) := by
  rw [w64 (by omega) (by omega)]; rfl

abbrev TSign := List Int × Unit
abbrev TLit := Bool × List Int × List Int × Unit

/-- Lists of no more than 2^20 numbers. -/
def smL (x : TLit) : Prop := x.2.1.length ≤ 1048576 ∧ x.2.2.1.length ≤ 1048576

end Go.Proofs.YtndnhbihcnlpaaaDoorSt.Ev

/- Plain laws: good signatures. No condition but sizes. -/
namespace Go.Proofs.YtndnhbihcnlpaaaDoorSt.Ev
open Go
set_option autoImplicit false
set_option linter.unusedVariables false
set_option linter.unusedSimpArgs false

theorem p_l1In (x lo hi : Int) : c_spec_l1In M x lo hi = some ((decide (lo ≤ x) && decide (x ≤ hi), ()), ()) := by
  apply e_spec_l1In
  simp only [q_spec_l1In, decide_eq_true_eq]
  by_cases h : x ≥ lo
  · rw [if_pos h]; simp [h]
  · rw [if_neg h]; simp; omega

theorem p_l1All_loop (a : List Int) (lo up : Int) (ha : a.length ≤ 17592186044416) : ∀ k i : Nat, i + k = a.length → l_spec_l1All_26 M lo up a a.length i = some (if (a.drop i).all (fun x => decide (lo ≤ x) && decide (x ≤ up)) = true then .inl () else .inr ((false, ()), ())) := by
  intro k
  induction k with
  | zero =>
    intro i hi
    obtain rfl : i = a.length := by omega
    apply el_spec_l1All_26
    simp [ql_spec_l1All_26]
  | succ k ih =>
    intro i hi
    apply el_spec_l1All_26
    have h1 : i < a.length := by omega
    simp only [ql_spec_l1All_26]
    rw [if_pos (by simpa using h1), idx_lt h1, inc_nat (by omega)]
    simp only [Option.bind_some, p_l1In, ih (i + 1) (by omega)]
    rw [List.drop_eq_getElem_cons h1, List.all_cons]
    generalize (decide (lo ≤ a[i]) && decide (a[i] ≤ up)) = b
    cases b <;> rfl

theorem p_l1All (a : List Int) (lo hi : Int) (ha : a.length ≤ 17592186044416) : c_spec_l1All M a lo hi = some ((a.all (fun x => decide (lo ≤ x) && decide (x ≤ hi)), ()), ()) := by
  apply e_spec_l1All
  simp only [q_spec_l1All]
  have := p_l1All_loop a lo hi ha a.length 0 (by omega)
  rw [show ((0 : Nat) : Int) = 0 from rfl] at this
  rw [this, List.drop_zero]
  cases a.all (fun x => decide (lo ≤ x) && decide (x ≤ hi)) <;> simp

/-- A signature that is good. -/
def gS (a : List Int) : Bool := decide (1 ≤ a.length) && (decide (a.length ≤ 10) && (a.all (fun x => decide (0 ≤ x) && decide (x ≤ 3)) && decide (a[0]? = some 0)))

theorem p_spec_GoodSign (s : TSign) (ha : s.1.length ≤ 17592186044416) : c_spec_GoodSign M s = some ((gS s.1, ()), ()) := by
  apply e_spec_GoodSign
  simp only [q_spec_GoodSign, p_l1In, p_l1All s.1 0 3 ha, Option.bind_some, gS]
  rcases hs : s.1 with _ | ⟨x, r⟩
  · simp
  · rw [idx_zero]
    simp only [List.length_cons, List.getElem?_cons_zero, Option.bind_some]
    by_cases h : r.length + 1 ≤ 10
    · rw [if_pos (by simp; omega)]
      cases (x :: r).all (fun x => decide (0 ≤ x) && decide (x ≤ 3)) <;> simp [h]
      rw [Bool.eq_iff_iff]; simp
    · rw [if_neg (by simp; omega)]
      simp [h]

theorem p_gs1 (x : Int) : c_impl_GoodSign_1 M x = some ((!(decide (0 ≤ x) && decide (x ≤ 3)), ()), ()) := by
  apply e_impl_GoodSign_1
  simp only [q_impl_GoodSign_1, decide_eq_true_eq]
  by_cases h : x < 0
  · rw [if_pos h]; simp; omega
  · rw [if_neg h]
    have h0 : 0 ≤ x := by omega
    rw [decide_eq_true h0, Bool.true_and]
    by_cases h3 : x ≤ 3
    · rw [decide_eq_true h3, decide_eq_false (by omega)]; rfl
    · rw [decide_eq_false h3, decide_eq_true (by omega)]; rfl

theorem p_gsIdx_loop (a : List Int) (ha : a.length ≤ 17592186044416) : ∀ k i : Nat, i + k = a.length → ∃ r, l_slices_IndexFunc_int_int__impl_GoodSign_1_26 M a () a.length i = some r ∧ (match r with | .inl _ => (a.drop i).all (fun x => decide (0 ≤ x) && decide (x ≤ 3)) = true | .inr r => 0 ≤ r.1.1 ∧ (a.drop i).all (fun x => decide (0 ≤ x) && decide (x ≤ 3)) = false) := by
  intro k
  induction k with
  | zero =>
    intro i hi
    obtain rfl : i = a.length := by omega
    refine ⟨.inl (), el_slices_IndexFunc_int_int__impl_GoodSign_1_26 _ _ _ _ (by simp [ql_slices_IndexFunc_int_int__impl_GoodSign_1_26]), by simp⟩
  | succ k ih =>
    intro i hi
    have h1 : i < a.length := by omega
    obtain ⟨r, hr, hm⟩ := ih (i + 1) (by omega)
    rw [List.drop_eq_getElem_cons h1, List.all_cons]
    by_cases hp : (decide (0 ≤ a[i]) && decide (a[i] ≤ 3)) = true
    · refine ⟨r, el_slices_IndexFunc_int_int__impl_GoodSign_1_26 _ _ _ _ ?_, by rw [hp, Bool.true_and]; exact hm⟩
      simp only [ql_slices_IndexFunc_int_int__impl_GoodSign_1_26]
      rw [if_pos (by simpa using h1), idx_lt h1, inc_nat (by omega)]
      simp only [Option.bind_some, p_gs1, hp, Bool.not_true, Bool.false_eq_true, if_false]
      exact hr
    · rw [Bool.not_eq_true] at hp
      refine ⟨.inr (((i : Int), ()), ()), el_slices_IndexFunc_int_int__impl_GoodSign_1_26 _ _ _ _ ?_, Int.natCast_nonneg i, by rw [hp, Bool.false_and]⟩
      simp only [ql_slices_IndexFunc_int_int__impl_GoodSign_1_26]
      rw [if_pos (by simpa using h1), idx_lt h1]
      simp only [Option.bind_some, p_gs1, hp, Bool.not_false, if_true]

theorem p_gsContains (a : List Int) (ha : a.length ≤ 17592186044416) : c_slices_ContainsFunc_int_int__impl_GoodSign_1 M a () = some ((!(a.all (fun x => decide (0 ≤ x) && decide (x ≤ 3))), ()), ()) := by
  apply e_slices_ContainsFunc_int_int__impl_GoodSign_1
  simp only [q_slices_ContainsFunc_int_int__impl_GoodSign_1]
  obtain ⟨r, hr, hm⟩ := p_gsIdx_loop a ha a.length 0 (by omega)
  rw [show ((0 : Nat) : Int) = 0 from rfl] at hr
  rw [List.drop_zero] at hm
  cases r with
  | inl r =>
    rw [e_slices_IndexFunc_int_int__impl_GoodSign_1 a () (r := ((-1, ()), ())) (by simp only [q_slices_IndexFunc_int_int__impl_GoodSign_1, hr, Option.bind_some, Sum.elim_inl])]
    simp only at hm
    simp [hm]
  | inr r =>
    rw [e_slices_IndexFunc_int_int__impl_GoodSign_1 a () (r := r) (by simp only [q_slices_IndexFunc_int_int__impl_GoodSign_1, hr, Option.bind_some, Sum.elim_inr])]
    simp only at hm
    simp [hm]

theorem p_impl_GoodSign (s : TSign) (ha : s.1.length ≤ 17592186044416) : c_impl_GoodSign M s = some ((gS s.1, ()), ()) := by
  apply e_impl_GoodSign
  simp only [q_impl_GoodSign, p_gsContains s.1 ha, Option.bind_some, gS, decide_eq_true_eq]
  rcases hs : s.1 with _ | ⟨x, r⟩
  · simp
  · rw [idx_zero]
    simp only [List.length_cons, List.getElem?_cons_zero, Option.bind_some]
    rw [if_neg (by omega)]
    by_cases h : r.length + 1 ≤ 10
    · rw [if_neg (by omega)]
      by_cases hx : x = 0
      · subst hx; simp [h]
      · rw [if_pos (by simpa using hx)]; simp [hx]
    · rw [if_pos (by omega)]
      simp [h]

theorem sign_eta (x : TSign) : (x.1, ()) = x := rfl
theorem lit_eta (x : TLit) : (x.1, x.2.1, x.2.2.1, ()) = x := rfl
theorem sign_eta' (x : TSign) : (x.1, ()) = x := rfl

end Go.Proofs.YtndnhbihcnlpaaaDoorSt.Ev

/- Plain laws: signatures and terms: both programs tell the same signatures and terms. No condition but sizes. -/
namespace Go.Proofs.YtndnhbihcnlpaaaDoorSt.Ev
open Go
set_option autoImplicit false
set_option linter.unusedVariables false
set_option linter.unusedSimpArgs false

/-! ### Terms -/
def ar (a : List Int) (n : Int) : Int := if n < 0 then 0 else (a[n.toNat]?).getD 0
def badN (a : List Int) (n : Int) : Prop := n < -12 ∨ (a.length : Int) ≤ n
instance (a : List Int) (n : Int) : Decidable (badN a n) := inferInstanceAs (Decidable (_ ∨ _))
/-- What stands behind some terms. -/
def sE (a : List Int) : Int → List Int → Option (List Int)
  | k, [] => if k ≤ 0 then some [] else none
  | k, n :: t => if k ≤ 0 then some (n :: t) else if badN a n then none else sE a (k - 1 + ar a n) t

theorem ar_ge {a : List Int} (hg : gS a = true) (n : Int) : 0 ≤ ar a n ∧ ar a n ≤ 3 := by
  unfold ar
  split
  · omega
  · cases h : a[n.toNat]? with
    | none => simp
    | some x =>
      simp only [gS, Bool.and_eq_true, List.all_eq_true, decide_eq_true_eq] at hg
      have := hg.2.2.1 x (List.mem_of_getElem? h)
      simpa using this
theorem idx_ar {a : List Int} {n : Int} (h : ¬ badN a n) (h0 : ¬ n < 0) : idx a n = some (ar a n) := by
  unfold badN at h
  have h1 : n.toNat < a.length := by omega
  unfold ar idx
  rw [if_pos (by omega), if_neg h0, List.getElem?_eq_getElem h1]
  rfl

theorem sE_zero (a : List Int) (t : List Int) : sE a 0 t = some t := by cases t <;> simp [sE]
theorem sE_app {a : List Int} (hg : gS a = true) : ∀ (u : List Int) (j k : Int) (x : List Int), 0 ≤ j → 0 ≤ k → sE a j u = some [] → sE a (j + k) (u ++ x) = sE a k x := by
  intro u
  induction u with
  | nil =>
    intro j k x hj hk h
    simp only [sE] at h
    split at h
    · obtain rfl : j = 0 := by omega
      simp
    · cases h
  | cons n u ih =>
    intro j k x hj hk h
    simp only [sE] at h
    split at h
    · cases h
    · rename_i hj'
      split at h
      · cases h
      · rename_i hb
        have hn := ar_ge hg n
        rw [List.cons_append]
        conv => lhs; unfold sE
        rw [if_neg (by omega), if_neg hb]
        have := ih (j - 1 + ar a n) k x (by omega) hk h
        rw [← this]
        congr 1; omega
theorem sE_split {a : List Int} (hg : gS a = true) : ∀ (t : List Int) (j k : Int) (r : List Int), 0 ≤ j → 0 ≤ k → sE a (j + k) t = some r → ∃ u x, t = u ++ x ∧ sE a j u = some [] ∧ sE a k x = some r := by
  intro t
  induction t with
  | nil =>
    intro j k r hj hk h
    simp only [sE] at h
    split at h
    · obtain rfl : j = 0 := by omega
      obtain rfl : k = 0 := by omega
      exact ⟨[], [], rfl, by simp [sE], by simpa [sE] using h⟩
    · cases h
  | cons n t ih =>
    intro j k r hj hk h
    by_cases h0 : j = 0
    · subst h0
      exact ⟨[], n :: t, rfl, by simp [sE], by simpa using h⟩
    · simp only [sE] at h
      split at h
      · omega
      · split at h
        · cases h
        · rename_i hb
          have hn := ar_ge hg n
          obtain ⟨u, x, rfl, h1, h2⟩ := ih (j - 1 + ar a n) k r (by omega) hk (by rw [← h]; congr 1; omega)
          refine ⟨n :: u, x, rfl, ?_, h2⟩
          unfold sE
          rw [if_neg (by omega), if_neg hb]
          exact h1
/-- A term. -/
abbrev Tm (a : List Int) (u : List Int) : Prop := sE a 1 u = some []
theorem sE_kids {a : List Int} (hg : gS a = true) : ∀ (k : Nat) (t r : List Int), sE a k t = some r → ∃ us : List (List Int), us.length = k ∧ t = us.flatten ++ r ∧ ∀ u ∈ us, Tm a u := by
  intro k
  induction k with
  | zero =>
    intro t r h
    rw [show ((0 : Nat) : Int) = 0 from rfl, sE_zero] at h
    obtain rfl := Option.some.inj h
    exact ⟨[], rfl, rfl, by simp⟩
  | succ k ih =>
    intro t r h
    obtain ⟨u, x, rfl, h1, h2⟩ := sE_split hg t 1 k r (by omega) (by omega) (by rw [← h]; congr 1; omega)
    obtain ⟨us, hl, rfl, hu⟩ := ih x r h2
    exact ⟨u :: us, by simp [hl], by simp, by simpa using ⟨h1, hu⟩⟩
theorem Tm.parts {a : List Int} (hg : gS a = true) {u : List Int} (h : Tm a u) : ∃ (n : Int) (us : List (List Int)), u = n :: us.flatten ∧ ¬ badN a n ∧ (us.length : Int) = ar a n ∧ ∀ v ∈ us, Tm a v := by
  cases u with
  | nil => simp [Tm, sE] at h
  | cons n t =>
    simp only [Tm, sE] at h
    rw [if_neg (by omega)] at h
    split at h
    · cases h
    · rename_i hb
      have hn := ar_ge hg n
      obtain ⟨us, hl, ht, hu⟩ := sE_kids hg (ar a n).toNat t [] (by rw [← h]; congr 1; omega)
      exact ⟨n, us, by rw [ht]; simp, hb, by omega, hu⟩
theorem Tm.rest {a : List Int} (hg : gS a = true) {u : List Int} (h : Tm a u) (x : List Int) : sE a 1 (u ++ x) = some x := by
  have := sE_app hg u 1 0 x (by omega) (by omega) h
  rw [sE_zero] at this
  simpa using this
theorem Tm.pos {a u : List Int} (h : Tm a u) : 0 < u.length := by
  cases u with
  | nil => simp [Tm, sE] at h
  | cons n t => simp

theorem p_l1End_loop (s : TSign) (hg : gS s.1 = true) (t : List Int) (ht : t.length ≤ 1048576) : ∀ (k i : Nat) (need : Int), i + k = t.length → 0 ≤ need → need + 3 * k ≤ 4000000 →
    l_spec_l1End_28 M t i s need = some (match sE s.1 need (t.drop i) with | none => .inr (((-1 : Int), ()), ()) | some r => .inl ((t.length : Int) - r.length, ())) := by
  have hs : s.1.length ≤ 10 := by simp only [gS, Bool.and_eq_true, decide_eq_true_eq] at hg; exact hg.2.1
  intro k
  induction k with
  | zero =>
    intro i need hi h0 hn
    obtain rfl : i = t.length := by omega
    apply el_spec_l1End_28
    simp only [ql_spec_l1End_28, List.drop_length, sE, decide_eq_true_eq]
    by_cases h : need > 0
    · rw [if_pos h, if_pos (by omega), if_neg (by omega)]
    · rw [if_neg h, if_pos (by omega)]; simp
  | succ k ih =>
    intro i need hi h0 hn
    apply el_spec_l1End_28
    have h1 : i < t.length := by omega
    rw [List.drop_eq_getElem_cons h1]
    simp only [ql_spec_l1End_28, sE, decide_eq_true_eq]
    by_cases h : need > 0
    · rw [if_pos h, if_neg (by omega), if_neg (by omega), idx_lt h1]
      simp only [Option.bind_some, p_l1In]
      rw [w64 (x := (s.1.length : Int) - 1) (by omega) (by omega)]
      by_cases hb : badN s.1 t[i]
      · rw [if_pos hb, if_pos (by unfold badN at hb; simp; omega)]
      · rw [if_neg hb, if_neg (by unfold badN at hb; simp; omega)]
        have ha := ar_ge hg t[i]
        have hw : IntKind.i64.wrap (need - 1) = need - 1 := w64 (by omega) (by omega)
        by_cases hx : t[i] ≥ 0
        · rw [if_pos hx, idx_ar hb (by omega), hw]
          simp only [Option.bind_some, Sum.elim_inl]
          rw [w64 (x := need - 1 + _) (by omega) (by omega), inc_nat (by omega)]
          exact ih (i + 1) _ (by omega) (by omega) (by omega)
        · have : ar s.1 t[i] = 0 := by unfold ar; rw [if_pos (by omega)]
          rw [if_neg hx, hw, this]
          simp only [Option.bind_some, Sum.elim_inl]
          rw [inc_nat (by omega), Int.add_zero]
          exact ih (i + 1) _ (by omega) (by omega) (by omega)
    · rw [if_neg h, if_pos (by omega)]
      simp only [List.length_cons, List.length_drop]
      congr 3
      omega

theorem p_l1End (s : TSign) (hg : gS s.1 = true) (t : List Int) (i : Nat) (hi : i ≤ t.length) (ht : t.length ≤ 1048576) :
    c_spec_l1End M s t i = some ((match sE s.1 1 (t.drop i) with | none => (-1 : Int) | some r => (t.length : Int) - r.length, ()), ()) := by
  apply e_spec_l1End
  simp only [q_spec_l1End]
  rw [p_l1End_loop s hg t ht (t.length - i) i 1 (by omega) (by omega) (by omega)]
  cases sE s.1 1 (t.drop i) <;> rfl

theorem sE_len {a : List Int} : ∀ (t : List Int) (k : Int) (r : List Int), sE a k t = some r → r.length ≤ t.length := by
  intro t
  induction t with
  | nil => intro k r h; simp only [sE] at h; split at h <;> simp_all
  | cons n t ih =>
    intro k r h
    simp only [sE] at h
    split at h
    · obtain rfl := Option.some.inj h; simp
    · split at h
      · cases h
      · have := ih _ _ h; simp; omega

/-- A term of no more than 40 numbers. -/
def isT (a t : List Int) : Bool := decide (t.length ≤ 40) && decide (Tm a t)

theorem p_l1Term (s : TSign) (hg : gS s.1 = true) (t : List Int) (ht : t.length ≤ 1048576) : c_spec_l1Term M s t = some ((isT s.1 t, ()), ()) := by
  apply e_spec_l1Term
  have := p_l1End s hg t 0 (by omega) ht
  rw [show ((0 : Nat) : Int) = 0 from rfl, List.drop_zero] at this
  simp only [q_spec_l1Term, p_l1In, Option.bind_some, this, isT]
  by_cases h0 : t = []
  · subst h0; simp [Tm, sE]
  · have : 0 < t.length := List.length_pos_iff.2 h0
    by_cases h : t.length ≤ 40
    · rw [if_pos (by simp; omega)]
      simp only [Option.some.injEq, Prod.mk.injEq, and_true]
      rw [Bool.eq_iff_iff]
      simp only [Bool.and_eq_true, decide_eq_true_eq, Tm, beq_iff_eq]
      cases hE : sE s.1 1 t with
      | none => simp
      | some r =>
        have := sE_len _ _ _ hE
        simp only [Option.some.injEq]
        constructor
        · intro h'; exact ⟨h, List.eq_nil_of_length_eq_zero (by omega)⟩
        · rintro ⟨-, rfl⟩; simp
    · rw [if_neg (by simp; omega)]
      simp [h]

theorem p_args (s : TSign) (n : Int) (h : ¬ badN s.1 n) : c_impl_Sign_args M s n = some ((ar s.1 n, ()), ()) := by
  apply e_impl_Sign_args
  simp only [q_impl_Sign_args, decide_eq_true_eq]
  by_cases hn : n < 0
  · rw [if_pos hn]; simp [ar, hn]
  · rw [if_neg hn, idx_ar h hn]; rfl

theorem p_isTerm_loop (s : TSign) (hg : gS s.1 = true) (t : List Int) (ht : t.length ≤ 40) : ∀ (k i : Nat) (left : Int), i + k = t.length → 0 ≤ left → left + 3 * k ≤ 4000000 →
    ∃ r, l_impl_Sign_isTerm_122 M s left t t.length i = some r ∧ Sum.elim (fun y => y.1 == 0) (fun r => r.1.1) r = decide (sE s.1 left (t.drop i) = some []) := by
  intro k
  induction k with
  | zero =>
    intro i left hi h0 hn
    obtain rfl : i = t.length := by omega
    refine ⟨.inl (left, ()), el_impl_Sign_isTerm_122 _ _ _ _ _ ?_, ?_⟩
    · simp [ql_impl_Sign_isTerm_122]
    · rw [List.drop_length]
      simp only [Sum.elim_inl, sE]
      rw [Bool.eq_iff_iff]; simp; omega
  | succ k ih =>
    intro i left hi h0 hn
    have h1 : i < t.length := by omega
    rw [List.drop_eq_getElem_cons h1]
    have pre : ∀ r, (if (left == 0) = true then some (.inr ((false, ()), ())) else if decide (t[i] < -12) = true then some (.inr ((false, ()), ())) else if decide (t[i] ≥ (s.1.length : Int)) = true then some (.inr ((false, ()), ())) else (c_impl_Sign_args M (s.1, ()) t[i]).bind fun r2 => l_impl_Sign_isTerm_122 M (s.1, ()) (IntKind.i64.wrap (left + IntKind.i64.wrap (r2.1.1 - 1))) t t.length (IntKind.i64.wrap ((i : Int) + 1))) = some r → l_impl_Sign_isTerm_122 M s left t t.length i = some r := by
      intro r hr
      apply el_impl_Sign_isTerm_122
      simp only [ql_impl_Sign_isTerm_122]
      rw [if_pos (by simpa using h1), idx_lt h1]
      exact hr
    by_cases hl : left = 0
    · subst hl
      refine ⟨.inr ((false, ()), ()), pre _ rfl, (decide_eq_false (by rw [sE_zero]; exact fun h => by cases h)).symm⟩
    · by_cases hb : badN s.1 t[i]
      · refine ⟨.inr ((false, ()), ()), pre _ ?_, by simp [sE, hb]; omega⟩
        rw [if_neg (by simpa using hl)]
        unfold badN at hb
        by_cases h2 : t[i] < -12
        · rw [if_pos (by simpa using h2)]
        · rw [if_neg (by simpa using h2), if_pos (by simp; omega)]
      · have ha := ar_ge hg t[i]
        obtain ⟨r, hr, hm⟩ := ih (i + 1) (left - 1 + ar s.1 t[i]) (by omega) (by omega) (by omega)
        refine ⟨r, pre _ ?_, ?_⟩
        · have hb' := hb
          unfold badN at hb'
          rw [if_neg (by simpa using hl), if_neg (by simp; omega), if_neg (by simp; omega), p_args (s.1, ()) _ hb]
          simp only [Option.bind_some]
          rw [w64 (x := ar s.1 t[i] - 1) (by omega) (by omega), w64 (by omega) (by omega), inc_nat (by omega), show left + (ar s.1 t[i] - 1) = left - 1 + ar s.1 t[i] by omega]
          exact hr
        · rw [hm]
          conv => rhs; unfold sE
          rw [if_neg (by omega), if_neg hb]

theorem p_isTerm (s : TSign) (hg : gS s.1 = true) (t : List Int) : c_impl_Sign_isTerm M s t = some ((isT s.1 t, ()), ()) := by
  apply e_impl_Sign_isTerm
  simp only [q_impl_Sign_isTerm, decide_eq_true_eq, isT]
  by_cases h : t.length ≤ 40
  · obtain ⟨r, hr, hm⟩ := p_isTerm_loop s hg t h t.length 0 1 (by omega) (by omega) (by omega)
    rw [show ((0 : Nat) : Int) = 0 from rfl] at hr
    rw [List.drop_zero] at hm
    rw [if_neg (by omega), show ((s.1, ()) : TSign) = s from rfl, hr]
    cases r with
    | inl r => simp only [Sum.elim_inl, Option.bind_some] at hm ⊢; rw [hm]; simp [h, Tm]
    | inr r => obtain ⟨⟨b, _⟩, _⟩ := r; simp only [Sum.elim_inr, Option.bind_some] at hm ⊢; rw [hm]; simp [h, Tm]
  · rw [if_pos (by omega)]; simp [h]

end Go.Proofs.YtndnhbihcnlpaaaDoorSt.Ev

/- Plain laws: bytes and numbers. No condition but sizes. -/
namespace Go.Proofs.YtndnhbihcnlpaaaDoorSt.Ev
open Go
set_option autoImplicit false
set_option linter.unusedVariables false
set_option linter.unusedSimpArgs false

theorem wu64 {x : Int} (h : 0 ≤ x) (k : x < 18446744073709551616) : IntKind.u64.wrap x = x := by
  simp only [IntKind.wrap, IntKind.bits, IntKind.signed, Bool.false_and, Bool.false_eq_true, if_false]
  omega

theorem bytesStr_app (x y : List Int) : bytesStr (x ++ y) = bytesStr x ++ bytesStr y := by simp [bytesStr]

theorem bytesStr_len (x : List Int) : (bytesStr x).length = x.length := by simp [bytesStr]

theorem bytesStr_one (n : Nat) : bytesStr [(n : Int)] = [UInt8.ofNat n] := by simp [bytesStr]

theorem bytesStr_str (x : List UInt8) : bytesStr (strBytes x) = x := by
  induction x with
  | nil => rfl
  | cons b r ih => simp only [strBytes, bytesStr, List.map_cons] at ih ⊢; rw [ih]; simp

theorem strBytes_app (x y : List UInt8) : strBytes (x ++ y) = strBytes x ++ strBytes y := by simp [strBytes]

theorem strBytes_len (x : List UInt8) : (strBytes x).length = x.length := by simp [strBytes]

theorem strBytes_one {n : Nat} (h : n < 256) : strBytes [UInt8.ofNat n] = [(n : Int)] := by
  simp [strBytes]; omega

end Go.Proofs.YtndnhbihcnlpaaaDoorSt.Ev

/- Plain laws: places of a term's operands. No condition but sizes. -/
namespace Go.Proofs.YtndnhbihcnlpaaaDoorSt.Ev
open Go
set_option autoImplicit false
set_option linter.unusedVariables false
set_option linter.unusedSimpArgs false


def posOf : Nat → List (List Int) → List Int
  | _, [] => []
  | p, u :: us => (p : Int) :: posOf (p + u.length) us
theorem posOf_len : ∀ (us : List (List Int)) (p : Nat), (posOf p us).length = us.length
  | [], _ => rfl
  | _ :: us, p => by simp [posOf, posOf_len us]

theorem drop_split {T u x : List Int} {i : Nat} (h : T.drop i = u ++ x) : T.drop (i + u.length) = x := by
  rw [← List.drop_drop, h, List.drop_left]
theorem drop_len {T u : List Int} {i : Nat} (h : T.drop i = u) : u.length = T.length - i := by rw [← h, List.length_drop]

theorem p_l1Args_loop {a : List Int} (hg : gS a = true) (T : List Int) (hT : T.length ≤ 1000) : ∀ (us : List (List Int)) (p : Nat) (x out : List Int), (∀ u ∈ us, Tm a u) → us.length ≤ 1000 → T.drop p = us.flatten ++ x → out.length + us.length ≤ 1000 →
    l_spec_l1Args_250 M T (a, ()) out p us.length = some (.inl (out ++ posOf p us, ())) := by
  intro us
  induction us with
  | nil =>
    intro p x out _ _ _ _
    apply el_spec_l1Args_250
    simp [ql_spec_l1Args_250, posOf]
  | cons u us ih =>
    intro p x out hu hl hd ho
    simp only [List.length_cons] at hl ho
    simp only [List.flatten_cons, List.append_assoc] at hd
    have h1 := hu u (by simp)
    apply el_spec_l1Args_250
    simp only [ql_spec_l1Args_250, List.length_cons]
    have hp : p ≤ T.length := by
      have := drop_len hd
      have h2 := h1.pos
      simp at this
      omega
    rw [if_pos (by simp), if_pos (by simp [-List.length_flatten]; omega), p_l1End (a, ()) hg T p hp (by omega), hd, h1.rest hg]
    have hx := drop_len hd
    have hlen : (T.length : Int) - (us.flatten ++ x).length = ((p + u.length : Nat) : Int) := by
      simp only [List.length_append] at hx ⊢
      omega
    simp only [Option.bind_some, hlen]
    rw [w64 (by omega) (by omega), show ((us.length + 1 : Nat) : Int) - 1 = (us.length : Int) by omega, ih (p + u.length) x (out ++ [(p : Int)]) (fun v hv => hu v (by simp [hv])) (by omega) (drop_split hd) (by simp [-List.length_flatten]; omega)]
    simp [posOf]

end Go.Proofs.YtndnhbihcnlpaaaDoorSt.Ev

/- Plain laws: the texts of terms and of clauses: both programs write the same. No condition but sizes. -/
namespace Go.Proofs.YtndnhbihcnlpaaaDoorSt.Ev
open Go
set_option autoImplicit false
set_option linter.unusedVariables false
set_option linter.unusedSimpArgs false

/-- The text of a term: the same bytes from both programs, wherever it stands. -/
def TX (a u b : List Int) : Prop := b.length + 1 ≤ 4 * u.length ∧
  (∀ (T x out : List Int) (i : Nat), T.length ≤ 1000 → T.drop i = u ++ x → out.length + 4 * u.length ≤ 1000000 → c_impl_Sign_text M (a, ()) out T i = some ((out ++ b, ((i + u.length : Nat) : Int), ()), ())) ∧
  (∀ (T x : List Int) (i : Nat), T.length ≤ 1000 → T.drop i = u ++ x → c_spec_l1TermText M (a, ()) T i = some ((bytesStr b, ()), ()))

open Classical in
noncomputable def tb (a u : List Int) : List Int := if h : ∃ b, TX a u b then h.choose else []
theorem tb_ok {a u : List Int} (h : ∃ b, TX a u b) : TX a u (tb a u) := by
  unfold tb; rw [dif_pos h]; exact h.choose_spec

/-- The operands' texts, each behind its sign. -/
noncomputable def gl (a : List Int) : Bool → List (List Int) → List Int
  | _, [] => []
  | f, u :: us => (if f then 40 else 44) :: (tb a u ++ gl a false us)
theorem gl_len {a : List Int} : ∀ (us : List (List Int)) (f : Bool), (∀ u ∈ us, TX a u (tb a u)) → (gl a f us).length ≤ 4 * us.flatten.length
  | [], _, _ => by simp [gl]
  | u :: us, f, h => by
    have h1 := (h u (by simp)).1
    have h2 := gl_len us false (fun v hv => h v (by simp [hv]))
    simp only [gl, List.length_cons, List.length_append, List.flatten_cons]
    omega
theorem p_text_loop {a : List Int} (T : List Int) (hT : T.length ≤ 1000) (n : Int) (cnt : Nat) (hc : cnt ≤ 3) : ∀ (us : List (List Int)) (i p : Nat) (x out : List Int), (∀ u ∈ us, TX a u (tb a u)) → i + us.length = cnt → T.drop p = us.flatten ++ x → out.length + 4 * us.flatten.length ≤ 999999 →
    l_impl_Sign_text_506 M out T (a, ()) n p cnt i = some (.inl (out ++ gl a (i == 0) us, (a, ()), n, ((p + us.flatten.length : Nat) : Int), ())) := by
  intro us
  induction us with
  | nil =>
    intro i p x out _ hi _ _
    apply el_impl_Sign_text_506
    simp at hi
    subst hi
    simp [ql_impl_Sign_text_506, gl]
  | cons u us ih =>
    intro i p x out hu hi hd ho
    simp only [List.length_cons] at hi
    simp only [List.flatten_cons, List.append_assoc, List.length_append] at hd ho ⊢
    have h1 := hu u (by simp)
    have h2 := h1.1
    apply el_impl_Sign_text_506
    simp only [ql_impl_Sign_text_506]
    rw [if_pos (by simp [-List.length_flatten]; omega)]
    have step : ∀ sg : Int, ((c_impl_Sign_text M (a, ()) (out ++ [sg]) T (p : Int)).bind fun r2 => l_impl_Sign_text_506 M r2.1.1 T (a, ()) n r2.1.2.1 cnt (IntKind.i64.wrap ((i : Int) + 1))) = some (.inl (out ++ [sg] ++ tb a u ++ gl a false us, (a, ()), n, ((p + u.length + us.flatten.length : Nat) : Int), ())) := by
      intro sg
      rw [h1.2.1 T (us.flatten ++ x) (out ++ [sg]) p hT hd (by simp [-List.length_flatten]; omega), inc_nat (by omega)]
      simp only [Option.bind_some]
      rw [ih (i + 1) (p + u.length) x (out ++ [sg] ++ tb a u) (fun v hv => hu v (by simp [hv])) (by omega) (drop_split hd) (by simp [-List.length_flatten]; omega)]
      simp
    by_cases h0 : i = 0
    · subst h0
      rw [if_pos (by simp)]
      simp only [Option.bind_some, Sum.elim_inl]
      rw [if_pos (by simp [-List.length_flatten]; omega), step]
      simp [gl, Nat.add_assoc]
    · rw [if_neg (by simpa using h0)]
      simp only [Option.bind_some, Sum.elim_inl]
      rw [if_pos (by simp [-List.length_flatten]; omega), step]
      simp [gl, h0, Nat.add_assoc]

theorem p_l1TermText_loop {a : List Int} (T : List Int) (hT : T.length ≤ 1000) (at0 : Int) (P : List Int) (hP : P.length ≤ 3) : ∀ (us : List (List Int)) (i p : Nat) (x : List Int) (out : List UInt8), (∀ u ∈ us, TX a u (tb a u)) → i + us.length = P.length → P.drop i = posOf p us → T.drop p = us.flatten ++ x → out.length + 4 * us.flatten.length ≤ 999999 →
    l_spec_l1TermText_122 M T at0 (a, ()) out P P.length i = some (.inl (T, at0, (a, ()), out ++ bytesStr (gl a (i == 0) us), ())) := by
  intro us
  induction us with
  | nil =>
    intro i p x out _ hi _ _ _
    apply el_spec_l1TermText_122
    simp at hi
    subst hi
    simp [ql_spec_l1TermText_122, gl, bytesStr]
  | cons u us ih =>
    intro i p x out hu hi hd hd2 ho
    simp only [List.length_cons] at hi
    simp only [List.flatten_cons, List.append_assoc, List.length_append] at hd2 ho
    have h1 := hu u (by simp)
    have h2 := h1.1
    apply el_spec_l1TermText_122
    have hi' : i < P.length := by omega
    have hdc := List.drop_eq_getElem_cons hi'
    rw [hd, posOf] at hdc
    obtain ⟨hp, hdc⟩ := List.cons.inj hdc
    simp only [ql_spec_l1TermText_122]
    rw [if_pos (by simpa using hi'), if_pos (by omega), Int.toNat_natCast, List.getElem?_eq_getElem hi', ← hp]
    simp only [Option.bind_some]
    have step : ∀ sg : UInt8, ((c_spec_l1TermText M (a, ()) T (p : Int)).bind fun r3 => if (out ++ [sg]).length + List.length r3.1.1 ≤ 4611686018427387904 then l_spec_l1TermText_122 M T at0 (a, ()) ((out ++ [sg]) ++ r3.1.1) P P.length (IntKind.i64.wrap ((i : Int) + 1)) else none) = some (.inl (T, at0, (a, ()), out ++ [sg] ++ bytesStr (tb a u) ++ bytesStr (gl a false us), ())) := by
      intro sg
      rw [h1.2.2 T (us.flatten ++ x) p hT hd2, inc_nat (by omega)]
      simp only [Option.bind_some]
      rw [if_pos (by simp [bytesStr_len, -List.length_flatten]; omega), ih (i + 1) (p + u.length) x _ (fun v hv => hu v (by simp [hv])) (by omega) hdc.symm (drop_split hd2) (by simp [bytesStr_len, -List.length_flatten]; omega)]
      simp
    by_cases h0 : i = 0
    · subst h0
      rw [if_pos (by simp), if_pos (by simp [-List.length_flatten]; omega)]
      simp only [Option.bind_some, Sum.elim_inl]
      rw [step]
      simp [gl, bytesStr]
    · rw [if_neg (by simpa using h0), if_pos (by simp [-List.length_flatten]; omega)]
      simp only [Option.bind_some, Sum.elim_inl]
      rw [step]
      simp [gl, h0, bytesStr]

theorem TX_var {a : List Int} (hs : a.length ≤ 10) {n : Int} (hb : ¬ badN a n) (h0 : n < 0) : TX a [n] [64 - n] := by
  have hb' := hb
  unfold badN at hb'
  have e1 : IntKind.i64.wrap (-1 - n) = -1 - n := w64 (by omega) (by omega)
  refine ⟨by simp, ?_, ?_⟩
  · intro T x out i hT hd ho
    have hi : i < T.length := by have := drop_len hd; simp at this; omega
    have hx : T[i] = n := by
      have := List.drop_eq_getElem_cons hi
      rw [hd] at this
      exact (List.cons.inj this).1.symm
    apply e_impl_Sign_text
    simp only [q_impl_Sign_text]
    rw [idx_lt hi, hx]
    simp only [Option.bind_some]
    simp only [List.length_cons, List.length_nil] at ho
    rw [if_pos (by simpa using h0), if_pos (by simp [-List.length_flatten]; omega), e1, w8 (x := -1 - n) (by omega) (by omega), w8 (by omega) (by omega), inc_nat (by omega), show (65 : Int) + (-1 - n) = 64 - n by omega]
    rfl
  · intro T x i hT hd
    have hi : i < T.length := by have := drop_len hd; simp at this; omega
    have hx : T[i] = n := by
      have := List.drop_eq_getElem_cons hi
      rw [hd] at this
      exact (List.cons.inj this).1.symm
    apply e_spec_l1TermText
    simp only [q_spec_l1TermText]
    rw [idx_lt hi, hx]
    simp only [Option.bind_some]
    rw [if_pos (by simpa using h0), e1, w64 (by omega) (by omega), w8 (by omega) (by omega), show (65 : Int) + (-1 - n) = 64 - n by omega]
theorem TX_app {a : List Int} (hg : gS a = true) {n : Int} {us : List (List Int)} (hb : ¬ badN a n) (h0 : ¬ n < 0) (hl : (us.length : Int) = ar a n) (hk : ∀ v ∈ us, Tm a v) (kid : ∀ v ∈ us, TX a v (tb a v)) (hu : us.flatten.length ≤ 999) :
    TX a (n :: us.flatten) ((97 + n) :: (gl a true us ++ (if 0 < ar a n then [41] else []))) := by
  have hn := ar_ge hg n
  have hs : a.length ≤ 10 := by simp only [gS, Bool.and_eq_true, decide_eq_true_eq] at hg; exact hg.2.1
  have hb' := hb
  unfold badN at hb'
  have hgl := gl_len us true kid
  refine ⟨by simp [-List.length_flatten]; split <;> simp [-List.length_flatten] <;> omega, ?_, ?_⟩
  · intro T x out i hT hd ho
    have hi : i < T.length := by have := drop_len hd; simp at this; omega
    have hdc := List.drop_eq_getElem_cons hi
    rw [hd] at hdc
    obtain ⟨hx, hdc⟩ := List.cons.inj hdc
    apply e_impl_Sign_text
    simp only [q_impl_Sign_text]
    rw [idx_lt hi, ← hx]
    simp only [Option.bind_some]
    simp only [List.length_cons] at ho
    rw [if_neg (by simpa using h0), if_pos (by simp [-List.length_flatten]; omega), w8 (x := n) (by omega) (by omega), w8 (by omega) (by omega), inc_nat (by omega), p_args (a, ()) n hb]
    simp only [Option.bind_some]
    rw [← hl]
    have := p_text_loop (a := a) T hT n us.length (by omega) us 0 (i + 1) x (out ++ [97 + n]) kid (by omega) hdc.symm (by simp [-List.length_flatten]; omega)
    rw [show ((0 : Nat) : Int) = 0 from rfl] at this
    rw [this]
    simp only [Option.bind_some, Sum.elim_inl]
    rw [p_args (a, ()) n hb]
    simp only [Option.bind_some]
    rw [hl]
    by_cases h4 : 0 < ar a n
    · rw [if_pos (by simpa using h4), if_pos (by simp [-List.length_flatten]; omega), if_pos h4]
      simp [-List.length_flatten]; omega
    · rw [if_neg (by simpa using h4), if_neg h4]
      simp [-List.length_flatten]; omega
  · intro T x i hT hd
    have hi : i < T.length := by have := drop_len hd; simp at this; omega
    have hdc := List.drop_eq_getElem_cons hi
    rw [hd] at hdc
    obtain ⟨hx, hdc⟩ := List.cons.inj hdc
    apply e_spec_l1TermText
    simp only [q_spec_l1TermText]
    rw [idx_lt hi, ← hx]
    simp only [Option.bind_some]
    have hA : c_spec_l1Args M (a, ()) T (i : Int) = some ((posOf (i + 1) us, ()), ()) := by
      apply e_spec_l1Args
      simp only [q_spec_l1Args]
      rw [idx_lt hi, ← hx]
      simp only [Option.bind_some]
      rw [if_neg (by simpa using h0), idx_ar hb h0, inc_nat (by omega)]
      simp only [Option.bind_some]
      have := p_l1Args_loop hg T hT us (i + 1) x [] hk (by omega) hdc.symm (by simp [-List.length_flatten]; omega)
      rw [hl] at this
      rw [this]
      simp
    rw [if_neg (by simpa using h0), hA, w64 (by omega) (by omega), w8 (by omega) (by omega)]
    simp only [Option.bind_some]
    have := p_l1TermText_loop (a := a) T hT i (posOf (i + 1) us) (by rw [posOf_len]; omega) us 0 (i + 1) x (bytesStr [97 + n]) kid (by rw [posOf_len]; omega) rfl hdc.symm (by simp [bytesStr, -List.length_flatten]; omega)
    rw [show ((0 : Nat) : Int) = 0 from rfl] at this
    rw [this]
    simp only [Option.bind_some, Sum.elim_inl]
    rw [idx_lt hi, ← hx]
    simp only [Option.bind_some]
    rw [idx_ar hb h0]
    simp only [Option.bind_some]
    by_cases h4 : 0 < ar a n
    · rw [if_pos (by simpa using h4), if_pos (by simp [bytesStr_len, -List.length_flatten]; omega), if_pos h4]
      simp [bytesStr]
    · rw [if_neg (by simpa using h4), if_neg h4]
      simp [bytesStr]

theorem TX_all {a : List Int} (hg : gS a = true) : ∀ (N : Nat) (u : List Int), u.length ≤ N → N ≤ 1000 → Tm a u → ∃ b, TX a u b := by
  intro N
  induction N with
  | zero => intro u hu _ h; have := h.pos; omega
  | succ N ih =>
    intro u hu hN h
    obtain ⟨n, us, rfl, hb, hl, hk⟩ := h.parts hg
    have hs : a.length ≤ 10 := by simp only [gS, Bool.and_eq_true, decide_eq_true_eq] at hg; exact hg.2.1
    simp only [List.length_cons] at hu
    have kid : ∀ v ∈ us, TX a v (tb a v) := fun v hv => tb_ok (ih v (by
      have : v.length ≤ us.flatten.length := (List.sublist_flatten_of_mem hv).length_le
      omega) (by omega) (hk v hv))
    by_cases h0 : n < 0
    · have h3 : ar a n = 0 := by simp [ar, h0]
      obtain rfl : us = [] := List.eq_nil_of_length_eq_zero (by omega)
      exact ⟨_, TX_var hs hb h0⟩
    · exact ⟨_, TX_app hg hb h0 hl hk kid (by omega)⟩
theorem TX_uniq {a u b c : List Int} (hu : u.length ≤ 1000) (h : TX a u b) (k : TX a u c) : b = c := by
  have h1 := h.2.1 u [] [] 0 hu (by simp) (by simp; omega)
  have h2 := k.2.1 u [] [] 0 hu (by simp) (by simp; omega)
  rw [h1] at h2
  simpa using h2
theorem tb_eq {a u b : List Int} (hu : u.length ≤ 1000) (h : TX a u b) : tb a u = b := TX_uniq hu (tb_ok ⟨b, h⟩) h

/-- The text of a term. -/
noncomputable def tx (a u : List Int) : List UInt8 := bytesStr (tb a u)
theorem isT_TX {a u : List Int} (hg : gS a = true) (h : isT a u = true) : TX a u (tb a u) := by
  simp only [isT, Bool.and_eq_true, decide_eq_true_eq] at h
  exact tb_ok (TX_all hg 40 u h.1 (by omega) h.2)
theorem tx_len {a u : List Int} (hg : gS a = true) (h : isT a u = true) : (tx a u).length ≤ 160 := by
  have := (isT_TX hg h).1
  simp only [isT, Bool.and_eq_true, decide_eq_true_eq] at h
  rw [tx, bytesStr_len]
  omega
theorem p_l1TermText (s : TSign) (hg : gS s.1 = true) (u : List Int) (h : isT s.1 u = true) : c_spec_l1TermText M s u 0 = some ((tx s.1 u, ()), ()) := by
  have hu := h
  simp only [isT, Bool.and_eq_true, decide_eq_true_eq] at hu
  exact (isT_TX hg h).2.2 u [] 0 (by omega) (by simp)
theorem p_termText (s : TSign) (hg : gS s.1 = true) (u : List Int) (h : isT s.1 u = true) : c_impl_Sign_termText M s u = some ((tx s.1 u, ()), ()) := by
  have hu := h
  simp only [isT, Bool.and_eq_true, decide_eq_true_eq] at hu
  apply e_impl_Sign_termText
  have := (isT_TX hg h).2.1 u [] [] 0 (by omega) (by simp) (by simp [-List.length_flatten]; omega)
  rw [show ((0 : Nat) : Int) = 0 from rfl, sign_eta] at this
  simp only [q_impl_Sign_termText, sign_eta, this, Option.bind_some, List.nil_append]
  rfl

end Go.Proofs.YtndnhbihcnlpaaaDoorSt.Ev

/- Plain laws: both programs tell the same clauses. No condition but sizes. -/
namespace Go.Proofs.YtndnhbihcnlpaaaDoorSt.Ev
open Go
set_option autoImplicit false
set_option linter.unusedVariables false
set_option linter.unusedSimpArgs false

def litOK (a : List Int) (x : TLit) : Bool := isT a x.2.1 && isT a x.2.2.1

def clOK (a : List Int) (c : List TLit) : Bool := decide (c.length ≤ 8) && c.all (litOK a)

theorem p_l4Lit (s : TSign) (hg : gS s.1 = true) (x : TLit) (h : smL x) : c_spec_l4Lit M s x = some ((litOK s.1 x, ()), ()) := by
  apply e_spec_l4Lit
  simp only [q_spec_l4Lit, sign_eta, p_l1Term s hg x.2.1 h.1, p_l1Term s hg x.2.2.1 h.2, Option.bind_some, litOK]
  cases isT s.1 x.2.1 <;> simp

theorem p_isLit (s : TSign) (hg : gS s.1 = true) (x : TLit) : c_impl_Sign_isLit M s x = some ((litOK s.1 x, ()), ()) := by
  apply e_impl_Sign_isLit
  simp only [q_impl_Sign_isLit, sign_eta, p_isTerm s hg x.2.1, p_isTerm s hg x.2.2.1, Option.bind_some, litOK]
  cases isT s.1 x.2.1 <;> simp

theorem p_l4Clause_loop (s : TSign) (hg : gS s.1 = true) (a : List TLit) (ha : a.length ≤ 1048576) (hx : ∀ x ∈ a, smL x) : ∀ k i : Nat, i + k = a.length → l_spec_l4Clause_26 M a s a a.length i = some (if (a.drop i).all (litOK s.1) = true then .inl (a, ()) else .inr ((false, ()), ())) := by
  intro k
  induction k with
  | zero =>
    intro i hi
    obtain rfl : i = a.length := by omega
    apply el_spec_l4Clause_26
    simp [ql_spec_l4Clause_26]
  | succ k ih =>
    intro i hi
    apply el_spec_l4Clause_26
    have h1 : i < a.length := by omega
    simp only [ql_spec_l4Clause_26]
    rw [if_pos (by simpa using h1), idx_lt h1, inc_nat (by omega)]
    simp only [Option.bind_some, sign_eta, lit_eta, p_l4Lit s hg a[i] (hx _ (List.getElem_mem h1)), ih (i + 1) (by omega)]
    rw [List.drop_eq_getElem_cons h1, List.all_cons]
    generalize litOK s.1 a[i] = b
    cases b <;> rfl

theorem p_l4Clause (s : TSign) (hg : gS s.1 = true) (a : List TLit) (ha : a.length ≤ 1048576) (hx : ∀ x ∈ a, smL x) : c_spec_l4Clause M s a = some ((clOK s.1 a, ()), ()) := by
  apply e_spec_l4Clause
  simp only [q_spec_l4Clause, sign_eta]
  have := p_l4Clause_loop s hg a ha hx a.length 0 (by omega)
  rw [show ((0 : Nat) : Int) = 0 from rfl] at this
  rw [this, List.drop_zero, clOK]
  cases a.all (litOK s.1)
  · simp
  · simp; omega

theorem p_isClause1 (s : TSign) (hg : gS s.1 = true) (x : TLit) : c_impl_Sign_isClause_1 M x s = some ((!litOK s.1 x, ()), ()) := by
  apply e_impl_Sign_isClause_1
  simp only [q_impl_Sign_isClause_1, sign_eta, lit_eta, p_isLit s hg x, Option.bind_some]

theorem p_clIdx_loop (s : TSign) (hg : gS s.1 = true) (a : List TLit) (ha : a.length ≤ 1048576) : ∀ k i : Nat, i + k = a.length → ∃ r, l_slices_IndexFunc_impl_Lit_impl_Lit__impl_Sign_isClause_1_26 M a (s, ()) a.length i = some r ∧ (match r with | .inl _ => (a.drop i).all (litOK s.1) = true | .inr r => 0 ≤ r.1.1 ∧ (a.drop i).all (litOK s.1) = false) := by
  intro k
  induction k with
  | zero =>
    intro i hi
    obtain rfl : i = a.length := by omega
    refine ⟨.inl (), el_slices_IndexFunc_impl_Lit_impl_Lit__impl_Sign_isClause_1_26 _ _ _ _ (by simp [ql_slices_IndexFunc_impl_Lit_impl_Lit__impl_Sign_isClause_1_26]), by simp⟩
  | succ k ih =>
    intro i hi
    have h1 : i < a.length := by omega
    obtain ⟨r, hr, hm⟩ := ih (i + 1) (by omega)
    rw [List.drop_eq_getElem_cons h1, List.all_cons]
    by_cases hp : litOK s.1 a[i] = true
    · refine ⟨r, el_slices_IndexFunc_impl_Lit_impl_Lit__impl_Sign_isClause_1_26 _ _ _ _ ?_, by rw [hp, Bool.true_and]; exact hm⟩
      simp only [ql_slices_IndexFunc_impl_Lit_impl_Lit__impl_Sign_isClause_1_26]
      rw [if_pos (by simpa using h1), idx_lt h1, inc_nat (by omega)]
      simp only [Option.bind_some, lit_eta, p_isClause1 s hg, hp, Bool.not_true, Bool.false_eq_true, if_false]
      exact hr
    · rw [Bool.not_eq_true] at hp
      refine ⟨.inr (((i : Int), ()), ()), el_slices_IndexFunc_impl_Lit_impl_Lit__impl_Sign_isClause_1_26 _ _ _ _ ?_, Int.natCast_nonneg i, by rw [hp, Bool.false_and]⟩
      simp only [ql_slices_IndexFunc_impl_Lit_impl_Lit__impl_Sign_isClause_1_26]
      rw [if_pos (by simpa using h1), idx_lt h1]
      simp only [Option.bind_some, lit_eta, p_isClause1 s hg, hp, Bool.not_false, if_true]

theorem p_clContains (s : TSign) (hg : gS s.1 = true) (a : List TLit) (ha : a.length ≤ 1048576) : c_slices_ContainsFunc_impl_Lit_impl_Lit__impl_Sign_isClause_1 M a (s, ()) = some ((!(a.all (litOK s.1)), ()), ()) := by
  apply e_slices_ContainsFunc_impl_Lit_impl_Lit__impl_Sign_isClause_1
  simp only [q_slices_ContainsFunc_impl_Lit_impl_Lit__impl_Sign_isClause_1]
  obtain ⟨r, hr, hm⟩ := p_clIdx_loop s hg a ha a.length 0 (by omega)
  rw [show ((0 : Nat) : Int) = 0 from rfl] at hr
  rw [List.drop_zero] at hm
  cases r with
  | inl r =>
    rw [e_slices_IndexFunc_impl_Lit_impl_Lit__impl_Sign_isClause_1 a (s, ()) (r := ((-1, ()), ())) (by simp only [q_slices_IndexFunc_impl_Lit_impl_Lit__impl_Sign_isClause_1, hr, Option.bind_some, Sum.elim_inl])]
    simp only at hm
    simp [hm]
  | inr r =>
    rw [e_slices_IndexFunc_impl_Lit_impl_Lit__impl_Sign_isClause_1 a (s, ()) (r := r) (by simp only [q_slices_IndexFunc_impl_Lit_impl_Lit__impl_Sign_isClause_1, hr, Option.bind_some, Sum.elim_inr])]
    simp only at hm
    simp [hm]

theorem p_isClause (s : TSign) (hg : gS s.1 = true) (a : List TLit) (ha : a.length ≤ 1048576) : c_impl_Sign_isClause M s a = some ((clOK s.1 a, ()), ()) := by
  apply e_impl_Sign_isClause
  simp only [q_impl_Sign_isClause, sign_eta, p_clContains s hg a ha, Option.bind_some, clOK]
  by_cases h : a.length ≤ 8
  · rw [if_pos (by simp; omega)]; simp [h]
  · rw [if_neg (by simp; omega)]; simp [h]

end Go.Proofs.YtndnhbihcnlpaaaDoorSt.Ev

/- Plain laws: both programs write the same texts of clauses. No condition but sizes. -/
namespace Go.Proofs.YtndnhbihcnlpaaaDoorSt.Ev
open Go
set_option autoImplicit false
set_option linter.unusedVariables false
set_option linter.unusedSimpArgs false

/-- The text of literals. -/
noncomputable def ctx (a : List Int) : Bool → List TLit → List UInt8
  | _, [] => []
  | f, x :: r => (if f then [] else [124]) ++ (tx a x.2.1 ++ ((if x.1 = true then [61] else [35]) ++ (tx a x.2.2.1 ++ ctx a false r)))

theorem p_l4Text_loop (s : TSign) (hg : gS s.1 = true) (c : List TLit) (hc : c.all (litOK s.1) = true) (hl : c.length ≤ 8) : ∀ (k i : Nat) (out : List UInt8), i + k = c.length → out.length ≤ 1000 * i → l_spec_l4Text_122 M s out c c.length i = some (.inl (out ++ ctx s.1 (i == 0) (c.drop i), ())) := by
  intro k
  induction k with
  | zero =>
    intro i out hi ho
    obtain rfl : i = c.length := by omega
    apply el_spec_l4Text_122
    simp [ql_spec_l4Text_122, ctx]
  | succ k ih =>
    intro i out hi ho
    have h1 : i < c.length := by omega
    have hx : litOK s.1 c[i] = true := (List.all_eq_true.1 hc) _ (List.getElem_mem h1)
    simp only [litOK, Bool.and_eq_true] at hx
    have l1 := tx_len hg hx.1
    have l2 := tx_len hg hx.2
    apply el_spec_l4Text_122
    rw [List.drop_eq_getElem_cons h1]
    cases hb : c[i].1 <;> by_cases h0 : i = 0
    all_goals
      simp (disch := omega) only [ql_spec_l4Text_122, idx_lt h1, Option.bind_some, Sum.elim_inl, sign_eta, lit_eta, decide_eq_true_eq, if_pos, if_neg, List.length_append, List.length_cons, List.length_nil, p_l1TermText s hg _ hx.1, p_l1TermText s hg _ hx.2, hb, inc_nat, Bool.false_eq_true, if_false, if_true]
      rw [ih (i + 1) _ (by omega) (by simp only [List.length_append, List.length_cons, List.length_nil]; omega)]
      simp only [ctx, hb, Bool.false_eq_true, if_false, if_true]
      simp [h0]

theorem p_clauseText_loop (s : TSign) (hg : gS s.1 = true) (c : List TLit) (hc : c.all (litOK s.1) = true) (hl : c.length ≤ 8) : ∀ (k i : Nat) (out : List UInt8), i + k = c.length → out.length ≤ 1000 * i → l_impl_Sign_clauseText_122 M s out c c.length i = some (.inl (out ++ ctx s.1 (i == 0) (c.drop i), ())) := by
  intro k
  induction k with
  | zero =>
    intro i out hi ho
    obtain rfl : i = c.length := by omega
    apply el_impl_Sign_clauseText_122
    simp [ql_impl_Sign_clauseText_122, ctx]
  | succ k ih =>
    intro i out hi ho
    have h1 : i < c.length := by omega
    have hx : litOK s.1 c[i] = true := (List.all_eq_true.1 hc) _ (List.getElem_mem h1)
    simp only [litOK, Bool.and_eq_true] at hx
    have l1 := tx_len hg hx.1
    have l2 := tx_len hg hx.2
    apply el_impl_Sign_clauseText_122
    rw [List.drop_eq_getElem_cons h1]
    cases hb : c[i].1 <;> by_cases h0 : i = 0
    all_goals
      simp (disch := omega) only [ql_impl_Sign_clauseText_122, idx_lt h1, Option.bind_some, Sum.elim_inl, sign_eta, lit_eta, decide_eq_true_eq, if_pos, if_neg, List.length_append, List.length_cons, List.length_nil, p_termText s hg _ hx.1, p_termText s hg _ hx.2, hb, inc_nat, Bool.false_eq_true, if_false, if_true]
      rw [ih (i + 1) _ (by omega) (by simp only [List.length_append, List.length_cons, List.length_nil]; omega)]
      simp only [ctx, hb, Bool.false_eq_true, if_false, if_true]
      simp [h0]

/-- The text of a clause. -/
noncomputable def clt (a : List Int) (c : List TLit) : List UInt8 := if c.length = 0 then [45] else ctx a true c
theorem p_l4Text (s : TSign) (hg : gS s.1 = true) (c : List TLit) (h : clOK s.1 c = true) : c_spec_l4Text M s c = some ((clt s.1 c, ()), ()) := by
  simp only [clOK, Bool.and_eq_true, decide_eq_true_eq] at h
  apply e_spec_l4Text
  simp only [q_spec_l4Text, clt, sign_eta]
  by_cases h0 : c.length = 0
  · rw [if_pos (by simp [h0]), if_pos h0]
  · rw [if_neg (by simpa using h0), if_neg h0]
    have := p_l4Text_loop s hg c h.2 h.1 c.length 0 [] (by omega) (by simp)
    rw [show ((0 : Nat) : Int) = 0 from rfl] at this
    rw [this]
    simp
theorem p_clauseText (s : TSign) (hg : gS s.1 = true) (c : List TLit) (h : clOK s.1 c = true) : c_impl_Sign_clauseText M s c = some ((clt s.1 c, ()), ()) := by
  simp only [clOK, Bool.and_eq_true, decide_eq_true_eq] at h
  apply e_impl_Sign_clauseText
  simp only [q_impl_Sign_clauseText, clt, sign_eta]
  by_cases h0 : c.length = 0
  · rw [if_pos (by simp [h0]), if_pos h0]
  · rw [if_neg (by simpa using h0), if_neg h0]
    have := p_clauseText_loop s hg c h.2 h.1 c.length 0 [] (by omega) (by simp)
    rw [show ((0 : Nat) : Int) = 0 from rfl] at this
    rw [this]
    simp

theorem clt_len {a : List Int} (hg : gS a = true) {c : List TLit} (h : clOK a c = true) : (clt a c).length ≤ 3000 := by
  simp only [clOK, Bool.and_eq_true, decide_eq_true_eq] at h
  have : ∀ (c : List TLit) (f : Bool), (∀ x ∈ c, litOK a x = true) → (ctx a f c).length ≤ 322 * c.length := by
    intro c
    induction c with
    | nil => intro f _; simp [ctx]
    | cons x r ih =>
      intro f hx
      have h1 := hx x (by simp)
      simp only [litOK, Bool.and_eq_true] at h1
      have l1 := tx_len hg h1.1
      have l2 := tx_len hg h1.2
      have l3 := ih false (fun y hy => hx y (by simp [hy]))
      simp only [ctx, List.length_append, List.length_cons]
      split <;> split <;> simp only [List.length_cons, List.length_nil] <;> omega
  have h2 := this c true (fun x hx => (List.all_eq_true.1 h.2) x hx)
  unfold clt
  split
  · simp
  · omega

end Go.Proofs.YtndnhbihcnlpaaaDoorSt.Ev

/- Plain laws: clauses that are good, as the reference tells them. No condition but sizes. -/
namespace Go.Proofs.YtndnhbihcnlpaaaDoorSt.Ev
open Go
set_option autoImplicit false
set_option linter.unusedVariables false
set_option linter.unusedSimpArgs false

theorem p_spec_GoodClause (s : TSign) (hs : s.1.length ≤ 1048576) (a : List TLit) (ha : a.length ≤ 1048576) (hx : ∀ x ∈ a, smL x) : c_spec_GoodClause M s a = some ((gS s.1 && clOK s.1 a, ()), ()) := by
  apply e_spec_GoodClause
  simp only [q_spec_GoodClause, sign_eta, p_spec_GoodSign s (by omega), Option.bind_some]
  cases hg : gS s.1 with
  | false => rfl
  | true => rw [if_pos rfl, p_l4Clause s hg a ha hx]; rfl

end Go.Proofs.YtndnhbihcnlpaaaDoorSt.Ev

/- Plain laws: numbers' texts. No condition but sizes. -/
namespace Go.Proofs.YtndnhbihcnlpaaaDoorSt.Ev
open Go
set_option autoImplicit false
set_option linter.unusedVariables false
set_option linter.unusedSimpArgs false

theorem decDigits_len (n : Nat) : (Lib.decDigits n).length ≤ n + 1 := by
  induction n using Nat.strongRecOn with
  | ind n ih =>
    rw [Lib.decDigits]
    by_cases h : n < 10
    · rw [dif_pos h]; simp
    · rw [dif_neg h]
      have := ih (n / 10) (by omega)
      simp only [List.length_append, List.length_cons, List.length_nil]
      omega
theorem u8of {n : Nat} (h : n < 200) : IntKind.u8.wrap (IntKind.i64.wrap ((48 : Int) + (n : Int))) = ((48 + n : Nat) : Int) := by
  rw [w64 (by omega) (by omega), w8 (by omega) (by omega)]; omega
theorem p_num (n : Nat) (hn : n ≤ 100000) : c_spec_l1Num M (n : Int) = some ((Lib.decDigits n, ()), ()) := by
  induction n using Nat.strongRecOn with
  | ind n ih =>
    apply e_spec_l1Num
    simp only [q_spec_l1Num]
    rw [Lib.decDigits]
    by_cases h : n < 10
    · rw [if_pos (by simp; omega), dif_pos h, u8of (by omega), bytesStr_one]
    · have e1 : Int.tdiv (n : Int) 10 = ((n / 10 : Nat) : Int) := by
        rw [Int.tdiv_eq_ediv_of_nonneg (by omega)]; omega
      have e2 : Int.tmod (n : Int) 10 = ((n % 10 : Nat) : Int) := by
        rw [Int.tmod_eq_emod_of_nonneg (by omega)]; omega
      have hl := decDigits_len (n / 10)
      rw [if_neg (by simp; omega), dif_neg h, if_neg (by decide), e1, e2, w64 (by omega) (by omega), ih (n / 10) (by omega) (by omega)]
      simp only [Option.bind_some]
      rw [if_neg (by decide), u8of (by omega), bytesStr_one, if_pos (by simp only [List.length_cons, List.length_nil]; omega)]
theorem p_Itoa (n : Nat) (hn : n ≤ 100000) : c_strconv_Itoa M (n : Int) = some ((Lib.decDigits n, ()), ()) := by
  apply e_strconv_Itoa
  simp only [q_strconv_Itoa]
  rw [if_pos (by omega)]
  simp only [Lib.itoa]
  rw [if_neg (by omega), Int.toNat_natCast]

/-- Numbers' texts, a blank ahead of each. -/
def nums (a : List Int) : List UInt8 := a.flatMap fun n => 32 :: Lib.decDigits n.toNat
theorem nums_cons (n : Int) (a : List Int) : nums (n :: a) = 32 :: (Lib.decDigits n.toNat ++ nums a) := by simp [nums]
def okN (a : List Int) : Prop := ∀ n ∈ a, 0 ≤ n ∧ n ≤ 1000
theorem p_numI {n : Int} (h : 0 ≤ n ∧ n ≤ 1000) : c_spec_l1Num M n = some ((Lib.decDigits n.toNat, ()), ()) ∧ c_strconv_Itoa M n = some ((Lib.decDigits n.toNat, ()), ()) ∧ (Lib.decDigits n.toNat).length ≤ 1001 := by
  have h1 := p_num n.toNat (by omega)
  have h2 := p_Itoa n.toNat (by omega)
  have h3 := decDigits_len n.toNat
  rw [show ((n.toNat : Nat) : Int) = n by omega] at h1 h2
  exact ⟨h1, h2, by omega⟩

end Go.Proofs.YtndnhbihcnlpaaaDoorSt.Ev

/- Plain laws: the laws' own copying, comparing and counting functions answer as they should, at lists that memory can hold. -/
namespace Go.Proofs.YtndnhbihcnlpaaaDoorSt.Ev
open Go
set_option autoImplicit false
set_option linter.unusedVariables false
set_option linter.unusedSimpArgs false

theorem p_toIntS_loop (a : List Int) (ha : a.length ≤ 17592186044416) : ∀ k i : Nat, i + k = a.length → ∀ o : List Int, o.length = a.length → l_laws_toIntS_58 M a o i = some (.inl (o.take i ++ a.drop i, ())) := by
  intro k
  induction k with
  | zero =>
    intro i hi o ho
    obtain rfl : i = a.length := by omega
    apply el_laws_toIntS_58
    simp only [ql_laws_toIntS_58, Int.lt_irrefl, decide_false, Bool.false_eq_true, if_false, List.drop_length, List.append_nil]
    rw [← ho, List.take_length]
  | succ k ih =>
    intro i hi o ho
    apply el_laws_toIntS_58
    have h1 : i < a.length := by omega
    have h2 : i < o.length := by omega
    simp only [ql_laws_toIntS_58]
    rw [if_pos (by simpa using h1), idx_lt h1, inc_nat (by omega)]
    simp only [Option.bind_some]
    rw [if_pos (by omega)]
    simp only [Option.bind_some, Int.toNat_natCast, List.getElem?_eq_getElem h2]
    rw [ih (i + 1) (by omega) _ (by simpa using ho)]
    rw [List.take_set, List.take_succ_eq_append_getElem h2, List.set_append_right _ _ (by simp; omega), List.drop_eq_getElem_cons h1]
    simp [Nat.min_eq_left (Nat.le_of_lt h2)]

theorem p_toIntS (a : List Int) (ha : a.length ≤ 17592186044416) : c_laws_toIntS M a = some ((a, ()), ()) := by
  apply e_laws_toIntS
  simp only [q_laws_toIntS]
  rw [if_pos (by refine ⟨by omega, by omega, trivial⟩)]
  have := p_toIntS_loop a ha a.length 0 (by omega) (List.replicate a.length 0) (by simp)
  simp only [Int.toNat_natCast]
  rw [show ((0 : Nat) : Int) = 0 from rfl] at this
  rw [this]
  simp

theorem p_eqIntS_loop (a : List Int) (ha : a.length ≤ 17592186044416) : ∀ k i : Nat, i + k = a.length → l_laws_eqIntS_58 M a a i = some (.inl ()) := by
  intro k
  induction k with
  | zero =>
    intro i hi
    obtain rfl : i = a.length := by omega
    apply el_laws_eqIntS_58
    simp only [ql_laws_eqIntS_58, Int.lt_irrefl, decide_false, Bool.false_eq_true, if_false]
  | succ k ih =>
    intro i hi
    apply el_laws_eqIntS_58
    have h1 : i < a.length := by omega
    simp only [ql_laws_eqIntS_58]
    rw [if_pos (by simpa using h1), idx_lt h1, inc_nat (by omega)]
    simp only [Option.bind_some, bne_self_eq_false, Bool.false_eq_true, if_false]
    exact ih (i + 1) (by omega)
theorem p_eqIntS (a : List Int) (ha : a.length ≤ 17592186044416) : c_laws_eqIntS M a a = some ((true, ()), ()) := by
  apply e_laws_eqIntS
  simp only [q_laws_eqIntS, bne_self_eq_false, Bool.false_eq_true, if_false]
  have := p_eqIntS_loop a ha a.length 0 (by omega)
  rw [show ((0 : Nat) : Int) = 0 from rfl] at this
  rw [this]
  rfl

theorem p_szIntS (a : List Int) (n : Int) (hn : 0 ≤ n) (hn' : n ≤ 1048576) (ha : a.length ≤ 9223372036854775807) : c_laws_szIntS M a n = some ((if n - a.length < 0 then -1 else n - a.length, ()), ()) := by
  apply e_laws_szIntS
  simp only [q_laws_szIntS, decide_eq_true_eq]
  rw [w64 (by omega) (by omega)]
  split <;> rfl

theorem p_szSign (s : TSign) (n : Int) (hn : 0 ≤ n) (hn' : n ≤ 1048576) (ha : s.1.length ≤ 9223372036854775807) : ∃ r : Int, c_laws_szSign M s n = some ((r, ()), ()) ∧ r ≤ n ∧ (0 ≤ r → s.1.length ≤ 1048576) := by
  refine ⟨if n - s.1.length < 0 then -1 else n - s.1.length, ?_, by split <;> omega, by split <;> omega⟩
  apply e_laws_szSign
  simp only [q_laws_szSign, p_szIntS s.1 n hn hn' ha, Option.bind_some, decide_eq_true_eq]
  by_cases h : n - (s.1.length : Int) < 0
  · simp [h]
  · simp [h]

theorem p_toSign (s : TSign) (ha : s.1.length ≤ 17592186044416) : c_laws_toSign M s = some ((s, ()), ()) := by
  apply e_laws_toSign
  simp only [q_laws_toSign, p_toIntS s.1 ha, Option.bind_some]
theorem p_eqSign (s : TSign) (ha : s.1.length ≤ 17592186044416) : c_laws_eqSign M s s = some ((true, ()), ()) := by
  apply e_laws_eqSign
  simp only [q_laws_eqSign, p_eqIntS s.1 ha, Option.bind_some, Bool.not_true, Bool.false_eq_true, if_false]

end Go.Proofs.YtndnhbihcnlpaaaDoorSt.Ev

/- Plain laws: literals, compared. No condition but sizes. -/
namespace Go.Proofs.YtndnhbihcnlpaaaDoorSt.Ev
open Go
set_option autoImplicit false
set_option linter.unusedVariables false
set_option linter.unusedSimpArgs false

theorem p_eqLit (x : TLit) (h : smL x) : c_laws_eqLit M x x = some ((true, ()), ()) := by
  apply e_laws_eqLit
  simp only [q_laws_eqLit, p_eqIntS x.2.1 (by have := h.1; omega), p_eqIntS x.2.2.1 (by have := h.2; omega), Option.bind_some]
  simp

theorem p_eqLitS_loop (a : List TLit) (ha : a.length ≤ 1048576) (hx : ∀ x ∈ a, smL x) : ∀ k i : Nat, i + k = a.length → l_laws_eqLitS_58 M a a i = some (.inl ()) := by
  intro k
  induction k with
  | zero =>
    intro i hi
    obtain rfl : i = a.length := by omega
    apply el_laws_eqLitS_58
    simp only [ql_laws_eqLitS_58, Int.lt_irrefl, decide_false, Bool.false_eq_true, if_false]
  | succ k ih =>
    intro i hi
    apply el_laws_eqLitS_58
    have h1 : i < a.length := by omega
    simp only [ql_laws_eqLitS_58]
    rw [if_pos (by simpa using h1), idx_lt h1, inc_nat (by omega)]
    simp only [Option.bind_some, lit_eta, p_eqLit a[i] (hx _ (List.getElem_mem h1)), Bool.not_true, Bool.false_eq_true, if_false]
    exact ih (i + 1) (by omega)

theorem p_eqLitS (a : List TLit) (ha : a.length ≤ 1048576) (hx : ∀ x ∈ a, smL x) : c_laws_eqLitS M a a = some ((true, ()), ()) := by
  apply e_laws_eqLitS
  simp only [q_laws_eqLitS, bne_self_eq_false, Bool.false_eq_true, if_false]
  have := p_eqLitS_loop a ha hx a.length 0 (by omega)
  rw [show ((0 : Nat) : Int) = 0 from rfl] at this
  rw [this]
  rfl

end Go.Proofs.YtndnhbihcnlpaaaDoorSt.Ev

/- Plain laws: clauses, as the laws copy, compare and count them. No condition but sizes. -/
namespace Go.Proofs.YtndnhbihcnlpaaaDoorSt.Ev
open Go
set_option autoImplicit false
set_option linter.unusedVariables false
set_option linter.unusedSimpArgs false

theorem p_toLit (x : TLit) (h : smL x) : c_laws_toLit M x = some ((x, ()), ()) := by
  apply e_laws_toLit
  simp only [q_laws_toLit, p_toIntS x.2.1 (by have := h.1; omega), p_toIntS x.2.2.1 (by have := h.2; omega), Option.bind_some]

theorem p_toLitS_loop (a : List TLit) (ha : a.length ≤ 1048576) (hx : ∀ x ∈ a, smL x) : ∀ k i : Nat, i + k = a.length → ∀ o : List TLit, o.length = a.length → l_laws_toLitS_58 M a o i = some (.inl (o.take i ++ a.drop i, ())) := by
  intro k
  induction k with
  | zero =>
    intro i hi o ho
    obtain rfl : i = a.length := by omega
    apply el_laws_toLitS_58
    simp only [ql_laws_toLitS_58, Int.lt_irrefl, decide_false, Bool.false_eq_true, if_false, List.drop_length, List.append_nil]
    rw [← ho, List.take_length]
  | succ k ih =>
    intro i hi o ho
    apply el_laws_toLitS_58
    have h1 : i < a.length := by omega
    have h2 : i < o.length := by omega
    simp only [ql_laws_toLitS_58]
    rw [if_pos (by simpa using h1), idx_lt h1, inc_nat (by omega)]
    simp only [Option.bind_some, lit_eta, p_toLit a[i] (hx _ (List.getElem_mem h1))]
    rw [if_pos (by omega)]
    simp only [Option.bind_some, Int.toNat_natCast, List.getElem?_eq_getElem h2]
    rw [ih (i + 1) (by omega) _ (by simpa using ho)]
    rw [List.take_set, List.take_succ_eq_append_getElem h2, List.set_append_right _ _ (by simp; omega), List.drop_eq_getElem_cons h1]
    simp [Nat.min_eq_left (Nat.le_of_lt h2)]

theorem p_toLitS (a : List TLit) (ha : a.length ≤ 1048576) (hx : ∀ x ∈ a, smL x) : c_laws_toLitS M a = some ((a, ()), ()) := by
  apply e_laws_toLitS
  simp only [q_laws_toLitS]
  rw [if_pos (by refine ⟨by omega, by omega, trivial⟩)]
  have := p_toLitS_loop a ha hx a.length 0 (by omega) (List.replicate a.length (false, [], [], ())) (by simp)
  simp only [Int.toNat_natCast]
  rw [show ((0 : Nat) : Int) = 0 from rfl] at this
  rw [this]
  simp


def wlL (x : TLit) : Prop := x.2.1.length ≤ 9223372036854775807 ∧ x.2.2.1.length ≤ 9223372036854775807
theorem p_szLit (x : TLit) (n : Int) (hn : 0 ≤ n) (hn' : n ≤ 1048576) (hx : wlL x) : ∃ r : Int, c_laws_szLit M x n = some ((r, ()), ()) ∧ r ≤ n ∧ (0 ≤ r → smL x) := by
  by_cases h1 : n - x.2.1.length < 0
  · refine ⟨-1, e_laws_szLit _ _ ?_, by omega, by omega⟩
    simp only [q_laws_szLit, p_szIntS x.2.1 n hn hn' hx.1, Option.bind_some, if_pos h1]
    rfl
  · by_cases h2 : n - x.2.1.length - x.2.2.1.length < 0
    · refine ⟨-1, e_laws_szLit _ _ ?_, by omega, by omega⟩
      simp only [q_laws_szLit, p_szIntS x.2.1 n hn hn' hx.1, Option.bind_some, if_neg h1, decide_eq_true_eq, p_szIntS x.2.2.1 (n - x.2.1.length) (by omega) (by omega) hx.2, if_pos h2]
      rfl
    · refine ⟨n - x.2.1.length - x.2.2.1.length, e_laws_szLit _ _ ?_, by omega, fun _ => ⟨by omega, by omega⟩⟩
      simp only [q_laws_szLit, p_szIntS x.2.1 n hn hn' hx.1, Option.bind_some, if_neg h1, decide_eq_true_eq, p_szIntS x.2.2.1 (n - x.2.1.length) (by omega) (by omega) hx.2, if_neg h2]

theorem p_szLitS_loop (a : List TLit) (ha : a.length ≤ 1048576) (hx : ∀ x ∈ a, wlL x) : ∀ (k i : Nat) (n : Int), i + k = a.length → 0 ≤ n → n ≤ 1048576 → (∀ x ∈ a.take i, smL x) →
    ∃ r, l_laws_szLitS_122 M a n i = some r ∧ (match r with | .inl y => 0 ≤ y.1 ∧ y.1 ≤ n ∧ ∀ x ∈ a, smL x | .inr y => y.1.1 = -1) := by
  intro k
  induction k with
  | zero =>
    intro i n hi h0 hn hs
    obtain rfl : i = a.length := by omega
    refine ⟨.inl (n, ()), el_laws_szLitS_122 _ _ _ (by simp [ql_laws_szLitS_122]), h0, Int.le_refl _, by simpa using hs⟩
  | succ k ih =>
    intro i n hi h0 hn hs
    have h1 : i < a.length := by omega
    obtain ⟨m, hm, hm1, hm2⟩ := p_szLit a[i] n h0 hn (hx _ (List.getElem_mem h1))
    by_cases hneg : m < 0
    · refine ⟨.inr ((-1, ()), ()), el_laws_szLitS_122 _ _ _ ?_, rfl⟩
      simp only [ql_laws_szLitS_122]
      rw [if_pos (by simpa using h1), idx_lt h1]
      simp only [Option.bind_some, lit_eta, hm]
      rw [if_pos (by simpa using hneg)]
    · obtain ⟨r, hr, hp⟩ := ih (i + 1) m (by omega) (by omega) (by omega) (by
        intro x hx'
        rw [List.take_succ_eq_append_getElem h1] at hx'
        rcases List.mem_append.1 hx' with h | h
        · exact hs x h
        · rw [List.mem_singleton.1 h]; exact hm2 (by omega))
      refine ⟨r, el_laws_szLitS_122 _ _ _ ?_, ?_⟩
      · simp only [ql_laws_szLitS_122]
        rw [if_pos (by simpa using h1), idx_lt h1, inc_nat (by omega)]
        simp only [Option.bind_some, lit_eta, hm]
        rw [if_neg (by simpa using hneg)]
        exact hr
      · cases r with
        | inl y => exact ⟨hp.1, by have := hp.2.1; omega, hp.2.2⟩
        | inr y => exact hp
theorem p_szLitS (a : List TLit) (n : Int) (hn : 0 ≤ n) (hn' : n ≤ 1048576) (ha : a.length ≤ 9223372036854775807) (hx : ∀ x ∈ a, wlL x) : ∃ r : Int, c_laws_szLitS M a n = some ((r, ()), ()) ∧ r ≤ n ∧ (0 ≤ r → a.length ≤ 1048576 ∧ ∀ x ∈ a, smL x) := by
  have hw : IntKind.i64.wrap (n - a.length) = n - a.length := w64 (by omega) (by omega)
  by_cases h1 : n - a.length < 0
  · refine ⟨-1, e_laws_szLitS _ _ ?_, by omega, by omega⟩
    simp only [q_laws_szLitS, hw]
    rw [if_pos (by simpa using h1)]
  · obtain ⟨r, hr, hp⟩ := p_szLitS_loop a (by omega) hx a.length 0 (n - a.length) (by omega) (by omega) (by omega) (by simp)
    rw [show ((0 : Nat) : Int) = 0 from rfl] at hr
    cases r with
    | inl y =>
      refine ⟨y.1, e_laws_szLitS _ _ ?_, by have := hp.2.1; omega, fun _ => ⟨by omega, hp.2.2⟩⟩
      simp only [q_laws_szLitS, hw]
      rw [if_neg (by simpa using h1), hr]
      rfl
    | inr y =>
      obtain ⟨⟨y, _⟩, _⟩ := y
      simp only at hp
      subst hp
      refine ⟨-1, e_laws_szLitS _ _ ?_, by omega, by omega⟩
      simp only [q_laws_szLitS, hw]
      rw [if_neg (by simpa using h1), hr]
      rfl

end Go.Proofs.YtndnhbihcnlpaaaDoorSt.Ev

/- Plain laws: steps as the laws copy, compare and count them. No condition but sizes. -/
namespace Go.Proofs.YtndnhbihcnlpaaaDoorSt.Ev
open Go
set_option autoImplicit false
set_option linter.unusedVariables false
set_option linter.unusedSimpArgs false

abbrev TStep := Int × List Int × List Int × List TLit × Unit
def smP (x : TStep) : Prop := x.2.1.length ≤ 1048576 ∧ x.2.2.1.length ≤ 1048576 ∧ x.2.2.2.1.length ≤ 1048576 ∧ ∀ l ∈ x.2.2.2.1, smL l
def wlP (x : TStep) : Prop := x.2.1.length ≤ 9223372036854775807 ∧ x.2.2.1.length ≤ 9223372036854775807 ∧ x.2.2.2.1.length ≤ 9223372036854775807 ∧ ∀ l ∈ x.2.2.2.1, wlL l
theorem step_eta (x : TStep) : (x.1, x.2.1, x.2.2.1, x.2.2.2.1, ()) = x := rfl
theorem p_toStep (x : TStep) (h : smP x) : c_laws_toStep M x = some ((x, ()), ()) := by
  apply e_laws_toStep
  simp only [q_laws_toStep, p_toIntS x.2.1 (by have := h.1; omega), p_toIntS x.2.2.1 (by have := h.2.1; omega), p_toLitS x.2.2.2.1 h.2.2.1 h.2.2.2, Option.bind_some]
theorem p_eqStep (x : TStep) (h : smP x) : c_laws_eqStep M x x = some ((true, ()), ()) := by
  apply e_laws_eqStep
  simp only [q_laws_eqStep, p_eqIntS x.2.1 (by have := h.1; omega), p_eqIntS x.2.2.1 (by have := h.2.1; omega), p_eqLitS x.2.2.2.1 h.2.2.1 h.2.2.2, Option.bind_some]
  simp
theorem p_szStep (x : TStep) (n : Int) (hn : 0 ≤ n) (hn' : n ≤ 1048576) (hx : wlP x) : ∃ r : Int, c_laws_szStep M x n = some ((r, ()), ()) ∧ r ≤ n ∧ (0 ≤ r → smP x) := by
  have e1 := p_szIntS x.2.1 n hn hn' hx.1
  generalize hr1 : (if n - (x.2.1.length : Int) < 0 then -1 else n - x.2.1.length : Int) = r1 at e1
  have f1 : r1 ≤ n ∧ (0 ≤ r1 → x.2.1.length ≤ 1048576) := by
    split at hr1 <;> omega
  by_cases h1 : r1 < 0
  · refine ⟨-1, e_laws_szStep _ _ ?_, by omega, by omega⟩
    simp only [q_laws_szStep, e1, Option.bind_some]
    rw [if_pos (by simpa using h1)]
  · have e2 := p_szIntS x.2.2.1 r1 (by omega) (by omega) hx.2.1
    generalize hr2 : (if r1 - (x.2.2.1.length : Int) < 0 then -1 else r1 - x.2.2.1.length : Int) = r2 at e2
    have f2 : r2 ≤ n ∧ (0 ≤ r2 → x.2.2.1.length ≤ 1048576) := by
      split at hr2 <;> omega
    by_cases h2 : r2 < 0
    · refine ⟨-1, e_laws_szStep _ _ ?_, by omega, by omega⟩
      simp only [q_laws_szStep, e1, e2, Option.bind_some]
      rw [if_neg (by simpa using h1), if_pos (by simpa using h2)]
    · obtain ⟨r3, e3, g3, k3⟩ := p_szLitS x.2.2.2.1 r2 (by omega) (by omega) hx.2.2.1 hx.2.2.2
      by_cases h3 : r3 < 0
      · refine ⟨-1, e_laws_szStep _ _ ?_, by omega, by omega⟩
        simp only [q_laws_szStep, e1, e2, e3, Option.bind_some]
        rw [if_neg (by simpa using h1), if_neg (by simpa using h2), if_pos (by simpa using h3)]
      · refine ⟨r3, e_laws_szStep _ _ ?_, by omega, fun _ => ⟨f1.2 (by omega), f2.2 (by omega), (k3 (by omega)).1, (k3 (by omega)).2⟩⟩
        simp only [q_laws_szStep, e1, e2, e3, Option.bind_some]
        rw [if_neg (by simpa using h1), if_neg (by simpa using h2), if_neg (by simpa using h3)]
end Go.Proofs.YtndnhbihcnlpaaaDoorSt.Ev

/- Plain laws: steps that have a text, and their texts, by both programs. No condition but sizes. -/
namespace Go.Proofs.YtndnhbihcnlpaaaDoorSt.Ev
open Go
set_option autoImplicit false
set_option linter.unusedVariables false
set_option linter.unusedSimpArgs false

theorem p_tl1 (x : Int) : c_impl_Sign_isTold_1 M x = some ((!(decide (0 ≤ x) && decide (x ≤ 999)), ()), ()) := by
  apply e_impl_Sign_isTold_1
  simp only [q_impl_Sign_isTold_1, decide_eq_true_eq]
  by_cases h : x < 0
  · rw [if_pos h]; simp; omega
  · rw [if_neg h]
    have h0 : 0 ≤ x := by omega
    rw [decide_eq_true h0, Bool.true_and]
    by_cases h3 : x ≤ 999
    · rw [decide_eq_true h3, decide_eq_false (by omega)]; rfl
    · rw [decide_eq_false h3, decide_eq_true (by omega)]; rfl

theorem p_tlIdx_loop (a : List Int) (ha : a.length ≤ 17592186044416) : ∀ k i : Nat, i + k = a.length → ∃ r, l_slices_IndexFunc_int_int__impl_Sign_isTold_1_26 M a () a.length i = some r ∧ (match r with | .inl _ => (a.drop i).all (fun x => decide (0 ≤ x) && decide (x ≤ 999)) = true | .inr r => 0 ≤ r.1.1 ∧ (a.drop i).all (fun x => decide (0 ≤ x) && decide (x ≤ 999)) = false) := by
  intro k
  induction k with
  | zero =>
    intro i hi
    obtain rfl : i = a.length := by omega
    refine ⟨.inl (), el_slices_IndexFunc_int_int__impl_Sign_isTold_1_26 _ _ _ _ (by simp [ql_slices_IndexFunc_int_int__impl_Sign_isTold_1_26]), by simp⟩
  | succ k ih =>
    intro i hi
    have h1 : i < a.length := by omega
    obtain ⟨r, hr, hm⟩ := ih (i + 1) (by omega)
    rw [List.drop_eq_getElem_cons h1, List.all_cons]
    by_cases hp : (decide (0 ≤ a[i]) && decide (a[i] ≤ 999)) = true
    · refine ⟨r, el_slices_IndexFunc_int_int__impl_Sign_isTold_1_26 _ _ _ _ ?_, by rw [hp, Bool.true_and]; exact hm⟩
      simp only [ql_slices_IndexFunc_int_int__impl_Sign_isTold_1_26]
      rw [if_pos (by simpa using h1), idx_lt h1, inc_nat (by omega)]
      simp only [Option.bind_some, p_tl1, hp, Bool.not_true, Bool.false_eq_true, if_false]
      exact hr
    · rw [Bool.not_eq_true] at hp
      refine ⟨.inr (((i : Int), ()), ()), el_slices_IndexFunc_int_int__impl_Sign_isTold_1_26 _ _ _ _ ?_, Int.natCast_nonneg i, by rw [hp, Bool.false_and]⟩
      simp only [ql_slices_IndexFunc_int_int__impl_Sign_isTold_1_26]
      rw [if_pos (by simpa using h1), idx_lt h1]
      simp only [Option.bind_some, p_tl1, hp, Bool.not_false, if_true]

theorem p_tlContains (a : List Int) (ha : a.length ≤ 17592186044416) : c_slices_ContainsFunc_int_int__impl_Sign_isTold_1 M a () = some ((!(a.all (fun x => decide (0 ≤ x) && decide (x ≤ 999))), ()), ()) := by
  apply e_slices_ContainsFunc_int_int__impl_Sign_isTold_1
  simp only [q_slices_ContainsFunc_int_int__impl_Sign_isTold_1]
  obtain ⟨r, hr, hm⟩ := p_tlIdx_loop a ha a.length 0 (by omega)
  rw [show ((0 : Nat) : Int) = 0 from rfl] at hr
  rw [List.drop_zero] at hm
  cases r with
  | inl r =>
    rw [e_slices_IndexFunc_int_int__impl_Sign_isTold_1 a () (r := ((-1, ()), ())) (by simp only [q_slices_IndexFunc_int_int__impl_Sign_isTold_1, hr, Option.bind_some, Sum.elim_inl])]
    simp only at hm
    simp [hm]
  | inr r =>
    rw [e_slices_IndexFunc_int_int__impl_Sign_isTold_1 a () (r := r) (by simp only [q_slices_IndexFunc_int_int__impl_Sign_isTold_1, hr, Option.bind_some, Sum.elim_inr])]
    simp only at hm
    simp [hm]

theorem p_concatI (A B : List Int) (hA : A.length ≤ 1048576) (hB : B.length ≤ 1048576) : c_slices_Concat_int_int M [A, B] = some ((A ++ B, ()), ()) := by
  have w1 : IntKind.i64.wrap ((0 : Int) + 1) = 1 := w64 (by omega) (by omega)
  have w2 : IntKind.i64.wrap ((1 : Int) + 1) = 2 := w64 (by omega) (by omega)
  have a2 : l_slices_Concat_int_int_58 M [A, B] ((A.length : Int) + B.length) [A, B] (([A, B] : List (List Int)).length : Int) 2 = some (.inl ([A, B], (A.length : Int) + B.length, ())) := el_slices_Concat_int_int_58 _ _ _ _ _ (by simp [ql_slices_Concat_int_int_58])
  have a1 : l_slices_Concat_int_int_58 M [A, B] (A.length : Int) [A, B] (([A, B] : List (List Int)).length : Int) 1 = some (.inl ([A, B], (A.length : Int) + B.length, ())) := el_slices_Concat_int_int_58 _ _ _ _ _ (by
    simp only [ql_slices_Concat_int_int_58]
    rw [if_pos (by simp), show idx [A, B] 1 = some B from rfl]
    simp only [Option.bind_some]
    rw [w64 (by omega) (by omega), if_neg (by simp; omega), w2]
    exact a2)
  have a0 : l_slices_Concat_int_int_58 M [A, B] 0 [A, B] (([A, B] : List (List Int)).length : Int) 0 = some (.inl ([A, B], (A.length : Int) + B.length, ())) := el_slices_Concat_int_int_58 _ _ _ _ _ (by
    simp only [ql_slices_Concat_int_int_58]
    rw [if_pos (by simp), show idx [A, B] 0 = some A from rfl]
    simp only [Option.bind_some]
    rw [Int.zero_add, w64 (by omega) (by omega), if_neg (by simp), w1]
    exact a1)
  have b2 : l_slices_Concat_int_int_250 M (A ++ B) [A, B] (([A, B] : List (List Int)).length : Int) 2 = some (.inl (A ++ B, ())) := el_slices_Concat_int_int_250 _ _ _ _ (by simp [ql_slices_Concat_int_int_250])
  have b1 : l_slices_Concat_int_int_250 M A [A, B] (([A, B] : List (List Int)).length : Int) 1 = some (.inl (A ++ B, ())) := el_slices_Concat_int_int_250 _ _ _ _ (by
    simp only [ql_slices_Concat_int_int_250]
    rw [if_pos (by simp), show idx [A, B] 1 = some B from rfl]
    simp only [Option.bind_some]
    rw [if_pos (by omega), w2]
    exact b2)
  have b0 : l_slices_Concat_int_int_250 M [] [A, B] (([A, B] : List (List Int)).length : Int) 0 = some (.inl (A ++ B, ())) := el_slices_Concat_int_int_250 _ _ _ _ (by
    simp only [ql_slices_Concat_int_int_250]
    rw [if_pos (by simp), show idx [A, B] 0 = some A from rfl]
    simp only [Option.bind_some]
    rw [if_pos (by simp; omega), w1, List.nil_append]
    exact b1)
  apply e_slices_Concat_int_int
  simp only [q_slices_Concat_int_int, a0, Option.bind_some, Sum.elim_inl]
  rw [if_pos (by omega), b0]
  rfl


def okS (l : List Int) : Bool := l.all fun x => decide (0 ≤ x) && decide (x ≤ 999)
/-- A step has a text. -/
def toldS (a : List Int) (x : TStep) : Bool := decide (1 ≤ x.1) && decide (x.1 ≤ 5) && (clOK a x.2.2.2.1 && (okS x.2.1 && okS x.2.2.1))
theorem p_isTold (s : TSign) (hg : gS s.1 = true) (x : TStep) (h : smP x) : c_impl_Sign_isTold M s x = some ((toldS s.1 x, ()), ()) := by
  obtain ⟨h1, h2, h3, h4⟩ := h
  apply e_impl_Sign_isTold
  simp only [q_impl_Sign_isTold, sign_eta, p_isClause s hg _ h3, p_concatI _ _ h1 h2, p_tlContains (x.2.1 ++ x.2.2.1) (by simp; omega), Option.bind_some, toldS]
  by_cases c1 : 1 ≤ x.1
  · rw [if_pos (by simpa using c1), decide_eq_true c1]
    by_cases c2 : x.1 ≤ 5
    · rw [if_pos (by simpa using c2), decide_eq_true c2]
      cases clOK s.1 x.2.2.2.1 with
      | false => rfl
      | true => rw [if_pos rfl]; simp [okS, List.all_append]
    · rw [if_neg (by simpa using c2), decide_eq_false c2]; rfl
  · rw [if_neg (by simpa using c1), decide_eq_false c1]; rfl
theorem p_l17Good (s : TSign) (hs : s.1.length ≤ 1048576) (x : TStep) (h : smP x) : c_spec_l17Good M s x = some ((gS s.1 && toldS s.1 x, ()), ()) := by
  obtain ⟨h1, h2, h3, h4⟩ := h
  apply e_spec_l17Good
  simp only [q_spec_l17Good, sign_eta, p_spec_GoodClause s hs _ h3 h4, p_l1In, p_l1All x.2.1 0 999 (by omega), p_l1All x.2.2.1 0 999 (by omega), Option.bind_some, toldS, ← okS.eq_1]
  cases gS s.1 <;> cases clOK s.1 x.2.2.2.1 <;> cases (decide (1 ≤ x.1) && decide (x.1 ≤ 5)) <;> cases okS x.2.1 <;> rfl

theorem okS_N {l : List Int} (h : okS l = true) : okN l := fun n hn => by
  have := (List.all_eq_true.1 h) n hn
  simp only [Bool.and_eq_true, decide_eq_true_eq] at this
  omega
theorem p_nums_loop (a : List Int) (ha : okN a) (hl : a.length ≤ 1048576) : ∀ (k i : Nat) (out : List UInt8), i + k = a.length → out.length ≤ 2000 * i + 100 → l_impl_numbers_58 M out a a.length i = some (.inl (out ++ nums (a.drop i), ())) := by
  intro k
  induction k with
  | zero =>
    intro i out hi ho
    obtain rfl : i = a.length := by omega
    apply el_impl_numbers_58
    simp [ql_impl_numbers_58, nums]
  | succ k ih =>
    intro i out hi ho
    have h1 : i < a.length := by omega
    obtain ⟨_, e1, e3⟩ := p_numI (ha _ (List.getElem_mem h1))
    apply el_impl_numbers_58
    simp only [ql_impl_numbers_58]
    rw [if_pos (by simpa using h1), idx_lt h1, inc_nat (by omega)]
    simp only [Option.bind_some, e1]
    rw [if_pos (by simp only [List.length_cons, List.length_nil]; omega), if_pos (by simp only [List.length_append, List.length_cons, List.length_nil]; omega), ih (i + 1) _ (by omega) (by simp only [List.length_append, List.length_cons, List.length_nil]; omega)]
    rw [List.drop_eq_getElem_cons h1, nums_cons]
    simp
theorem p_numbers (a : List Int) (ha : okN a) (hl : a.length ≤ 1048576) : c_impl_numbers M a = some ((nums a, ()), ()) := by
  apply e_impl_numbers
  have := p_nums_loop a ha hl a.length 0 [] (by omega) (by simp)
  rw [show ((0 : Nat) : Int) = 0 from rfl, List.drop_zero, List.nil_append] at this
  simp only [q_impl_numbers, this, Option.bind_some, Sum.elim_inl]
theorem p_st58_loop (s : TSign) (x : TStep) (a : List Int) (ha : okN a) (hl : a.length ≤ 1048576) : ∀ (k i : Nat) (out : List UInt8), i + k = a.length → out.length ≤ 2000 * i + 100 → l_spec_l17Step_58 M s x out a a.length i = some (.inl (s, x, out ++ nums (a.drop i), ())) := by
  intro k
  induction k with
  | zero =>
    intro i out hi ho
    obtain rfl : i = a.length := by omega
    apply el_spec_l17Step_58
    simp [ql_spec_l17Step_58, nums]
  | succ k ih =>
    intro i out hi ho
    have h1 : i < a.length := by omega
    obtain ⟨e1, _, e3⟩ := p_numI (ha _ (List.getElem_mem h1))
    apply el_spec_l17Step_58
    simp only [ql_spec_l17Step_58]
    rw [if_pos (by simpa using h1), idx_lt h1, inc_nat (by omega)]
    simp only [Option.bind_some, e1]
    rw [if_pos (by simp only [List.length_cons, List.length_nil]; omega), if_pos (by simp only [List.length_append, List.length_cons, List.length_nil]; omega), sign_eta, step_eta, ih (i + 1) _ (by omega) (by simp only [List.length_append, List.length_cons, List.length_nil]; omega)]
    rw [List.drop_eq_getElem_cons h1, nums_cons]
    simp
theorem p_st250_loop (s : TSign) (x : TStep) (a : List Int) (ha : okN a) (hl : a.length ≤ 1048576) : ∀ (k i : Nat) (out : List UInt8), i + k = a.length → out.length ≤ 2000 * i + 3000000000 → l_spec_l17Step_250 M s x out a a.length i = some (.inl (s, x, out ++ nums (a.drop i), ())) := by
  intro k
  induction k with
  | zero =>
    intro i out hi ho
    obtain rfl : i = a.length := by omega
    apply el_spec_l17Step_250
    simp [ql_spec_l17Step_250, nums]
  | succ k ih =>
    intro i out hi ho
    have h1 : i < a.length := by omega
    obtain ⟨e1, _, e3⟩ := p_numI (ha _ (List.getElem_mem h1))
    apply el_spec_l17Step_250
    simp only [ql_spec_l17Step_250]
    rw [if_pos (by simpa using h1), idx_lt h1, inc_nat (by omega)]
    simp only [Option.bind_some, e1]
    rw [if_pos (by simp only [List.length_cons, List.length_nil]; omega), if_pos (by simp only [List.length_append, List.length_cons, List.length_nil]; omega), sign_eta, step_eta, ih (i + 1) _ (by omega) (by simp only [List.length_append, List.length_cons, List.length_nil]; omega)]
    rw [List.drop_eq_getElem_cons h1, nums_cons]
    simp

/-- The word of a rule. -/
def wordT (n : Int) : List UInt8 := if (n == (1 : Int)) = true then [105, 110, 112, 117, 116] else if (n == (2 : Int)) = true then [115, 117, 112, 101, 114] else if (n == (3 : Int)) = true then [114, 101, 115, 111, 108, 118, 101] else if (n == (4 : Int)) = true then [102, 97, 99, 116, 111, 114] else [110, 111, 114, 109, 97, 108]
theorem wordT_len (n : Int) : (wordT n).length ≤ 10 := by
  unfold wordT; repeat' split
  all_goals simp
theorem p_word (n : Int) : c_spec_l17Word M n = some ((wordT n, ()), ()) ∧ c_impl_wordOf M n = some ((wordT n, ()), ()) := by
  refine ⟨e_spec_l17Word _ ?_, e_impl_wordOf _ ?_⟩
  · simp only [q_spec_l17Word, wordT]
    repeat' split
    all_goals rfl
  · simp only [q_impl_wordOf, wordT]
    repeat' split
    all_goals rfl
noncomputable def stepT (a : List Int) (x : TStep) : List UInt8 := ((((wordT x.1 ++ nums x.2.1) ++ [32, 58]) ++ nums x.2.2.1) ++ [32, 58, 32]) ++ clt a x.2.2.2.1
theorem numsL (a : List Int) (ha : okN a) : (nums a).length ≤ 1002 * a.length := by
  induction a with
  | nil => simp [nums]
  | cons n a ih =>
    have h1 := ih (fun x hx => ha x (by simp [hx]))
    have h2 := (p_numI (ha n (by simp))).2.2
    rw [nums_cons]
    simp only [List.length_cons, List.length_append]
    omega
theorem p_l17Step (s : TSign) (hg : gS s.1 = true) (x : TStep) (h : smP x) (ht : toldS s.1 x = true) : c_spec_l17Step M s x = some ((stepT s.1 x, ()), ()) ∧ c_impl_Sign_stepText M s x = some ((stepT s.1 x, ()), ()) := by
  simp only [toldS, Bool.and_eq_true] at ht
  obtain ⟨_, hc, o1, o2⟩ := ht
  have n1 := okS_N o1
  have n2 := okS_N o2
  obtain ⟨h1, h2, h3, h4⟩ := h
  have m1 := numsL _ n1
  have m2 := numsL _ n2
  have m3 := clt_len hg hc
  have m4 := wordT_len x.1
  have a1 := p_st58_loop s x x.2.1 n1 h1 x.2.1.length 0 (wordT x.1) (by omega) (by omega)
  have a2 := p_st250_loop s x x.2.2.1 n2 h2 x.2.2.1.length 0 ((wordT x.1 ++ nums x.2.1) ++ [32, 58]) (by omega) (by simp only [List.length_append, List.length_cons, List.length_nil]; omega)
  rw [show ((0 : Nat) : Int) = 0 from rfl, List.drop_zero] at a1 a2
  refine ⟨e_spec_l17Step _ _ ?_, e_impl_Sign_stepText _ _ ?_⟩
  · simp only [q_spec_l17Step, sign_eta, step_eta, (p_word x.1).1, Option.bind_some, a1, Sum.elim_inl]
    rw [if_pos (by simp only [List.length_append, List.length_cons, List.length_nil]; omega), a2]
    simp only [Option.bind_some, Sum.elim_inl, p_l4Text s hg _ hc]
    rw [if_pos (by simp only [List.length_append, List.length_cons, List.length_nil]; omega), if_pos (by simp only [List.length_append, List.length_cons, List.length_nil]; omega)]
    rfl
  · simp only [q_impl_Sign_stepText, sign_eta, (p_word x.1).2, Option.bind_some, p_numbers _ n1 h1, p_numbers _ n2 h2, p_clauseText s hg _ hc]
    rw [if_pos (by (try simp only [List.length_append, List.length_cons, List.length_nil]); omega), if_pos (by (try simp only [List.length_append, List.length_cons, List.length_nil]); omega), if_pos (by (try simp only [List.length_append, List.length_cons, List.length_nil]); omega), if_pos (by (try simp only [List.length_append, List.length_cons, List.length_nil]); omega), if_pos (by (try simp only [List.length_append, List.length_cons, List.length_nil]); omega)]
    rfl
end Go.Proofs.YtndnhbihcnlpaaaDoorSt.Ev

/- Plain laws: FnExactStepText. No condition but sizes. -/
namespace Go.Proofs.YtndnhbihcnlpaaaDoorSt.Ev
open Go
set_option autoImplicit false
set_option linter.unusedVariables false
set_option linter.unusedSimpArgs false

theorem p_StepTexts (s : TSign) (hs : s.1.length ≤ 1048576) (x : TStep) (h : smP x) : ∃ t : List UInt8 × Bool, c_spec_StepText M s x = some ((t.1, t.2, ()), ()) ∧ c_impl_StepText M s x = some ((t.1, t.2, ()), ()) := by
  cases hg : gS s.1 with
  | false =>
    refine ⟨([], false), e_spec_StepText _ _ ?_, e_impl_StepText _ _ ?_⟩
    · simp only [q_spec_StepText, sign_eta, step_eta, p_l17Good s hs x h, hg, Option.bind_some]; rfl
    · simp only [q_impl_StepText, sign_eta, p_impl_GoodSign s (by omega), hg, Option.bind_some]; rfl
  | true =>
    cases ht : toldS s.1 x with
    | false =>
      refine ⟨([], false), e_spec_StepText _ _ ?_, e_impl_StepText _ _ ?_⟩
      · simp only [q_spec_StepText, sign_eta, step_eta, p_l17Good s hs x h, hg, ht, Option.bind_some]; rfl
      · simp only [q_impl_StepText, sign_eta, step_eta, p_impl_GoodSign s (by omega), hg, p_isTold s hg x h, ht, Option.bind_some]; rfl
    | true =>
      obtain ⟨t1, t2⟩ := p_l17Step s hg x h ht
      refine ⟨(stepT s.1 x, true), e_spec_StepText _ _ ?_, e_impl_StepText _ _ ?_⟩
      · simp only [q_spec_StepText, sign_eta, step_eta, p_l17Good s hs x h, hg, ht, t1, Option.bind_some]; rfl
      · simp only [q_impl_StepText, sign_eta, step_eta, p_impl_GoodSign s (by omega), hg, p_isTold s hg x h, ht, t2, Option.bind_some]; rfl

theorem p_FnExactStepText (s : TSign) (x : TStep) (hs : s.1.length ≤ 9223372036854775807) (hx : wlP x) : c_laws_FnExactStepText M s x = some ((true, ()), ()) := by
  obtain ⟨r1, e1, g1, k1⟩ := p_szSign s 1048576 (by omega) (by omega) hs
  by_cases h1 : r1 < 0
  · apply e_laws_FnExactStepText
    simp only [q_laws_FnExactStepText, sign_eta, e1, Option.bind_some]
    rw [if_pos (by simpa using h1)]
  · obtain ⟨r2, e2, g2, k2⟩ := p_szStep x r1 (by omega) g1 hx
    by_cases h2 : r2 < 0
    · apply e_laws_FnExactStepText
      simp only [q_laws_FnExactStepText, sign_eta, step_eta, e1, e2, Option.bind_some]
      rw [if_neg (by simpa using h1), if_pos (by simpa using h2)]
    · have hs' := k1 (by omega)
      have hx' := k2 (by omega)
      obtain ⟨t, t1, t2⟩ := p_StepTexts s hs' x hx'
      apply e_laws_FnExactStepText
      simp only [q_laws_FnExactStepText, sign_eta, step_eta, e1, e2, Option.bind_some, p_toSign s (by omega), p_toStep x hx', t1, t2, p_eqSign s (by omega), p_eqStep x hx']
      rw [if_neg (by simpa using h1), if_neg (by simpa using h2)]
      simp

end Go.Proofs.YtndnhbihcnlpaaaDoorSt.Ev
