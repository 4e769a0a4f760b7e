/- Texts laid together: PAa, PBa, PB, PFd, PG, PGs, PJ, PO, SAa, PEb, SAb, SAc, PA, PFe, PF, PQ, PQm, PQl, PDe; no condition but those that each theorem names. -/
import Derived.Test.YtcjaikkdpclaaaaCoEq
/- Plain laws: numbers and rows. No condition but sizes. -/
namespace Go.Proofs.YtcjaikkdpclaaaaCo.Ev
open Go
set_option autoImplicit false
set_option linter.unusedVariables false
set_option linter.unusedSimpArgs false

theorem w64 {x : Int} (h : -9223372036854775808 ≤ x) (k : x < 9223372036854775808) : IntKind.i64.wrap x = x := by
  rw [IntKind.wrap_i64]
  omega
theorem w8 {x : Int} (h : 0 ≤ x) (k : x < 256) : IntKind.u8.wrap x = x := by
  simp only [IntKind.wrap, IntKind.bits, IntKind.signed, Bool.false_and, Bool.false_eq_true, if_false]
  omega
theorem idx_nat {α : Type} (xs : List α) (i : Nat) : idx xs (i : Int) = xs[i]? := by simp [idx]
theorem idx_zero {α : Type} (xs : List α) : idx xs 0 = xs[0]? := by simp [idx]
theorem idx_lt {α : Type} {xs : List α} {i : Nat} (h : i < xs.length) : idx xs (i : Int) = some xs[i] := by simp [idx, h]
theorem inc_nat {i : Nat} (h : i < 4611686018427387904) : IntKind.i64.wrap ((i : Int) + 1) = ((i + 1 : Nat) : Int) := by
  rw [w64 (by omega) (by omega)]; rfl

abbrev TSign := List Int × Unit
abbrev TLit := Bool × List Int × List Int × Unit

/-- Lists of no more than 2^20 numbers. -/
def smL (x : TLit) : Prop := x.2.1.length ≤ 1048576 ∧ x.2.2.1.length ≤ 1048576

end Go.Proofs.YtcjaikkdpclaaaaCo.Ev

/- Plain laws: good signatures. No condition but sizes. -/
namespace Go.Proofs.YtcjaikkdpclaaaaCo.Ev
open Go
set_option autoImplicit false
set_option linter.unusedVariables false
set_option linter.unusedSimpArgs false

theorem p_l1In (x lo hi : Int) : c_spec_l1In M x lo hi = some ((decide (lo ≤ x) && decide (x ≤ hi), ()), ()) := by
  apply e_spec_l1In
  simp only [q_spec_l1In, decide_eq_true_eq]
  by_cases h : x ≥ lo
  · rw [if_pos h]; simp [h]
  · rw [if_neg h]; simp; omega

theorem p_l1All_loop (a : List Int) (lo up : Int) (ha : a.length ≤ 17592186044416) : ∀ k i : Nat, i + k = a.length → l_spec_l1All_26 M lo up a a.length i = some (if (a.drop i).all (fun x => decide (lo ≤ x) && decide (x ≤ up)) = true then .inl () else .inr ((false, ()), ())) := by
  intro k
  induction k with
  | zero =>
    intro i hi
    obtain rfl : i = a.length := by omega
    apply el_spec_l1All_26
    simp [ql_spec_l1All_26]
  | succ k ih =>
    intro i hi
    apply el_spec_l1All_26
    have h1 : i < a.length := by omega
    simp only [ql_spec_l1All_26]
    rw [if_pos (by simpa using h1), idx_lt h1, inc_nat (by omega)]
    simp only [Option.bind_some, p_l1In, ih (i + 1) (by omega)]
    rw [List.drop_eq_getElem_cons h1, List.all_cons]
    generalize (decide (lo ≤ a[i]) && decide (a[i] ≤ up)) = b
    cases b <;> rfl

theorem p_l1All (a : List Int) (lo hi : Int) (ha : a.length ≤ 17592186044416) : c_spec_l1All M a lo hi = some ((a.all (fun x => decide (lo ≤ x) && decide (x ≤ hi)), ()), ()) := by
  apply e_spec_l1All
  simp only [q_spec_l1All]
  have := p_l1All_loop a lo hi ha a.length 0 (by omega)
  rw [show ((0 : Nat) : Int) = 0 from rfl] at this
  rw [this, List.drop_zero]
  cases a.all (fun x => decide (lo ≤ x) && decide (x ≤ hi)) <;> simp

/-- A signature that is good. -/
def gS (a : List Int) : Bool := decide (1 ≤ a.length) && (decide (a.length ≤ 10) && (a.all (fun x => decide (0 ≤ x) && decide (x ≤ 3)) && decide (a[0]? = some 0)))

theorem p_spec_GoodSign (s : TSign) (ha : s.1.length ≤ 17592186044416) : c_spec_GoodSign M s = some ((gS s.1, ()), ()) := by
  apply e_spec_GoodSign
  simp only [q_spec_GoodSign, p_l1In, p_l1All s.1 0 3 ha, Option.bind_some, gS]
  rcases hs : s.1 with _ | ⟨x, r⟩
  · simp
  · rw [idx_zero]
    simp only [List.length_cons, List.getElem?_cons_zero, Option.bind_some]
    by_cases h : r.length + 1 ≤ 10
    · rw [if_pos (by simp; omega)]
      cases (x :: r).all (fun x => decide (0 ≤ x) && decide (x ≤ 3)) <;> simp [h]
      rw [Bool.eq_iff_iff]; simp
    · rw [if_neg (by simp; omega)]
      simp [h]

theorem p_gs1 (x : Int) : c_impl_GoodSign_1 M x = some ((!(decide (0 ≤ x) && decide (x ≤ 3)), ()), ()) := by
  apply e_impl_GoodSign_1
  simp only [q_impl_GoodSign_1, decide_eq_true_eq]
  by_cases h : x < 0
  · rw [if_pos h]; simp; omega
  · rw [if_neg h]
    have h0 : 0 ≤ x := by omega
    rw [decide_eq_true h0, Bool.true_and]
    by_cases h3 : x ≤ 3
    · rw [decide_eq_true h3, decide_eq_false (by omega)]; rfl
    · rw [decide_eq_false h3, decide_eq_true (by omega)]; rfl

theorem p_gsIdx_loop (a : List Int) (ha : a.length ≤ 17592186044416) : ∀ k i : Nat, i + k = a.length → ∃ r, l_slices_IndexFunc_int_int__impl_GoodSign_1_26 M a () a.length i = some r ∧ (match r with | .inl _ => (a.drop i).all (fun x => decide (0 ≤ x) && decide (x ≤ 3)) = true | .inr r => 0 ≤ r.1.1 ∧ (a.drop i).all (fun x => decide (0 ≤ x) && decide (x ≤ 3)) = false) := by
  intro k
  induction k with
  | zero =>
    intro i hi
    obtain rfl : i = a.length := by omega
    refine ⟨.inl (), el_slices_IndexFunc_int_int__impl_GoodSign_1_26 _ _ _ _ (by simp [ql_slices_IndexFunc_int_int__impl_GoodSign_1_26]), by simp⟩
  | succ k ih =>
    intro i hi
    have h1 : i < a.length := by omega
    obtain ⟨r, hr, hm⟩ := ih (i + 1) (by omega)
    rw [List.drop_eq_getElem_cons h1, List.all_cons]
    by_cases hp : (decide (0 ≤ a[i]) && decide (a[i] ≤ 3)) = true
    · refine ⟨r, el_slices_IndexFunc_int_int__impl_GoodSign_1_26 _ _ _ _ ?_, by rw [hp, Bool.true_and]; exact hm⟩
      simp only [ql_slices_IndexFunc_int_int__impl_GoodSign_1_26]
      rw [if_pos (by simpa using h1), idx_lt h1, inc_nat (by omega)]
      simp only [Option.bind_some, p_gs1, hp, Bool.not_true, Bool.false_eq_true, if_false]
      exact hr
    · rw [Bool.not_eq_true] at hp
      refine ⟨.inr (((i : Int), ()), ()), el_slices_IndexFunc_int_int__impl_GoodSign_1_26 _ _ _ _ ?_, Int.natCast_nonneg i, by rw [hp, Bool.false_and]⟩
      simp only [ql_slices_IndexFunc_int_int__impl_GoodSign_1_26]
      rw [if_pos (by simpa using h1), idx_lt h1]
      simp only [Option.bind_some, p_gs1, hp, Bool.not_false, if_true]

theorem p_gsContains (a : List Int) (ha : a.length ≤ 17592186044416) : c_slices_ContainsFunc_int_int__impl_GoodSign_1 M a () = some ((!(a.all (fun x => decide (0 ≤ x) && decide (x ≤ 3))), ()), ()) := by
  apply e_slices_ContainsFunc_int_int__impl_GoodSign_1
  simp only [q_slices_ContainsFunc_int_int__impl_GoodSign_1]
  obtain ⟨r, hr, hm⟩ := p_gsIdx_loop a ha a.length 0 (by omega)
  rw [show ((0 : Nat) : Int) = 0 from rfl] at hr
  rw [List.drop_zero] at hm
  cases r with
  | inl r =>
    rw [e_slices_IndexFunc_int_int__impl_GoodSign_1 a () (r := ((-1, ()), ())) (by simp only [q_slices_IndexFunc_int_int__impl_GoodSign_1, hr, Option.bind_some, Sum.elim_inl])]
    simp only at hm
    simp [hm]
  | inr r =>
    rw [e_slices_IndexFunc_int_int__impl_GoodSign_1 a () (r := r) (by simp only [q_slices_IndexFunc_int_int__impl_GoodSign_1, hr, Option.bind_some, Sum.elim_inr])]
    simp only at hm
    simp [hm]

theorem p_impl_GoodSign (s : TSign) (ha : s.1.length ≤ 17592186044416) : c_impl_GoodSign M s = some ((gS s.1, ()), ()) := by
  apply e_impl_GoodSign
  simp only [q_impl_GoodSign, p_gsContains s.1 ha, Option.bind_some, gS, decide_eq_true_eq]
  rcases hs : s.1 with _ | ⟨x, r⟩
  · simp
  · rw [idx_zero]
    simp only [List.length_cons, List.getElem?_cons_zero, Option.bind_some]
    rw [if_neg (by omega)]
    by_cases h : r.length + 1 ≤ 10
    · rw [if_neg (by omega)]
      by_cases hx : x = 0
      · subst hx; simp [h]
      · rw [if_pos (by simpa using hx)]; simp [hx]
    · rw [if_pos (by omega)]
      simp [h]

theorem sign_eta (x : TSign) : (x.1, ()) = x := rfl
theorem lit_eta (x : TLit) : (x.1, x.2.1, x.2.2.1, ()) = x := rfl
theorem sign_eta' (x : TSign) : (x.1, ()) = x := rfl

end Go.Proofs.YtcjaikkdpclaaaaCo.Ev

/- Plain laws: signatures and terms: both programs tell the same signatures and terms. No condition but sizes. -/
namespace Go.Proofs.YtcjaikkdpclaaaaCo.Ev
open Go
set_option autoImplicit false
set_option linter.unusedVariables false
set_option linter.unusedSimpArgs false

/-! ### Terms -/
def ar (a : List Int) (n : Int) : Int := if n < 0 then 0 else (a[n.toNat]?).getD 0
def badN (a : List Int) (n : Int) : Prop := n < -12 ∨ (a.length : Int) ≤ n
instance (a : List Int) (n : Int) : Decidable (badN a n) := inferInstanceAs (Decidable (_ ∨ _))
/-- What stands behind some terms. -/
def sE (a : List Int) : Int → List Int → Option (List Int)
  | k, [] => if k ≤ 0 then some [] else none
  | k, n :: t => if k ≤ 0 then some (n :: t) else if badN a n then none else sE a (k - 1 + ar a n) t

theorem ar_ge {a : List Int} (hg : gS a = true) (n : Int) : 0 ≤ ar a n ∧ ar a n ≤ 3 := by
  unfold ar
  split
  · omega
  · cases h : a[n.toNat]? with
    | none => simp
    | some x =>
      simp only [gS, Bool.and_eq_true, List.all_eq_true, decide_eq_true_eq] at hg
      have := hg.2.2.1 x (List.mem_of_getElem? h)
      simpa using this
theorem idx_ar {a : List Int} {n : Int} (h : ¬ badN a n) (h0 : ¬ n < 0) : idx a n = some (ar a n) := by
  unfold badN at h
  have h1 : n.toNat < a.length := by omega
  unfold ar idx
  rw [if_pos (by omega), if_neg h0, List.getElem?_eq_getElem h1]
  rfl

theorem sE_zero (a : List Int) (t : List Int) : sE a 0 t = some t := by cases t <;> simp [sE]
theorem sE_app {a : List Int} (hg : gS a = true) : ∀ (u : List Int) (j k : Int) (x : List Int), 0 ≤ j → 0 ≤ k → sE a j u = some [] → sE a (j + k) (u ++ x) = sE a k x := by
  intro u
  induction u with
  | nil =>
    intro j k x hj hk h
    simp only [sE] at h
    split at h
    · obtain rfl : j = 0 := by omega
      simp
    · cases h
  | cons n u ih =>
    intro j k x hj hk h
    simp only [sE] at h
    split at h
    · cases h
    · rename_i hj'
      split at h
      · cases h
      · rename_i hb
        have hn := ar_ge hg n
        rw [List.cons_append]
        conv => lhs; unfold sE
        rw [if_neg (by omega), if_neg hb]
        have := ih (j - 1 + ar a n) k x (by omega) hk h
        rw [← this]
        congr 1; omega
theorem sE_split {a : List Int} (hg : gS a = true) : ∀ (t : List Int) (j k : Int) (r : List Int), 0 ≤ j → 0 ≤ k → sE a (j + k) t = some r → ∃ u x, t = u ++ x ∧ sE a j u = some [] ∧ sE a k x = some r := by
  intro t
  induction t with
  | nil =>
    intro j k r hj hk h
    simp only [sE] at h
    split at h
    · obtain rfl : j = 0 := by omega
      obtain rfl : k = 0 := by omega
      exact ⟨[], [], rfl, by simp [sE], by simpa [sE] using h⟩
    · cases h
  | cons n t ih =>
    intro j k r hj hk h
    by_cases h0 : j = 0
    · subst h0
      exact ⟨[], n :: t, rfl, by simp [sE], by simpa using h⟩
    · simp only [sE] at h
      split at h
      · omega
      · split at h
        · cases h
        · rename_i hb
          have hn := ar_ge hg n
          obtain ⟨u, x, rfl, h1, h2⟩ := ih (j - 1 + ar a n) k r (by omega) hk (by rw [← h]; congr 1; omega)
          refine ⟨n :: u, x, rfl, ?_, h2⟩
          unfold sE
          rw [if_neg (by omega), if_neg hb]
          exact h1
/-- A term. -/
abbrev Tm (a : List Int) (u : List Int) : Prop := sE a 1 u = some []
theorem sE_kids {a : List Int} (hg : gS a = true) : ∀ (k : Nat) (t r : List Int), sE a k t = some r → ∃ us : List (List Int), us.length = k ∧ t = us.flatten ++ r ∧ ∀ u ∈ us, Tm a u := by
  intro k
  induction k with
  | zero =>
    intro t r h
    rw [show ((0 : Nat) : Int) = 0 from rfl, sE_zero] at h
    obtain rfl := Option.some.inj h
    exact ⟨[], rfl, rfl, by simp⟩
  | succ k ih =>
    intro t r h
    obtain ⟨u, x, rfl, h1, h2⟩ := sE_split hg t 1 k r (by omega) (by omega) (by rw [← h]; congr 1; omega)
    obtain ⟨us, hl, rfl, hu⟩ := ih x r h2
    exact ⟨u :: us, by simp [hl], by simp, by simpa using ⟨h1, hu⟩⟩
theorem Tm.parts {a : List Int} (hg : gS a = true) {u : List Int} (h : Tm a u) : ∃ (n : Int) (us : List (List Int)), u = n :: us.flatten ∧ ¬ badN a n ∧ (us.length : Int) = ar a n ∧ ∀ v ∈ us, Tm a v := by
  cases u with
  | nil => simp [Tm, sE] at h
  | cons n t =>
    simp only [Tm, sE] at h
    rw [if_neg (by omega)] at h
    split at h
    · cases h
    · rename_i hb
      have hn := ar_ge hg n
      obtain ⟨us, hl, ht, hu⟩ := sE_kids hg (ar a n).toNat t [] (by rw [← h]; congr 1; omega)
      exact ⟨n, us, by rw [ht]; simp, hb, by omega, hu⟩
theorem Tm.rest {a : List Int} (hg : gS a = true) {u : List Int} (h : Tm a u) (x : List Int) : sE a 1 (u ++ x) = some x := by
  have := sE_app hg u 1 0 x (by omega) (by omega) h
  rw [sE_zero] at this
  simpa using this
theorem Tm.pos {a u : List Int} (h : Tm a u) : 0 < u.length := by
  cases u with
  | nil => simp [Tm, sE] at h
  | cons n t => simp

theorem p_l1End_loop (s : TSign) (hg : gS s.1 = true) (t : List Int) (ht : t.length ≤ 1048576) : ∀ (k i : Nat) (need : Int), i + k = t.length → 0 ≤ need → need + 3 * k ≤ 4000000 →
    l_spec_l1End_28 M t i s need = some (match sE s.1 need (t.drop i) with | none => .inr (((-1 : Int), ()), ()) | some r => .inl ((t.length : Int) - r.length, ())) := by
  have hs : s.1.length ≤ 10 := by simp only [gS, Bool.and_eq_true, decide_eq_true_eq] at hg; exact hg.2.1
  intro k
  induction k with
  | zero =>
    intro i need hi h0 hn
    obtain rfl : i = t.length := by omega
    apply el_spec_l1End_28
    simp only [ql_spec_l1End_28, List.drop_length, sE, decide_eq_true_eq]
    by_cases h : need > 0
    · rw [if_pos h, if_pos (by omega), if_neg (by omega)]
    · rw [if_neg h, if_pos (by omega)]; simp
  | succ k ih =>
    intro i need hi h0 hn
    apply el_spec_l1End_28
    have h1 : i < t.length := by omega
    rw [List.drop_eq_getElem_cons h1]
    simp only [ql_spec_l1End_28, sE, decide_eq_true_eq]
    by_cases h : need > 0
    · rw [if_pos h, if_neg (by omega), if_neg (by omega), idx_lt h1]
      simp only [Option.bind_some, p_l1In]
      rw [w64 (x := (s.1.length : Int) - 1) (by omega) (by omega)]
      by_cases hb : badN s.1 t[i]
      · rw [if_pos hb, if_pos (by unfold badN at hb; simp; omega)]
      · rw [if_neg hb, if_neg (by unfold badN at hb; simp; omega)]
        have ha := ar_ge hg t[i]
        have hw : IntKind.i64.wrap (need - 1) = need - 1 := w64 (by omega) (by omega)
        by_cases hx : t[i] ≥ 0
        · rw [if_pos hx, idx_ar hb (by omega), hw]
          simp only [Option.bind_some, Sum.elim_inl]
          rw [w64 (x := need - 1 + _) (by omega) (by omega), inc_nat (by omega)]
          exact ih (i + 1) _ (by omega) (by omega) (by omega)
        · have : ar s.1 t[i] = 0 := by unfold ar; rw [if_pos (by omega)]
          rw [if_neg hx, hw, this]
          simp only [Option.bind_some, Sum.elim_inl]
          rw [inc_nat (by omega), Int.add_zero]
          exact ih (i + 1) _ (by omega) (by omega) (by omega)
    · rw [if_neg h, if_pos (by omega)]
      simp only [List.length_cons, List.length_drop]
      congr 3
      omega

theorem p_l1End (s : TSign) (hg : gS s.1 = true) (t : List Int) (i : Nat) (hi : i ≤ t.length) (ht : t.length ≤ 1048576) :
    c_spec_l1End M s t i = some ((match sE s.1 1 (t.drop i) with | none => (-1 : Int) | some r => (t.length : Int) - r.length, ()), ()) := by
  apply e_spec_l1End
  simp only [q_spec_l1End]
  rw [p_l1End_loop s hg t ht (t.length - i) i 1 (by omega) (by omega) (by omega)]
  cases sE s.1 1 (t.drop i) <;> rfl

theorem sE_len {a : List Int} : ∀ (t : List Int) (k : Int) (r : List Int), sE a k t = some r → r.length ≤ t.length := by
  intro t
  induction t with
  | nil => intro k r h; simp only [sE] at h; split at h <;> simp_all
  | cons n t ih =>
    intro k r h
    simp only [sE] at h
    split at h
    · obtain rfl := Option.some.inj h; simp
    · split at h
      · cases h
      · have := ih _ _ h; simp; omega

/-- A term of no more than 40 numbers. -/
def isT (a t : List Int) : Bool := decide (t.length ≤ 40) && decide (Tm a t)

theorem p_l1Term (s : TSign) (hg : gS s.1 = true) (t : List Int) (ht : t.length ≤ 1048576) : c_spec_l1Term M s t = some ((isT s.1 t, ()), ()) := by
  apply e_spec_l1Term
  have := p_l1End s hg t 0 (by omega) ht
  rw [show ((0 : Nat) : Int) = 0 from rfl, List.drop_zero] at this
  simp only [q_spec_l1Term, p_l1In, Option.bind_some, this, isT]
  by_cases h0 : t = []
  · subst h0; simp [Tm, sE]
  · have : 0 < t.length := List.length_pos_iff.2 h0
    by_cases h : t.length ≤ 40
    · rw [if_pos (by simp; omega)]
      simp only [Option.some.injEq, Prod.mk.injEq, and_true]
      rw [Bool.eq_iff_iff]
      simp only [Bool.and_eq_true, decide_eq_true_eq, Tm, beq_iff_eq]
      cases hE : sE s.1 1 t with
      | none => simp
      | some r =>
        have := sE_len _ _ _ hE
        simp only [Option.some.injEq]
        constructor
        · intro h'; exact ⟨h, List.eq_nil_of_length_eq_zero (by omega)⟩
        · rintro ⟨-, rfl⟩; simp
    · rw [if_neg (by simp; omega)]
      simp [h]

theorem p_args (s : TSign) (n : Int) (h : ¬ badN s.1 n) : c_impl_Sign_args M s n = some ((ar s.1 n, ()), ()) := by
  apply e_impl_Sign_args
  simp only [q_impl_Sign_args, decide_eq_true_eq]
  by_cases hn : n < 0
  · rw [if_pos hn]; simp [ar, hn]
  · rw [if_neg hn, idx_ar h hn]; rfl

theorem p_isTerm_loop (s : TSign) (hg : gS s.1 = true) (t : List Int) (ht : t.length ≤ 40) : ∀ (k i : Nat) (left : Int), i + k = t.length → 0 ≤ left → left + 3 * k ≤ 4000000 →
    ∃ r, l_impl_Sign_isTerm_122 M s left t t.length i = some r ∧ Sum.elim (fun y => y.1 == 0) (fun r => r.1.1) r = decide (sE s.1 left (t.drop i) = some []) := by
  intro k
  induction k with
  | zero =>
    intro i left hi h0 hn
    obtain rfl : i = t.length := by omega
    refine ⟨.inl (left, ()), el_impl_Sign_isTerm_122 _ _ _ _ _ ?_, ?_⟩
    · simp [ql_impl_Sign_isTerm_122]
    · rw [List.drop_length]
      simp only [Sum.elim_inl, sE]
      rw [Bool.eq_iff_iff]; simp; omega
  | succ k ih =>
    intro i left hi h0 hn
    have h1 : i < t.length := by omega
    rw [List.drop_eq_getElem_cons h1]
    have pre : ∀ r, (if (left == 0) = true then some (.inr ((false, ()), ())) else if decide (t[i] < -12) = true then some (.inr ((false, ()), ())) else if decide (t[i] ≥ (s.1.length : Int)) = true then some (.inr ((false, ()), ())) else (c_impl_Sign_args M (s.1, ()) t[i]).bind fun r2 => l_impl_Sign_isTerm_122 M (s.1, ()) (IntKind.i64.wrap (left + IntKind.i64.wrap (r2.1.1 - 1))) t t.length (IntKind.i64.wrap ((i : Int) + 1))) = some r → l_impl_Sign_isTerm_122 M s left t t.length i = some r := by
      intro r hr
      apply el_impl_Sign_isTerm_122
      simp only [ql_impl_Sign_isTerm_122]
      rw [if_pos (by simpa using h1), idx_lt h1]
      exact hr
    by_cases hl : left = 0
    · subst hl
      refine ⟨.inr ((false, ()), ()), pre _ rfl, (decide_eq_false (by rw [sE_zero]; exact fun h => by cases h)).symm⟩
    · by_cases hb : badN s.1 t[i]
      · refine ⟨.inr ((false, ()), ()), pre _ ?_, by simp [sE, hb]; omega⟩
        rw [if_neg (by simpa using hl)]
        unfold badN at hb
        by_cases h2 : t[i] < -12
        · rw [if_pos (by simpa using h2)]
        · rw [if_neg (by simpa using h2), if_pos (by simp; omega)]
      · have ha := ar_ge hg t[i]
        obtain ⟨r, hr, hm⟩ := ih (i + 1) (left - 1 + ar s.1 t[i]) (by omega) (by omega) (by omega)
        refine ⟨r, pre _ ?_, ?_⟩
        · have hb' := hb
          unfold badN at hb'
          rw [if_neg (by simpa using hl), if_neg (by simp; omega), if_neg (by simp; omega), p_args (s.1, ()) _ hb]
          simp only [Option.bind_some]
          rw [w64 (x := ar s.1 t[i] - 1) (by omega) (by omega), w64 (by omega) (by omega), inc_nat (by omega), show left + (ar s.1 t[i] - 1) = left - 1 + ar s.1 t[i] by omega]
          exact hr
        · rw [hm]
          conv => rhs; unfold sE
          rw [if_neg (by omega), if_neg hb]

theorem p_isTerm (s : TSign) (hg : gS s.1 = true) (t : List Int) : c_impl_Sign_isTerm M s t = some ((isT s.1 t, ()), ()) := by
  apply e_impl_Sign_isTerm
  simp only [q_impl_Sign_isTerm, decide_eq_true_eq, isT]
  by_cases h : t.length ≤ 40
  · obtain ⟨r, hr, hm⟩ := p_isTerm_loop s hg t h t.length 0 1 (by omega) (by omega) (by omega)
    rw [show ((0 : Nat) : Int) = 0 from rfl] at hr
    rw [List.drop_zero] at hm
    rw [if_neg (by omega), show ((s.1, ()) : TSign) = s from rfl, hr]
    cases r with
    | inl r => simp only [Sum.elim_inl, Option.bind_some] at hm ⊢; rw [hm]; simp [h, Tm]
    | inr r => obtain ⟨⟨b, _⟩, _⟩ := r; simp only [Sum.elim_inr, Option.bind_some] at hm ⊢; rw [hm]; simp [h, Tm]
  · rw [if_pos (by omega)]; simp [h]

end Go.Proofs.YtcjaikkdpclaaaaCo.Ev

/- Plain laws: nodes of formulas. Definitions. -/
namespace Go.Proofs.YtcjaikkdpclaaaaCo.Ev
open Go
set_option autoImplicit false
set_option linter.unusedVariables false
set_option linter.unusedSimpArgs false

abbrev TForm := Int × Int × List Int × List Int × Unit

theorem form_eta (x : TForm) : (x.1, x.2.1, x.2.2.1, x.2.2.2.1, ()) = x := rfl

/-- Lists of no more than 2^20 numbers. -/
def smF (x : TForm) : Prop := x.2.2.1.length ≤ 1048576 ∧ x.2.2.2.1.length ≤ 1048576
end Go.Proofs.YtcjaikkdpclaaaaCo.Ev

/- Plain laws: formulas: both programs tell the same formulas; the program's tree of a formula. No condition but sizes. -/
namespace Go.Proofs.YtcjaikkdpclaaaaCo.Ev
open Go
set_option autoImplicit false
set_option linter.unusedVariables false
set_option linter.unusedSimpArgs false

theorem p_ib1 (x : Int) : c_impl_Sign_isBound_1 M x = some ((!decide (-6 ≤ x), ()), ()) := by
  apply e_impl_Sign_isBound_1
  simp only [q_impl_Sign_isBound_1]
  rw [show decide (x < -6) = !decide (-6 ≤ x) by
    by_cases h : x < -6
    · rw [decide_eq_true h, decide_eq_false (by omega)]; rfl
    · rw [decide_eq_false h, decide_eq_true (by omega)]; rfl]

theorem p_ibIdx_loop (a : List Int) (ha : a.length ≤ 17592186044416) : ∀ k i : Nat, i + k = a.length → ∃ r, l_slices_IndexFunc_int_int__impl_Sign_isBound_1_26 M a () a.length i = some r ∧ (match r with | .inl _ => (a.drop i).all (fun x => decide (-6 ≤ x)) = true | .inr r => 0 ≤ r.1.1 ∧ (a.drop i).all (fun x => decide (-6 ≤ x)) = false) := by
  intro k
  induction k with
  | zero =>
    intro i hi
    obtain rfl : i = a.length := by omega
    refine ⟨.inl (), el_slices_IndexFunc_int_int__impl_Sign_isBound_1_26 _ _ _ _ (by simp [ql_slices_IndexFunc_int_int__impl_Sign_isBound_1_26]), by simp⟩
  | succ k ih =>
    intro i hi
    have h1 : i < a.length := by omega
    obtain ⟨r, hr, hm⟩ := ih (i + 1) (by omega)
    rw [List.drop_eq_getElem_cons h1, List.all_cons]
    by_cases hp : decide (-6 ≤ a[i]) = true
    · refine ⟨r, el_slices_IndexFunc_int_int__impl_Sign_isBound_1_26 _ _ _ _ ?_, by rw [hp, Bool.true_and]; exact hm⟩
      simp only [ql_slices_IndexFunc_int_int__impl_Sign_isBound_1_26]
      rw [if_pos (by simpa using h1), idx_lt h1, inc_nat (by omega)]
      simp only [Option.bind_some, p_ib1, hp, Bool.not_true, Bool.false_eq_true, if_false]
      exact hr
    · rw [Bool.not_eq_true] at hp
      refine ⟨.inr (((i : Int), ()), ()), el_slices_IndexFunc_int_int__impl_Sign_isBound_1_26 _ _ _ _ ?_, Int.natCast_nonneg i, by rw [hp, Bool.false_and]⟩
      simp only [ql_slices_IndexFunc_int_int__impl_Sign_isBound_1_26]
      rw [if_pos (by simpa using h1), idx_lt h1]
      simp only [Option.bind_some, p_ib1, hp, Bool.not_false, if_true]

theorem p_ibContains (a : List Int) (ha : a.length ≤ 17592186044416) : c_slices_ContainsFunc_int_int__impl_Sign_isBound_1 M a () = some ((!(a.all (fun x => decide (-6 ≤ x))), ()), ()) := by
  apply e_slices_ContainsFunc_int_int__impl_Sign_isBound_1
  simp only [q_slices_ContainsFunc_int_int__impl_Sign_isBound_1]
  obtain ⟨r, hr, hm⟩ := p_ibIdx_loop a ha a.length 0 (by omega)
  rw [show ((0 : Nat) : Int) = 0 from rfl] at hr
  rw [List.drop_zero] at hm
  cases r with
  | inl r =>
    rw [e_slices_IndexFunc_int_int__impl_Sign_isBound_1 a () (r := ((-1, ()), ())) (by simp only [q_slices_IndexFunc_int_int__impl_Sign_isBound_1, hr, Option.bind_some, Sum.elim_inl])]
    simp only at hm
    simp [hm]
  | inr r =>
    rw [e_slices_IndexFunc_int_int__impl_Sign_isBound_1 a () (r := r) (by simp only [q_slices_IndexFunc_int_int__impl_Sign_isBound_1, hr, Option.bind_some, Sum.elim_inr])]
    simp only at hm
    simp [hm]


/-- A term whose variables are those of formulas. -/
def isB (a t : List Int) : Bool := isT a t && t.all fun x => decide (-6 ≤ x)
theorem p_isBound (s : TSign) (hg : gS s.1 = true) (t : List Int) : c_impl_Sign_isBound M s t = some ((isB s.1 t, ()), ()) := by
  apply e_impl_Sign_isBound
  simp only [q_impl_Sign_isBound, sign_eta', p_isTerm s hg t, Option.bind_some, isB]
  by_cases h : isT s.1 t = true
  · have hl : t.length ≤ 40 := by simp only [isT, Bool.and_eq_true, decide_eq_true_eq] at h; exact h.1
    rw [if_pos h, p_ibContains t (by omega), h]
    simp
  · rw [if_neg h]
    rw [Bool.not_eq_true] at h
    rw [h]; rfl

/-! ### The variables of a term -/
theorem p_l1Put_loop (l : List Int) (hl : l.length ≤ 1000) (n : Int) : ∀ k i : Nat, i + k = l.length → ∃ j : Nat, i ≤ j ∧ j ≤ l.length ∧ l_spec_l1Put_28 M l n i = some (.inl (l, n, j, ())) := by
  intro k
  induction k with
  | zero =>
    intro i hi
    obtain rfl : i = l.length := by omega
    exact ⟨l.length, Nat.le_refl _, Nat.le_refl _, el_spec_l1Put_28 _ _ _ (by simp [ql_spec_l1Put_28])⟩
  | succ k ih =>
    intro i hi
    have h1 : i < l.length := by omega
    by_cases hx : l[i] < n
    · obtain ⟨j, g1, g2, g3⟩ := ih (i + 1) (by omega)
      refine ⟨j, by omega, g2, el_spec_l1Put_28 _ _ _ ?_⟩
      simp only [ql_spec_l1Put_28]
      rw [if_pos (by simpa using h1), if_pos (by omega), Int.toNat_natCast, List.getElem?_eq_getElem h1]
      simp only [Option.bind_some]
      rw [if_pos (by simpa using hx), inc_nat (by omega)]
      exact g3
    · refine ⟨i, Nat.le_refl _, by omega, el_spec_l1Put_28 _ _ _ ?_⟩
      simp only [ql_spec_l1Put_28]
      rw [if_pos (by simpa using h1), if_pos (by omega), Int.toNat_natCast, List.getElem?_eq_getElem h1]
      simp only [Option.bind_some]
      rw [if_neg (by simpa using hx)]
theorem p_l1Put (l : List Int) (hl : l.length ≤ 1000) (n : Int) : ∃ r : List Int, c_spec_l1Put M l n = some ((r, ()), ()) ∧ r.length ≤ l.length + 1 ∧ ∀ x, x ∈ r ↔ x ∈ l ∨ x = n := by
  obtain ⟨j, _, g2, g3⟩ := p_l1Put_loop l hl n l.length 0 (by omega)
  rw [show ((0 : Nat) : Int) = 0 from rfl] at g3
  by_cases hj : j < l.length ∧ l[j]? = some n
  · refine ⟨l, e_spec_l1Put _ _ ?_, by omega, fun x => ⟨.inl, fun h => h.elim id fun e => e ▸ List.mem_of_getElem? hj.2⟩⟩
    have h1 := hj.1
    have h2 := hj.2
    rw [List.getElem?_eq_getElem h1] at h2
    simp only [q_spec_l1Put, g3, Option.bind_some, Sum.elim_inl]
    rw [if_pos (by simpa using h1), if_pos (by omega), Int.toNat_natCast, List.getElem?_eq_getElem h1]
    simp only [Option.bind_some]
    rw [if_pos (by simpa using h2)]
  · refine ⟨l.take j ++ n :: l.drop j, e_spec_l1Put _ _ ?_, by simp; omega, fun x => ?_⟩
    · simp only [q_spec_l1Put, g3, Option.bind_some, Sum.elim_inl]
      by_cases h1 : j < l.length
      · have h2 : ¬ l[j] = n := fun e => hj ⟨h1, by rw [List.getElem?_eq_getElem h1, e]⟩
        rw [if_pos (by simpa using h1), if_pos (by omega), Int.toNat_natCast, List.getElem?_eq_getElem h1]
        simp only [Option.bind_some, Int.toNat_natCast, Int.toNat_zero, List.drop_zero, List.nil_append, List.length_nil, List.length_append, List.length_take, List.length_drop, List.length_cons, List.take_length]
        rw [if_neg (by simpa using h2), if_pos (by omega), if_pos (by omega), if_pos (by omega), if_pos (by omega), if_pos (by omega)]
        simp
      · rw [if_neg (by simpa using h1)]
        simp only [Option.bind_some, Int.toNat_natCast, Int.toNat_zero, List.drop_zero, List.nil_append, List.length_nil, List.length_append, List.length_take, List.length_drop, List.length_cons, List.take_length]
        rw [if_pos (by omega), if_pos (by omega), if_pos (by omega), if_pos (by omega), if_pos (by omega)]
        simp
    · have : x ∈ l ↔ x ∈ l.take j ∨ x ∈ l.drop j := by rw [← List.mem_append, List.take_append_drop]
      rw [List.mem_append, List.mem_cons, this]
      constructor
      · rintro (h | h | h)
        · exact .inl (.inl h)
        · exact .inr h
        · exact .inl (.inr h)
      · rintro ((h | h) | h)
        · exact .inl h
        · exact .inr (.inr h)
        · exact .inr (.inl h)

theorem p_l1Vars_loop (t : List Int) (ht : t.length ≤ 400) (hw : ∀ n ∈ t, -12 ≤ n) : ∀ k i : Nat, i + k = t.length → ∀ o : List Int, o.length ≤ i → ∃ r : List Int, l_spec_l1Vars_58 M o t t.length i = some (.inl (r, ())) ∧ r.length ≤ t.length ∧ ∀ x, x ∈ r ↔ x ∈ o ∨ ∃ n ∈ t.drop i, n < 0 ∧ x = -1 - n := by
  intro k
  induction k with
  | zero =>
    intro i hi o ho
    obtain rfl : i = t.length := by omega
    exact ⟨o, el_spec_l1Vars_58 _ _ _ _ (by simp [ql_spec_l1Vars_58]), ho, by simp⟩
  | succ k ih =>
    intro i hi o ho
    have h1 : i < t.length := by omega
    have hn := hw _ (List.getElem_mem h1)
    by_cases hx : t[i] < 0
    · obtain ⟨o', e1, e2, e3⟩ := p_l1Put o (by omega) (-1 - t[i])
      obtain ⟨r, g1, g2, g3⟩ := ih (i + 1) (by omega) o' (by omega)
      refine ⟨r, el_spec_l1Vars_58 _ _ _ _ ?_, g2, fun x => ?_⟩
      · simp only [ql_spec_l1Vars_58]
        rw [if_pos (by simpa using h1), idx_lt h1]
        simp only [Option.bind_some]
        rw [if_pos (by simpa using hx), w64 (x := -1 - t[i]) (by omega) (by omega), e1]
        simp only [Option.bind_some, Sum.elim_inl]
        rw [inc_nat (by omega)]
        exact g1
      · rw [g3 x, e3 x, List.drop_eq_getElem_cons h1]
        simp only [List.mem_cons, exists_eq_or_imp]
        constructor
        · rintro ((h | h) | h)
          · exact .inl h
          · exact .inr (.inl ⟨hx, h⟩)
          · exact .inr (.inr h)
        · rintro (h | h | h)
          · exact .inl (.inl h)
          · exact .inl (.inr h.2)
          · exact .inr h
    · obtain ⟨r, g1, g2, g3⟩ := ih (i + 1) (by omega) o (by omega)
      refine ⟨r, el_spec_l1Vars_58 _ _ _ _ ?_, g2, fun x => ?_⟩
      · simp only [ql_spec_l1Vars_58]
        rw [if_pos (by simpa using h1), idx_lt h1]
        simp only [Option.bind_some]
        rw [if_neg (by simpa using hx)]
        simp only [Option.bind_some, Sum.elim_inl]
        rw [inc_nat (by omega)]
        exact g1
      · rw [g3 x, List.drop_eq_getElem_cons h1]
        simp only [List.mem_cons, exists_eq_or_imp]
        constructor
        · rintro (h | h)
          · exact .inl h
          · exact .inr (.inr h)
        · rintro (h | h | h)
          · exact .inl h
          · exact absurd h.1 hx
          · exact .inr h
theorem p_l1Vars (t : List Int) (ht : t.length ≤ 400) (hw : ∀ n ∈ t, -12 ≤ n) : ∃ r : List Int, c_spec_l1Vars M t = some ((r, ()), ()) ∧ r.length ≤ t.length ∧ ∀ x, x ∈ r ↔ ∃ n ∈ t, n < 0 ∧ x = -1 - n := by
  obtain ⟨r, g1, g2, g3⟩ := p_l1Vars_loop t ht hw t.length 0 (by omega) [] (by simp)
  rw [show ((0 : Nat) : Int) = 0 from rfl] at g1
  refine ⟨r, e_spec_l1Vars _ ?_, g2, fun x => by simpa using g3 x⟩
  simp only [q_spec_l1Vars, g1, Option.bind_some, Sum.elim_inl]

theorem sE_ge {a : List Int} : ∀ (t : List Int) (k : Int), sE a k t = some [] → ∀ n ∈ t, -12 ≤ n := by
  intro t
  induction t with
  | nil => intro k _ n hn; cases hn
  | cons m t ih =>
    intro k h n hn
    simp only [sE] at h
    split at h
    · cases h
    · split at h
      · cases h
      · rename_i hb
        unfold badN at hb
        rcases List.mem_cons.1 hn with rfl | hn
        · omega
        · exact ih _ h n hn
theorem isT_ge {a t : List Int} (h : isT a t = true) : t.length ≤ 40 ∧ ∀ n ∈ t, -12 ≤ n := by
  simp only [isT, Bool.and_eq_true, decide_eq_true_eq] at h
  exact ⟨h.1, sE_ge t 1 h.2⟩

/-! ### Nodes -/
def opn (op : Int) : Int := if op = 1 then 0 else if op = 2 ∨ op = 5 ∨ op = 6 then 1 else if op = 3 ∨ op = 4 then 2 else -1
/-- A node that is good by itself. -/
def ndOK (a : List Int) (x : TForm) : Bool :=
  if x.1 = 1 then decide (x.2.1 = 0) && (isB a x.2.2.1 && isB a x.2.2.2.1)
  else if x.2.2.1 = [] ∧ x.2.2.2.1 = [] then
    (if x.1 = 5 ∨ x.1 = 6 then decide (0 ≤ x.2.1) && decide (x.2.1 ≤ 5) else if x.1 = 2 ∨ x.1 = 3 ∨ x.1 = 4 then decide (x.2.1 = 0) else false)
  else false

theorem p_l14Arity (op : Int) : c_spec_l14Arity M op = some ((opn op, ()), ()) := by
  apply e_spec_l14Arity
  simp only [q_spec_l14Arity, beq_iff_eq, opn]
  by_cases h1 : op = 1
  · simp [h1]
  · by_cases h2 : op = 2
    · simp [h2]
    · by_cases h5 : op = 5
      · simp [h5]
      · by_cases h6 : op = 6
        · simp [h6]
        · by_cases h3 : op = 3
          · simp [h3]
          · by_cases h4 : op = 4
            · simp [h4]
            · simp [h1, h2, h3, h4, h5, h6]

theorem p_operands (a : List Int) (x : TForm) (h : ndOK a x = true) : c_impl_Form_operands M x = some ((opn x.1, ()), ()) := by
  apply e_impl_Form_operands
  simp only [q_impl_Form_operands, beq_iff_eq, opn]
  by_cases h1 : x.1 = 1
  · simp [h1]
  · by_cases h3 : x.1 = 3
    · simp [h3]
    · by_cases h4 : x.1 = 4
      · simp [h4]
      · have : x.1 = 2 ∨ x.1 = 5 ∨ x.1 = 6 := by
          unfold ndOK at h
          rw [if_neg h1] at h
          split at h
          · split at h
            · rename_i h5; rcases h5 with h5 | h5 <;> simp [h5]
            · split at h
              · rename_i h6; rcases h6 with h6 | h6 | h6
                · exact .inl h6
                · exact absurd h6 h3
                · exact absurd h6 h4
              · cases h
          · cases h
        simp [h1, h3, h4, this]

theorem p_isNode (s : TSign) (hg : gS s.1 = true) (x : TForm) : c_impl_Sign_isNode M s x = some ((ndOK s.1 x, ()), ()) := by
  apply e_impl_Sign_isNode
  simp only [q_impl_Sign_isNode, sign_eta', p_isBound s hg, Option.bind_some, beq_iff_eq, ndOK]
  obtain ⟨op, v, l, r, ⟨⟩⟩ := x
  simp only
  by_cases h1 : op = 1
  · subst h1
    by_cases hv : v = 0
    · cases isB s.1 l <;> simp [hv]
    · simp [hv]
  · rw [if_neg h1, if_neg h1]
    by_cases h5 : op = 5
    · subst h5
      by_cases ha : 0 ≤ v <;> by_cases hb : v < 6 <;> by_cases hl : l = [] <;> by_cases hr : r = [] <;> simp [ha, hb, hl, hr] <;> omega
    · by_cases h6 : op = 6
      · subst h6
        by_cases ha : 0 ≤ v <;> by_cases hb : v < 6 <;> by_cases hl : l = [] <;> by_cases hr : r = [] <;> simp [ha, hb, hl, hr] <;> omega
      · by_cases h2 : op = 2
        · subst h2
          by_cases ha : v = 0 <;> by_cases hl : l = [] <;> by_cases hr : r = [] <;> simp [ha, hl, hr]
        · by_cases h3 : op = 3
          · subst h3
            by_cases ha : v = 0 <;> by_cases hl : l = [] <;> by_cases hr : r = [] <;> simp [ha, hl, hr]
          · by_cases h4 : op = 4
            · subst h4
              by_cases ha : v = 0 <;> by_cases hl : l = [] <;> by_cases hr : r = [] <;> simp [ha, hl, hr]
            · simp [h2, h3, h4, h5, h6]

theorem p_l14Node (s : TSign) (hg : gS s.1 = true) (x : TForm) (h : smF x) : c_spec_l14Node M s x = some ((ndOK s.1 x, ()), ()) := by
  apply e_spec_l14Node
  simp only [q_spec_l14Node, sign_eta', p_l1Term s hg _ h.1, p_l1Term s hg _ h.2, Option.bind_some, beq_iff_eq, ndOK, p_l1In, p_l14Arity, decide_eq_true_eq]
  by_cases h1 : x.1 = 1
  · rw [if_pos h1, if_pos h1]
    by_cases hv : x.2.1 = 0
    · rw [if_pos hv, decide_eq_true hv]
      by_cases hl : isT s.1 x.2.2.1 = true
      · rw [if_pos hl]
        by_cases hr : isT s.1 x.2.2.2.1 = true
        · rw [if_pos hr]
          obtain ⟨l1, l2⟩ := isT_ge hl
          obtain ⟨r1, r2⟩ := isT_ge hr
          obtain ⟨vl, e1, e2, e3⟩ := p_l1Vars _ (by omega) l2
          obtain ⟨vr, f1, f2, f3⟩ := p_l1Vars _ (by omega) r2
          rw [e1]
          simp only [Option.bind_some]
          rw [f1]
          simp only [Option.bind_some]
          rw [if_pos (by omega), p_l1All _ _ _ (by simp; omega)]
          simp only [Option.bind_some, Option.some.injEq, Prod.mk.injEq, and_true]
          simp only [isB, hl, hr, Bool.true_and]
          have key : ∀ (t v : List Int), (∀ n ∈ t, -12 ≤ n) → (∀ x, x ∈ v ↔ ∃ n ∈ t, n < 0 ∧ x = -1 - n) → (v.all (fun x => decide (0 ≤ x) && decide (x ≤ 5)) = t.all fun x => decide (-6 ≤ x)) := by
            intro t v ht hv
            rw [Bool.eq_iff_iff]
            simp only [List.all_eq_true, Bool.and_eq_true, decide_eq_true_eq]
            constructor
            · intro hh n hn
              by_cases h0 : n < 0
              · have := hh (-1 - n) ((hv _).2 ⟨n, hn, h0, rfl⟩); omega
              · omega
            · intro hh y hy
              obtain ⟨n, hn, h0, rfl⟩ := (hv y).1 hy
              have := hh n hn
              omega
          rw [List.all_append, key _ _ l2 e3, key _ _ r2 f3]
        · rw [if_neg hr]; rw [Bool.not_eq_true] at hr; simp [isB, hr]
      · rw [if_neg hl]; rw [Bool.not_eq_true] at hl; simp [isB, hl]
    · rw [if_neg hv, decide_eq_false hv]; rfl
  · rw [if_neg h1, if_neg h1]
    have hw : IntKind.i64.wrap ((x.2.2.1.length : Int) + (x.2.2.2.1.length : Int)) = (x.2.2.1.length : Int) + (x.2.2.2.1.length : Int) := w64 (by omega) (by have := h.1; have := h.2; omega)
    rw [hw]
    by_cases hlr : x.2.2.1 = [] ∧ x.2.2.2.1 = []
    · rw [if_neg (by rw [hlr.1, hlr.2]; simp), if_pos hlr]
      by_cases h5 : x.1 = 5
      · simp [opn, h5]
      · by_cases h6 : x.1 = 6
        · simp [opn, h6]
        · by_cases h2 : x.1 = 2
          · simp [opn, h2]; rfl
          · by_cases h3 : x.1 = 3
            · simp [opn, h3]; rfl
            · by_cases h4 : x.1 = 4
              · simp [opn, h4]; rfl
              · simp [opn, h1, h2, h3, h4, h5, h6]
    · rw [if_pos (by
        by_cases hl : x.2.2.1 = []
        · have : 0 < x.2.2.2.1.length := List.length_pos_iff.2 (fun e => hlr ⟨hl, e⟩)
          omega
        · have : 0 < x.2.2.1.length := List.length_pos_iff.2 hl
          omega), if_neg hlr]

theorem ndOK_opn {a : List Int} {x : TForm} (h : ndOK a x = true) : 0 ≤ opn x.1 ∧ opn x.1 ≤ 2 ∧ (x.1 = 2 → opn x.1 = 1) := by
  unfold ndOK at h
  unfold opn
  split at h
  · rename_i h1; simp [h1]
  · rename_i h1
    rw [if_neg h1]
    split at h
    · split at h
      · rename_i h56; rw [if_pos (.inr h56)]; omega
      · split at h
        · rename_i h234
          split
          · omega
          · rename_i hn
            rw [if_pos (by rcases h234 with h | h | h
                           · exact absurd (.inl h) hn
                           · exact .inl h
                           · exact .inr h)]
            omega
        · cases h
    · cases h

/-! ### Formulas -/
/-- Whether nodes, with so many trees before them, leave one tree. -/
def gF (a : List Int) : Nat → List TForm → Bool
  | p, [] => p == 1
  | p, x :: r => ndOK a x && (decide ((opn x.1).toNat ≤ p) && gF a (p - (opn x.1).toNat + 1) r)
/-- The trees that nodes leave. -/
def gT (a : List Int) : List Tree → List TForm → Option (List Tree)
  | st, [] => some st
  | st, x :: r => if ndOK a x = true ∧ (opn x.1).toNat ≤ st.length then gT a (st.take (st.length - (opn x.1).toNat) ++ [Tree.mk x.1 x.2.1 x.2.2.1 x.2.2.2.1 (st.drop (st.length - (opn x.1).toNat))]) r else none
theorem gT_gF (a : List Int) : ∀ (f : List TForm) (st : List Tree), gF a st.length f = (match gT a st f with | some st' => st'.length == 1 | none => false) := by
  intro f
  induction f with
  | nil => intro st; rfl
  | cons x r ih =>
    intro st
    simp only [gF, gT]
    by_cases h1 : ndOK a x = true
    · by_cases h2 : (opn x.1).toNat ≤ st.length
      · rw [if_pos ⟨h1, h2⟩, h1, decide_eq_true h2, ← ih]
        simp only [Bool.true_and, List.length_append, List.length_take, List.length_cons, List.length_nil]
        congr 1; omega
      · rw [if_neg (fun h => h2 h.2), decide_eq_false h2]; simp
    · rw [if_neg (fun h => h1 h.1)]; rw [Bool.not_eq_true] at h1; simp [h1]

theorem p_l14Form_loop (s : TSign) (hg : gS s.1 = true) (f : List TForm) (hl : f.length ≤ 15) (hx : ∀ x ∈ f, smF x) : ∀ k i p : Nat, i + k = f.length → p ≤ i → ∃ r, l_spec_l14Form_122 M s p f f.length i = some r ∧ Sum.elim (fun y => y.1 == 1) (fun r => r.1.1) r = gF s.1 p (f.drop i) := by
  intro k
  induction k with
  | zero =>
    intro i p hi hp
    obtain rfl : i = f.length := by omega
    refine ⟨.inl ((p : Int), ()), el_spec_l14Form_122 _ _ _ _ _ (by simp [ql_spec_l14Form_122]), ?_⟩
    rw [List.drop_length]
    simp only [Sum.elim_inl, gF]
    rw [Bool.eq_iff_iff]; simp; omega
  | succ k ih =>
    intro i p hi hp
    have h1 : i < f.length := by omega
    rw [List.drop_eq_getElem_cons h1]
    have hn := p_l14Node s hg f[i] (hx _ (List.getElem_mem h1))
    by_cases h2 : ndOK s.1 f[i] = true
    · have ho := ndOK_opn h2
      by_cases h3 : (opn f[i].1).toNat ≤ p
      · obtain ⟨r, g1, g2⟩ := ih (i + 1) (p - (opn f[i].1).toNat + 1) (by omega) (by omega)
        refine ⟨r, el_spec_l14Form_122 _ _ _ _ _ ?_, by rw [g2]; simp [gF, h2, h3]⟩
        simp only [ql_spec_l14Form_122]
        rw [if_pos (by simpa using h1), idx_lt h1]
        simp only [Option.bind_some, form_eta, sign_eta', hn, h2, p_l14Arity]
        rw [if_neg (by simp), if_neg (by simp; omega), w64 (x := 1 - opn f[i].1) (by omega) (by omega), w64 (by omega) (by omega), inc_nat (by omega), show (p : Int) + (1 - opn f[i].1) = ((p - (opn f[i].1).toNat + 1 : Nat) : Int) by omega]
        exact g1
      · refine ⟨.inr ((false, ()), ()), el_spec_l14Form_122 _ _ _ _ _ ?_, by simp [gF, h2, h3]⟩
        simp only [ql_spec_l14Form_122]
        rw [if_pos (by simpa using h1), idx_lt h1]
        simp only [Option.bind_some, form_eta, sign_eta', hn, h2, p_l14Arity]
        rw [if_neg (by simp), if_pos (by simp; omega)]
    · rw [Bool.not_eq_true] at h2
      refine ⟨.inr ((false, ()), ()), el_spec_l14Form_122 _ _ _ _ _ ?_, by simp [gF, h2]⟩
      simp only [ql_spec_l14Form_122]
      rw [if_pos (by simpa using h1), idx_lt h1]
      simp only [Option.bind_some, form_eta, sign_eta', hn, h2]
      rfl

/-- A formula that is good. -/
def fOK (a : List Int) (f : List TForm) : Bool := decide (f.length ≤ 15) && gF a 0 f

theorem p_l14Form (s : TSign) (hg : gS s.1 = true) (f : List TForm) (hl : f.length ≤ 1048576) (hx : ∀ x ∈ f, smF x) : c_spec_l14Form M s f = some ((fOK s.1 f, ()), ()) := by
  apply e_spec_l14Form
  simp only [q_spec_l14Form, p_l1In, Option.bind_some, sign_eta', fOK]
  by_cases h15 : f.length ≤ 15
  · by_cases h0 : f = []
    · subst h0; simp [gF]
    · have : 0 < f.length := List.length_pos_iff.2 h0
      rw [if_neg (by simp; omega)]
      obtain ⟨r, g1, g2⟩ := p_l14Form_loop s hg f h15 hx f.length 0 0 (by omega) (by omega)
      rw [show ((0 : Nat) : Int) = 0 from rfl] at g1
      rw [List.drop_zero] at g2
      rw [g1, decide_eq_true h15, ← g2]
      cases r with
      | inl r => rfl
      | inr r => obtain ⟨⟨b, _⟩, _⟩ := r; rfl
  · rw [if_pos (by simp; omega)]; simp [h15]

theorem p_grow_loop (s : TSign) (hg : gS s.1 = true) (f : List TForm) (hl : f.length ≤ 15) : ∀ k i : Nat, i + k = f.length → ∀ st : List Tree, st.length ≤ i →
    l_impl_Sign_grow_122 M s st f f.length i = some (match gT s.1 st (f.drop i) with | some st' => .inl (st', ()) | none => .inr ((Tree.nil, false, ()), ())) := by
  intro k
  induction k with
  | zero =>
    intro i hi st hst
    obtain rfl : i = f.length := by omega
    apply el_impl_Sign_grow_122
    simp [ql_impl_Sign_grow_122, gT]
  | succ k ih =>
    intro i hi st hst
    have h1 : i < f.length := by omega
    rw [List.drop_eq_getElem_cons h1]
    apply el_impl_Sign_grow_122
    simp only [ql_impl_Sign_grow_122]
    rw [if_pos (by simpa using h1), idx_lt h1]
    simp only [Option.bind_some, form_eta, sign_eta', p_isNode s hg, gT]
    by_cases h2 : ndOK s.1 f[i] = true
    · have ho := ndOK_opn h2
      by_cases h3 : (opn f[i].1).toNat ≤ st.length
      · have e : (st.length : Int) - opn f[i].1 = ((st.length - (opn f[i].1).toNat : Nat) : Int) := by omega
        rw [if_pos (show ndOK s.1 f[i] = true ∧ (opn f[i].1).toNat ≤ st.length from ⟨h2, h3⟩), h2, if_neg (by simp), p_operands s.1 f[i] h2]
        simp only [Option.bind_some]
        rw [w64 (x := (st.length : Int) - opn f[i].1) (by omega) (by omega), e, if_neg (by simp <;> omega)]
        simp only [Int.toNat_natCast, List.take_length]
        rw [if_pos (by omega), if_pos (by simp; omega), if_pos (by omega), if_pos (by simp; omega), inc_nat (by omega), ih (i + 1) (by omega) _ (by simp; omega)]
      · rw [if_neg (show ¬ (ndOK s.1 f[i] = true ∧ (opn f[i].1).toNat ≤ st.length) from fun h => h3 h.2), h2, if_neg (by simp), p_operands s.1 f[i] h2]
        simp only [Option.bind_some]
        rw [w64 (x := (st.length : Int) - opn f[i].1) (by omega) (by omega), if_pos (by simp; omega)]
    · rw [if_neg (show ¬ (ndOK s.1 f[i] = true ∧ (opn f[i].1).toNat ≤ st.length) from fun h => h2 h.1)]
      rw [Bool.not_eq_true] at h2
      rw [h2]
      rfl

theorem p_formula (s : TSign) (hs : s.1.length ≤ 1048576) (f : List TForm) : ∃ t : Tree, c_impl_formula M s f = some ((t, gS s.1 && fOK s.1 f, ()), ()) ∧ ((gS s.1 && fOK s.1 f) = true → gT s.1 [] f = some [t]) := by
  cases hg : gS s.1 with
  | false =>
    refine ⟨.nil, e_impl_formula _ _ ?_, by simp⟩
    simp only [q_impl_formula, sign_eta', p_impl_GoodSign s (by omega), hg, Option.bind_some]
    rfl
  | true =>
    have pre : ∀ t b, c_impl_Sign_grow M s f = some ((t, b, ()), ()) → c_impl_formula M s f = some ((t, b, ()), ()) := by
      intro t b h
      apply e_impl_formula
      simp only [q_impl_formula, sign_eta', p_impl_GoodSign s (by omega), hg, Option.bind_some, h]
      rfl
    by_cases h15 : f.length ≤ 15
    · have hl := p_grow_loop s hg f h15 f.length 0 (by omega) [] (by simp)
      rw [show ((0 : Nat) : Int) = 0 from rfl, List.drop_zero] at hl
      have hgf := gT_gF s.1 f []
      rw [List.length_nil] at hgf
      have go : ∀ r, (l_impl_Sign_grow_122 M s [] f f.length 0).bind (Sum.elim (fun y1 => if ((List.length y1.1 : Int) != (1 : Int)) = true then (some ((Tree.nil, false, ()), ())) else (if 0 ≤ (0 : Int) ∧ (0 : Int) < (List.length y1.1 : Int) then ((y1.1[(Int.toNat (0 : Int))]?).bind fun x3 => (some ((x3, true, ()), ()))) else none)) (fun r2 => (some r2))) = some r → c_impl_Sign_grow M s f = some r := by
        intro r h
        apply e_impl_Sign_grow
        simp only [q_impl_Sign_grow, sign_eta']
        rw [if_neg (by simp; omega)]
        exact h
      cases hT : gT s.1 [] f with
      | none =>
        rw [hT] at hgf hl
        refine ⟨.nil, pre _ _ (go _ ?_), by simp [fOK, hgf]⟩
        rw [hl]
        simp [fOK, hgf]
      | some st' =>
        rw [hT] at hgf hl
        by_cases h1 : st'.length = 1
        · match st', h1 with
          | [t], _ =>
            refine ⟨t, pre _ _ (go _ ?_), fun _ => rfl⟩
            rw [hl]
            simp [fOK, hgf, h15]
        · refine ⟨.nil, pre _ _ (go _ ?_), by simp [fOK, hgf, h1]⟩
          rw [hl]
          simp only [Option.bind_some, Sum.elim_inl]
          rw [if_pos (by simp; omega)]
          simp [fOK, hgf, h1]
    · refine ⟨.nil, pre _ _ (e_impl_Sign_grow _ _ ?_), by simp [fOK, h15]⟩
      simp only [q_impl_Sign_grow]
      rw [if_pos (by simp; omega)]
      simp [fOK, h15]

end Go.Proofs.YtcjaikkdpclaaaaCo.Ev

/- Plain laws: formulas as the reference tells them. No condition but sizes. -/
namespace Go.Proofs.YtcjaikkdpclaaaaCo.Ev
open Go
set_option autoImplicit false
set_option linter.unusedVariables false
set_option linter.unusedSimpArgs false

theorem p_spec_GoodForm (s : TSign) (hs : s.1.length ≤ 1048576) (f : List TForm) (hl : f.length ≤ 1048576) (hx : ∀ x ∈ f, smF x) : c_spec_GoodForm M s f = some ((gS s.1 && fOK s.1 f, ()), ()) := by
  apply e_spec_GoodForm
  simp only [q_spec_GoodForm, sign_eta', p_spec_GoodSign s (by omega), Option.bind_some]
  cases hg : gS s.1 with
  | false => rfl
  | true => rw [if_pos rfl, p_l14Form s hg f hl hx]; rfl
end Go.Proofs.YtcjaikkdpclaaaaCo.Ev

/- Plain laws: the tree of a formula and its nodes in a row stand for one another. No condition. -/
namespace Go.Proofs.YtcjaikkdpclaaaaCo.Ev
open Go
set_option autoImplicit false
set_option linter.unusedVariables false
set_option linter.unusedSimpArgs false

abbrev mkT (x : TForm) (ts : List Tree) : Tree := Tree.mk x.1 x.2.1 x.2.2.1 x.2.2.2.1 ts
/-- A part of a row of nodes, and its tree. -/
inductive FT (a : List Int) : List TForm → Tree → Prop
  | leaf {x : TForm} (h : ndOK a x = true) (h0 : opn x.1 = 0) : FT a [x] (mkT x [])
  | un {x : TForm} {g : List TForm} {t : Tree} (h : ndOK a x = true) (h1 : opn x.1 = 1) (hg : FT a g t) : FT a (g ++ [x]) (mkT x [t])
  | bin {x : TForm} {g k : List TForm} {t u : Tree} (h : ndOK a x = true) (h2 : opn x.1 = 2) (hg : FT a g t) (hk : FT a k u) : FT a (g ++ k ++ [x]) (mkT x [t, u])

theorem FT.pos {a : List Int} {g : List TForm} {t : Tree} (h : FT a g t) : 0 < g.length := by cases h <;> simp <;> omega
/-- Trees side by side. -/
def Rs (a : List Int) : List (List TForm) → List Tree → Prop
  | [], [] => True
  | g :: gs, t :: ts => FT a g t ∧ Rs a gs ts
  | _, _ => False
theorem Rs.app {a : List Int} : ∀ {gs : List (List TForm)} {ts : List Tree} {gs' : List (List TForm)} {ts' : List Tree}, Rs a gs ts → Rs a gs' ts' → Rs a (gs ++ gs') (ts ++ ts')
  | [], [], _, _, _, h => h
  | _ :: _, _ :: _, _, _, ⟨h1, h2⟩, h => ⟨h1, h2.app h⟩
  | [], _ :: _, _, _, h, _ => h.elim
  | _ :: _, [], _, _, h, _ => h.elim
theorem Rs.len {a : List Int} : ∀ {gs : List (List TForm)} {ts : List Tree}, Rs a gs ts → gs.length = ts.length
  | [], [], _ => rfl
  | _ :: _, _ :: _, ⟨_, h⟩ => by simp [h.len]
  | [], _ :: _, h => h.elim
  | _ :: _, [], h => h.elim
theorem Rs.cut {a : List Int} : ∀ (n : Nat) {gs : List (List TForm)} {ts : List Tree}, Rs a gs ts → Rs a (gs.take n) (ts.take n) ∧ Rs a (gs.drop n) (ts.drop n)
  | 0, _, _, h => ⟨trivial, h⟩
  | n + 1, [], [], _ => ⟨trivial, trivial⟩
  | n + 1, _ :: _, _ :: _, ⟨h1, h2⟩ => ⟨⟨h1, (h2.cut n).1⟩, (h2.cut n).2⟩
  | _ + 1, [], _ :: _, h => h.elim
  | _ + 1, _ :: _, [], h => h.elim

theorem gT_Rs {a : List Int} : ∀ (f : List TForm) (st st' : List Tree) (gs : List (List TForm)), Rs a gs st → gT a st f = some st' → ∃ gs', Rs a gs' st' ∧ gs'.flatten = gs.flatten ++ f := by
  intro f
  induction f with
  | nil =>
    intro st st' gs hr h
    obtain rfl := Option.some.inj h
    exact ⟨gs, hr, by simp⟩
  | cons x r ih =>
    intro st st' gs hr h
    simp only [gT] at h
    split at h
    · rename_i hc
      obtain ⟨hn, hle⟩ := hc
      have ho := ndOK_opn hn
      obtain ⟨c1, c2⟩ := hr.cut (st.length - (opn x.1).toNat)
      have hl := hr.len
      have hd : ((gs.drop (st.length - (opn x.1).toNat))).length = (opn x.1).toNat := by rw [List.length_drop]; omega
      have hd2 : ((st.drop (st.length - (opn x.1).toNat))).length = (opn x.1).toNat := by rw [List.length_drop]; omega
      have key : FT a ((gs.drop (st.length - (opn x.1).toNat)).flatten ++ [x]) (mkT x (st.drop (st.length - (opn x.1).toNat))) := by
        have h012 : opn x.1 = 0 ∨ opn x.1 = 1 ∨ opn x.1 = 2 := by omega
        rcases h012 with h0 | h0 | h0
        · rw [h0] at hd hd2 c2
          rw [h0]
          generalize gs.drop (st.length - (0 : Int).toNat) = G at *
          generalize st.drop (st.length - (0 : Int).toNat) = D at *
          match G, D, hd, hd2 with
          | [], [], _, _ => exact .leaf hn h0
        · rw [h0] at hd hd2 c2
          rw [h0]
          generalize gs.drop (st.length - (1 : Int).toNat) = G at *
          generalize st.drop (st.length - (1 : Int).toNat) = D at *
          match G, D, hd, hd2, c2 with
          | [g], [t], _, _, c2 => simpa using FT.un hn h0 c2.1
        · rw [h0] at hd hd2 c2
          rw [h0]
          generalize gs.drop (st.length - (2 : Int).toNat) = G at *
          generalize st.drop (st.length - (2 : Int).toNat) = D at *
          match G, D, hd, hd2, c2 with
          | [g, k], [t, u], _, _, c2 => simpa using FT.bin hn h0 c2.1 c2.2.1
      obtain ⟨gs', q1, q2⟩ := ih _ st' (gs.take (st.length - (opn x.1).toNat) ++ [(gs.drop (st.length - (opn x.1).toNat)).flatten ++ [x]]) (c1.app (show Rs a [_] [_] from ⟨key, trivial⟩)) h
      refine ⟨gs', q1, ?_⟩
      rw [q2]
      simp only [List.flatten_append, List.flatten_cons, List.flatten_nil, List.append_nil, List.append_assoc, List.singleton_append]
      rw [← List.append_assoc, ← List.flatten_append, List.take_append_drop]
    · cases h
theorem gT_FT {a : List Int} {f : List TForm} {t : Tree} (h : gT a [] f = some [t]) : FT a f t := by
  obtain ⟨gs, h1, h2⟩ := gT_Rs f [] [t] [] trivial h
  match gs, h1 with
  | [g], h1 =>
    simp at h2
    exact h2 ▸ h1.1

theorem idx_mid {α : Type} (pre post : List α) (x : α) : idx (pre ++ x :: post) (pre.length : Int) = some x := by
  rw [idx_nat]; simp

end Go.Proofs.YtcjaikkdpclaaaaCo.Ev

/- Plain laws: a formula's parts by their places. No condition. -/
namespace Go.Proofs.YtcjaikkdpclaaaaCo.Ev
open Go
set_option autoImplicit false
set_option linter.unusedVariables false
set_option linter.unusedSimpArgs false

/-- From a part's root back to its head. -/
theorem p_first {a : List Int} {h : List TForm} {t : Tree} (hf : FT a h t) : ∀ (pre post : List TForm) (j : Nat) (r : Int), pre.length + h.length ≤ 1000 → j ≤ 1000 → j + h.length ≤ 1000 →
    l_spec_l14First_60 M (pre ++ (h ++ post)) j ((pre.length : Int) - 1) = some (.inl (r, ())) → l_spec_l14First_60 M (pre ++ (h ++ post)) ((j : Int) + 1) ((pre.length : Int) + h.length - 1) = some (.inl (r, ())) := by
  have step : ∀ (pre post : List TForm) (x : TForm) (j : Nat) (r : Int), ndOK a x = true → pre.length ≤ 1000 → j ≤ 1000 → l_spec_l14First_60 M (pre ++ x :: post) ((j : Int) + opn x.1) ((pre.length : Int) - 1) = some (.inl (r, ())) → l_spec_l14First_60 M (pre ++ x :: post) ((j : Int) + 1) (pre.length : Int) = some (.inl (r, ())) := by
    intro pre post x j r hn hp hj hr
    have ho := ndOK_opn hn
    apply el_spec_l14First_60
    simp only [ql_spec_l14First_60]
    rw [if_pos (by simp <;> omega), idx_mid]
    simp only [Option.bind_some, p_l14Arity]
    rw [w64 (x := opn x.1 - 1) (by omega) (by omega), w64 (by omega) (by omega), w64 (x := (pre.length : Int) - 1) (by omega) (by omega), show (j : Int) + 1 + (opn x.1 - 1) = (j : Int) + opn x.1 by omega]
    exact hr
  induction hf with
  | leaf h h0 =>
    intro pre post j r hp hj hjh hr
    have := step pre post _ j r h (by simp at hp; omega) hj (by rw [h0]; simpa using hr)
    simpa using this
  | @un x g t h h1 hg ih =>
    intro pre post j r hp hj hjh hr
    simp only [List.length_append, List.length_cons, List.length_nil] at hp hjh
    have e1 := ih pre (x :: post) j r (by omega) hj (by omega) (by simpa using hr)
    have := step (pre ++ g) post x j r h (by simp; omega) hj (by
      rw [h1]
      simpa using e1)
    simp only [List.append_assoc, List.length_append, List.length_cons, List.length_nil, List.singleton_append] at this ⊢
    rw [show (pre.length : Int) + ((g.length + (0 + 1) : Nat) : Int) - 1 = ((pre.length + g.length : Nat) : Int) by omega]
    exact this
  | @bin x g k t u h h2 hg hk ih1 ih2 =>
    intro pre post j r hp hj hjh hr
    simp only [List.length_append, List.length_cons, List.length_nil] at hp hjh
    have e1 := ih1 pre (k ++ x :: post) j r (by omega) hj (by omega) (by simpa using hr)
    have e2 := ih2 (pre ++ g) (x :: post) (j + 1) r (by simp; omega) (by have := hg.pos; omega) (by have := hg.pos; omega) (by
      simp only [List.append_assoc, List.length_append] at e1 ⊢
      rw [show ((j + 1 : Nat) : Int) = (j : Int) + 1 by omega, show (((pre.length + g.length : Nat) : Int) - 1) = (pre.length : Int) + g.length - 1 by omega]
      exact e1)
    have := step (pre ++ (g ++ k)) post x j r h (by simp; omega) hj (by
      rw [h2]
      simp only [List.append_assoc, List.length_append] at e2 ⊢
      rw [show ((j + 1 : Nat) : Int) + 1 = (j : Int) + 2 by omega, show ((pre.length + g.length : Nat) : Int) + (k.length : Int) - 1 = ((pre.length + (g.length + k.length) : Nat) : Int) - 1 by omega] at e2
      exact e2)
    simp only [List.append_assoc, List.length_append, List.length_cons, List.length_nil, List.singleton_append] at this ⊢
    rw [show (pre.length : Int) + ((g.length + (k.length + (0 + 1)) : Nat) : Int) - 1 = ((pre.length + (g.length + k.length) : Nat) : Int) by omega]
    exact this

theorem p_l14First {a : List Int} {h : List TForm} {t : Tree} (hf : FT a h t) (pre post : List TForm) (hl : pre.length + h.length ≤ 900) : c_spec_l14First M (pre ++ (h ++ post)) ((pre.length : Int) + h.length) = some (((pre.length : Int) - 1, ()), ()) := by
  apply e_spec_l14First
  simp only [q_spec_l14First]
  rw [w64 (by omega) (by omega)]
  have := p_first hf pre post 0 ((pre.length : Int) - 1) (by omega) (by omega) (by omega) (el_spec_l14First_60 _ _ _ (by simp [ql_spec_l14First_60]))
  rw [show ((0 : Nat) : Int) + 1 = 1 from rfl] at this
  rw [this]
  rfl

theorem leaf_op {a : List Int} {x : TForm} (h : ndOK a x = true) (h0 : opn x.1 = 0) : x.1 = 1 ∧ isT a x.2.2.1 = true ∧ isT a x.2.2.2.1 = true := by
  have h1 : x.1 = 1 := by
    unfold opn at h0
    split at h0
    · assumption
    · split at h0
      · omega
      · split at h0 <;> omega
  unfold ndOK at h
  rw [if_pos h1] at h
  simp only [isB, Bool.and_eq_true] at h
  exact ⟨h1, h.2.1.1, h.2.2.1⟩
theorem un_op {a : List Int} {x : TForm} (h : ndOK a x = true) (h0 : opn x.1 = 1) : (x.1 = 2 ∨ x.1 = 5 ∨ x.1 = 6) ∧ 0 ≤ x.2.1 ∧ x.2.1 ≤ 5 := by
  have h1 : x.1 = 2 ∨ x.1 = 5 ∨ x.1 = 6 := by
    unfold opn at h0
    split at h0
    · omega
    · split at h0
      · assumption
      · split at h0 <;> omega
  refine ⟨h1, ?_⟩
  unfold ndOK at h
  rw [if_neg (by omega)] at h
  split at h
  · split at h
    · simpa using h
    · split at h
      · simp at h; omega
      · cases h
  · cases h
theorem bin_op {a : List Int} {x : TForm} (h : ndOK a x = true) (h0 : opn x.1 = 2) : x.1 = 3 ∨ x.1 = 4 := by
  unfold opn at h0
  split at h0
  · omega
  · split at h0
    · omega
    · split at h0
      · assumption
      · omega

end Go.Proofs.YtcjaikkdpclaaaaCo.Ev

/- Plain laws: formulas that can be clauses, by both programs. No condition but sizes. -/
namespace Go.Proofs.YtcjaikkdpclaaaaCo.Ev
open Go
set_option autoImplicit false
set_option linter.unusedVariables false
set_option linter.unusedSimpArgs false

/-- Only equations are negated; 'p': the operator in front. -/
def psb : Int → List TForm → Bool
  | _, [] => true
  | p, x :: r => (!(x.1 == 2) || p == 1) && psb x.1 r
def lastop : Int → List TForm → Int
  | p, [] => p
  | _, x :: r => lastop x.1 r
theorem psb_app : ∀ (L K : List TForm) (p : Int), psb p (L ++ K) = (psb p L && psb (lastop p L) K)
  | [], _, _ => rfl
  | x :: L, K, p => by
    simp only [List.cons_append, psb, lastop, psb_app L K]
    rw [Bool.and_assoc]
theorem lastop_app : ∀ (L K : List TForm) (p : Int), lastop p (L ++ K) = lastop (lastop p L) K
  | [], _, _ => rfl
  | x :: L, K, p => by simp only [List.cons_append, lastop, lastop_app L K]
/-- The operator in front of a place. -/
def bef (f : List TForm) (i : Nat) : Int := if h : 0 < i ∧ i - 1 < f.length then (f[i - 1]'h.2).1 else 0
theorem p_psb_loops (a : List Int) (f : List TForm) (hl : f.length ≤ 15) : ∀ k i p : Nat, i + k = f.length → p ≤ i → gF a p (f.drop i) = true → ∀ q : Int, (0 < i → q = bef f i) →
    l_spec_l14Pushed_26 M f f f.length i = some (if psb q (f.drop i) = true then .inl () else .inr ((false, ()), ())) ∧ l_impl_isPushed_26 M f f f.length i = some (if psb q (f.drop i) = true then .inl () else .inr ((false, ()), ())) := by
  intro k
  induction k with
  | zero =>
    intro i p hi hp hg q hq
    obtain rfl : i = f.length := by omega
    exact ⟨el_spec_l14Pushed_26 _ _ _ _ (by simp [ql_spec_l14Pushed_26, psb]), el_impl_isPushed_26 _ _ _ _ (by simp [ql_impl_isPushed_26, psb])⟩
  | succ k ih =>
    intro i p hi hp hg q hq
    have h1 : i < f.length := by omega
    rw [List.drop_eq_getElem_cons h1] at hg ⊢
    simp only [gF, Bool.and_eq_true, decide_eq_true_eq] at hg
    obtain ⟨hn, ho, hr⟩ := hg
    have hop := ndOK_opn hn
    obtain ⟨g1, g2⟩ := ih (i + 1) (p - (opn f[i].1).toNat + 1) (by omega) (by omega) hr f[i].1 (fun _ => by unfold bef; rw [dif_pos ⟨by omega, by simpa using h1⟩]; rfl)
    by_cases h2 : f[i].1 = 2
    · have hop1 := hop.2.2 h2
      have hi1 : 1 ≤ i := by omega
      have hlt : i - 1 < f.length := by omega
      have ew : IntKind.i64.wrap ((i : Int) - 1) = ((i - 1 : Nat) : Int) := by rw [w64 (by omega) (by omega)]; omega
      have hq' := hq (by omega)
      unfold bef at hq'
      rw [dif_pos ⟨by omega, hlt⟩] at hq'
      by_cases h3 : f[i - 1].1 = 1
      · have e : psb q (f[i] :: f.drop (i + 1)) = psb f[i].1 (f.drop (i + 1)) := by simp [psb, hq', h3]
        rw [e]
        refine ⟨el_spec_l14Pushed_26 _ _ _ _ ?_, el_impl_isPushed_26 _ _ _ _ ?_⟩
        · simp only [ql_spec_l14Pushed_26]
          rw [if_pos (by simpa using h1), idx_lt h1]
          simp only [Option.bind_some]
          rw [if_pos (by simpa using h2), ew, idx_lt hlt, inc_nat (by omega)]
          simp only [Option.bind_some]
          rw [if_neg (by simpa using h3)]
          exact g1
        · simp only [ql_impl_isPushed_26]
          rw [if_pos (by simpa using h1), idx_lt h1]
          simp only [Option.bind_some]
          rw [if_pos (by simpa using h2), ew, idx_lt hlt, inc_nat (by omega)]
          simp only [Option.bind_some]
          rw [if_neg (by simpa using h3)]
          exact g2
      · have e : psb q (f[i] :: f.drop (i + 1)) = false := by simp [psb, hq', h3, h2]
        rw [e]
        refine ⟨el_spec_l14Pushed_26 _ _ _ _ ?_, el_impl_isPushed_26 _ _ _ _ ?_⟩
        · simp only [ql_spec_l14Pushed_26]
          rw [if_pos (by simpa using h1), idx_lt h1]
          simp only [Option.bind_some]
          rw [if_pos (by simpa using h2), ew, idx_lt hlt]
          simp only [Option.bind_some]
          rw [if_pos (by simpa using h3)]
          rfl
        · simp only [ql_impl_isPushed_26]
          rw [if_pos (by simpa using h1), idx_lt h1]
          simp only [Option.bind_some]
          rw [if_pos (by simpa using h2), ew, idx_lt hlt]
          simp only [Option.bind_some]
          rw [if_pos (by simpa using h3)]
          rfl
    · have e : psb q (f[i] :: f.drop (i + 1)) = psb f[i].1 (f.drop (i + 1)) := by simp [psb, h2]
      rw [e]
      refine ⟨el_spec_l14Pushed_26 _ _ _ _ ?_, el_impl_isPushed_26 _ _ _ _ ?_⟩
      · simp only [ql_spec_l14Pushed_26]
        rw [if_pos (by simpa using h1), idx_lt h1]
        simp only [Option.bind_some]
        rw [if_neg (by simpa using h2), inc_nat (by omega)]
        exact g1
      · simp only [ql_impl_isPushed_26]
        rw [if_pos (by simpa using h1), idx_lt h1]
        simp only [Option.bind_some]
        rw [if_neg (by simpa using h2), inc_nat (by omega)]
        exact g2
theorem p_psb {a : List Int} {f : List TForm} (hf : fOK a f = true) : c_spec_l14Pushed M f = some ((psb 0 f, ()), ()) ∧ c_impl_isPushed M f = some ((psb 0 f, ()), ()) := by
  simp only [fOK, Bool.and_eq_true, decide_eq_true_eq] at hf
  obtain ⟨g1, g2⟩ := p_psb_loops a f hf.1 f.length 0 0 (by omega) (by omega) hf.2 0 (fun h => by omega)
  rw [show ((0 : Nat) : Int) = 0 from rfl, List.drop_zero] at g1 g2
  constructor
  · apply e_spec_l14Pushed
    simp only [q_spec_l14Pushed, g1, Option.bind_some]
    cases psb 0 f <;> rfl
  · apply e_impl_isPushed
    simp only [q_impl_isPushed, g2, Option.bind_some]
    cases psb 0 f <;> rfl

/-- No existential quantifiers, and universal ones for different variables. -/
def clz (seen : List Int) : List TForm → Bool
  | [] => true
  | x :: r => if x.1 = 6 then false else if x.1 = 5 then (if x.2.1 ∈ seen then false else clz (seen ++ [x.2.1]) r) else clz seen r
theorem clz6 {all : List Int} {x : TForm} {r : List TForm} (h : x.1 = 6) : clz all (x :: r) = false := by simp [clz, h]
theorem clz5m {all : List Int} {x : TForm} {r : List TForm} (h : x.1 = 5) (hm : x.2.1 ∈ all) : clz all (x :: r) = false := by simp [clz, h, hm]
theorem clz5n {all : List Int} {x : TForm} {r : List TForm} (h : x.1 = 5) (hm : x.2.1 ∉ all) : clz all (x :: r) = clz (all ++ [x.2.1]) r := by simp [clz, h, hm]
theorem clzo {all : List Int} {x : TForm} {r : List TForm} (h6 : x.1 ≠ 6) (h5 : x.1 ≠ 5) : clz all (x :: r) = clz all r := by simp [clz, h6, h5]
theorem p_l1Has_loop (v : Int) (a : List Int) (ha : a.length ≤ 1000) : ∀ k i : Nat, i + k = a.length → l_spec_l1Has_26 M v a a.length i = some (if v ∈ a.drop i then .inr ((true, ()), ()) else .inl ()) := by
  intro k
  induction k with
  | zero =>
    intro i hi
    obtain rfl : i = a.length := by omega
    exact el_spec_l1Has_26 _ _ _ _ (by simp [ql_spec_l1Has_26])
  | succ k ih =>
    intro i hi
    have h1 : i < a.length := by omega
    rw [List.drop_eq_getElem_cons h1]
    apply el_spec_l1Has_26
    simp only [ql_spec_l1Has_26]
    rw [if_pos (by simpa using h1), idx_lt h1, inc_nat (by omega)]
    simp only [Option.bind_some]
    by_cases h : a[i] = v
    · rw [if_pos (by simpa using h), if_pos (by rw [h]; exact List.mem_cons_self ..)]
    · rw [if_neg (by simpa using h), ih (i + 1) (by omega)]
      by_cases h2 : v ∈ a.drop (i + 1)
      · rw [if_pos h2, if_pos (List.mem_cons_of_mem _ h2)]
      · rw [if_neg h2, if_neg (fun h3 => by rcases List.mem_cons.1 h3 with e | e; exact h e.symm; exact h2 e)]
theorem p_l1Has (a : List Int) (v : Int) (ha : a.length ≤ 1000) : c_spec_l1Has M a v = some ((decide (v ∈ a), ()), ()) := by
  apply e_spec_l1Has
  have := p_l1Has_loop v a ha a.length 0 (by omega)
  rw [show ((0 : Nat) : Int) = 0 from rfl, List.drop_zero] at this
  simp only [q_spec_l1Has, this, Option.bind_some]
  by_cases h : v ∈ a
  · rw [if_pos h, decide_eq_true h]; rfl
  · rw [if_neg h, decide_eq_false h]; rfl
theorem p_clz_spec (s : TSign) (f : List TForm) (hl : f.length ≤ 100) : ∀ k i : Nat, i + k = f.length → ∀ all : List Int, all.length ≤ i → l_spec_ClausesOf_122 M f s all f f.length i = some (if clz all (f.drop i) = true then .inl (f, s, ()) else .inr (([], false, ()), ())) := by
  intro k
  induction k with
  | zero =>
    intro i hi all ha
    obtain rfl : i = f.length := by omega
    exact el_spec_ClausesOf_122 _ _ _ _ _ _ (by simp [ql_spec_ClausesOf_122, clz])
  | succ k ih =>
    intro i hi all ha
    have h1 : i < f.length := by omega
    rw [List.drop_eq_getElem_cons h1]
    apply el_spec_ClausesOf_122
    simp only [ql_spec_ClausesOf_122]
    rw [if_pos (by simpa using h1), idx_lt h1]
    simp only [Option.bind_some]
    by_cases h6 : f[i].1 = 6
    · rw [if_pos (by simpa using h6), clz6 h6]
      rfl
    · rw [if_neg (by simpa using h6)]
      by_cases h5 : f[i].1 = 5
      · rw [if_pos (by simpa using h5), p_l1Has all _ (by omega)]
        simp only [Option.bind_some]
        by_cases hm : f[i].2.1 ∈ all
        · rw [if_pos (by simpa using hm), clz5m h5 hm]
          rfl
        · rw [if_neg (by simpa using hm), clz5n h5 hm, if_pos (by simpa using h5), if_pos (by simp; omega)]
          simp only [Option.bind_some, Sum.elim_inl]
          rw [inc_nat (by omega)]
          exact ih (i + 1) (by omega) _ (by simp; omega)
      · rw [if_neg (by simpa using h5), clzo h6 h5, if_neg (by simpa using h5)]
        simp only [Option.bind_some, Sum.elim_inl]
        rw [inc_nat (by omega)]
        exact ih (i + 1) (by omega) _ (by omega)
/-- What the program keeps of the variables that were met. -/
def seenT (all : List Int) : Bool × Bool × Bool × Bool × Bool × Bool × Unit := (decide (0 ∈ all), decide (1 ∈ all), decide (2 ∈ all), decide (3 ∈ all), decide (4 ∈ all), decide (5 ∈ all), ())
theorem mem_snoc (v u : Int) (all : List Int) : decide (v ∈ all ++ [u]) = (decide (v ∈ all) || decide (v = u)) := by
  rw [Bool.eq_iff_iff]; simp
theorem p_clz_impl {a : List Int} (f : List TForm) (hl : f.length ≤ 100) (hnd : ∀ x ∈ f, ndOK a x = true) : ∀ k i : Nat, i + k = f.length → ∀ all : List Int, l_impl_isClausal_58 M f (seenT all) f f.length i = some (if clz all (f.drop i) = true then .inl (f, ()) else .inr ((false, ()), ())) := by
  intro k
  induction k with
  | zero =>
    intro i hi all
    obtain rfl : i = f.length := by omega
    apply el_impl_isClausal_58
    simp only [ql_impl_isClausal_58]
    rw [if_neg (by simp)]
    simp [clz]
  | succ k ih =>
    intro i hi all
    have h1 : i < f.length := by omega
    have hn := hnd _ (List.getElem_mem h1)
    rw [List.drop_eq_getElem_cons h1]
    apply el_impl_isClausal_58
    simp only [ql_impl_isClausal_58]
    rw [if_pos (by simpa using h1), idx_lt h1]
    simp only [Option.bind_some]
    by_cases h6 : f[i].1 = 6
    · rw [if_pos (by simpa using h6), clz6 h6]
      rfl
    · rw [if_neg (by simpa using h6)]
      by_cases h5 : f[i].1 = 5
      · have hv : 0 ≤ f[i].2.1 ∧ f[i].2.1 ≤ 5 := (un_op hn (by rw [h5]; rfl)).2
        have n5 : (f[i].1 == 5) = true := by simpa using h5
        have hw : IntKind.i64.wrap ((i : Int) + 1) = (i : Int) + 1 := w64 (by omega) (by omega)
        have go : ∀ (u : Int), f[i].2.1 = u → ∀ all' : List Int, all' = all ++ [u] → l_impl_isClausal_58 M f (seenT all') f f.length ((i + 1 : Nat) : Int) = some (if clz (all ++ [f[i].2.1]) (f.drop (i + 1)) = true then .inl (f, ()) else .inr ((false, ()), ())) := by
          intro u hu all' ha
          subst ha; subst hu
          exact ih (i + 1) (by omega) _
        rw [if_pos n5]
        have hcase : f[i].2.1 = 0 ∨ f[i].2.1 = 1 ∨ f[i].2.1 = 2 ∨ f[i].2.1 = 3 ∨ f[i].2.1 = 4 ∨ f[i].2.1 = 5 := by omega
        rcases hcase with hu | hu | hu | hu | hu | hu <;>
        · have hgo := go _ hu _ rfl
          simp only [seenT, mem_snoc] at hgo
          simp only [seenT]
          by_cases hm : f[i].2.1 ∈ all
          · rw [clz5m h5 hm]
            rw [hu] at hm
            simp [hm, hu]
          · rw [clz5n h5 hm]
            rw [hu] at hm hgo ⊢
            simp only [hm, n5, decide_false, Bool.false_or, Bool.or_false, Bool.false_eq_true, if_false, if_true, Int.reduceEq, Int.natCast_zero, Int.natCast_one, Option.bind_some, Sum.elim_inl, decide_true, Bool.or_true] at hgo ⊢
            simpa [hw] using hgo
      · rw [if_neg (by simpa using h5), clzo h6 h5, if_neg (by simpa using h5)]
        simp only [Option.bind_some, Sum.elim_inl]
        rw [inc_nat (by omega)]
        exact ih (i + 1) (by omega) _
end Go.Proofs.YtcjaikkdpclaaaaCo.Ev

/- Plain laws: both programs tell the same clauses. No condition but sizes. -/
namespace Go.Proofs.YtcjaikkdpclaaaaCo.Ev
open Go
set_option autoImplicit false
set_option linter.unusedVariables false
set_option linter.unusedSimpArgs false

def litOK (a : List Int) (x : TLit) : Bool := isT a x.2.1 && isT a x.2.2.1

def clOK (a : List Int) (c : List TLit) : Bool := decide (c.length ≤ 8) && c.all (litOK a)

theorem p_l4Lit (s : TSign) (hg : gS s.1 = true) (x : TLit) (h : smL x) : c_spec_l4Lit M s x = some ((litOK s.1 x, ()), ()) := by
  apply e_spec_l4Lit
  simp only [q_spec_l4Lit, sign_eta, p_l1Term s hg x.2.1 h.1, p_l1Term s hg x.2.2.1 h.2, Option.bind_some, litOK]
  cases isT s.1 x.2.1 <;> simp

theorem p_isLit (s : TSign) (hg : gS s.1 = true) (x : TLit) : c_impl_Sign_isLit M s x = some ((litOK s.1 x, ()), ()) := by
  apply e_impl_Sign_isLit
  simp only [q_impl_Sign_isLit, sign_eta, p_isTerm s hg x.2.1, p_isTerm s hg x.2.2.1, Option.bind_some, litOK]
  cases isT s.1 x.2.1 <;> simp

theorem p_l4Clause_loop (s : TSign) (hg : gS s.1 = true) (a : List TLit) (ha : a.length ≤ 1048576) (hx : ∀ x ∈ a, smL x) : ∀ k i : Nat, i + k = a.length → l_spec_l4Clause_26 M a s a a.length i = some (if (a.drop i).all (litOK s.1) = true then .inl (a, ()) else .inr ((false, ()), ())) := by
  intro k
  induction k with
  | zero =>
    intro i hi
    obtain rfl : i = a.length := by omega
    apply el_spec_l4Clause_26
    simp [ql_spec_l4Clause_26]
  | succ k ih =>
    intro i hi
    apply el_spec_l4Clause_26
    have h1 : i < a.length := by omega
    simp only [ql_spec_l4Clause_26]
    rw [if_pos (by simpa using h1), idx_lt h1, inc_nat (by omega)]
    simp only [Option.bind_some, sign_eta, lit_eta, p_l4Lit s hg a[i] (hx _ (List.getElem_mem h1)), ih (i + 1) (by omega)]
    rw [List.drop_eq_getElem_cons h1, List.all_cons]
    generalize litOK s.1 a[i] = b
    cases b <;> rfl

theorem p_l4Clause (s : TSign) (hg : gS s.1 = true) (a : List TLit) (ha : a.length ≤ 1048576) (hx : ∀ x ∈ a, smL x) : c_spec_l4Clause M s a = some ((clOK s.1 a, ()), ()) := by
  apply e_spec_l4Clause
  simp only [q_spec_l4Clause, sign_eta]
  have := p_l4Clause_loop s hg a ha hx a.length 0 (by omega)
  rw [show ((0 : Nat) : Int) = 0 from rfl] at this
  rw [this, List.drop_zero, clOK]
  cases a.all (litOK s.1)
  · simp
  · simp; omega

theorem p_isClause1 (s : TSign) (hg : gS s.1 = true) (x : TLit) : c_impl_Sign_isClause_1 M x s = some ((!litOK s.1 x, ()), ()) := by
  apply e_impl_Sign_isClause_1
  simp only [q_impl_Sign_isClause_1, sign_eta, lit_eta, p_isLit s hg x, Option.bind_some]

theorem p_clIdx_loop (s : TSign) (hg : gS s.1 = true) (a : List TLit) (ha : a.length ≤ 1048576) : ∀ k i : Nat, i + k = a.length → ∃ r, l_slices_IndexFunc_impl_Lit_impl_Lit__impl_Sign_isClause_1_26 M a (s, ()) a.length i = some r ∧ (match r with | .inl _ => (a.drop i).all (litOK s.1) = true | .inr r => 0 ≤ r.1.1 ∧ (a.drop i).all (litOK s.1) = false) := by
  intro k
  induction k with
  | zero =>
    intro i hi
    obtain rfl : i = a.length := by omega
    refine ⟨.inl (), el_slices_IndexFunc_impl_Lit_impl_Lit__impl_Sign_isClause_1_26 _ _ _ _ (by simp [ql_slices_IndexFunc_impl_Lit_impl_Lit__impl_Sign_isClause_1_26]), by simp⟩
  | succ k ih =>
    intro i hi
    have h1 : i < a.length := by omega
    obtain ⟨r, hr, hm⟩ := ih (i + 1) (by omega)
    rw [List.drop_eq_getElem_cons h1, List.all_cons]
    by_cases hp : litOK s.1 a[i] = true
    · refine ⟨r, el_slices_IndexFunc_impl_Lit_impl_Lit__impl_Sign_isClause_1_26 _ _ _ _ ?_, by rw [hp, Bool.true_and]; exact hm⟩
      simp only [ql_slices_IndexFunc_impl_Lit_impl_Lit__impl_Sign_isClause_1_26]
      rw [if_pos (by simpa using h1), idx_lt h1, inc_nat (by omega)]
      simp only [Option.bind_some, lit_eta, p_isClause1 s hg, hp, Bool.not_true, Bool.false_eq_true, if_false]
      exact hr
    · rw [Bool.not_eq_true] at hp
      refine ⟨.inr (((i : Int), ()), ()), el_slices_IndexFunc_impl_Lit_impl_Lit__impl_Sign_isClause_1_26 _ _ _ _ ?_, Int.natCast_nonneg i, by rw [hp, Bool.false_and]⟩
      simp only [ql_slices_IndexFunc_impl_Lit_impl_Lit__impl_Sign_isClause_1_26]
      rw [if_pos (by simpa using h1), idx_lt h1]
      simp only [Option.bind_some, lit_eta, p_isClause1 s hg, hp, Bool.not_false, if_true]

theorem p_clContains (s : TSign) (hg : gS s.1 = true) (a : List TLit) (ha : a.length ≤ 1048576) : c_slices_ContainsFunc_impl_Lit_impl_Lit__impl_Sign_isClause_1 M a (s, ()) = some ((!(a.all (litOK s.1)), ()), ()) := by
  apply e_slices_ContainsFunc_impl_Lit_impl_Lit__impl_Sign_isClause_1
  simp only [q_slices_ContainsFunc_impl_Lit_impl_Lit__impl_Sign_isClause_1]
  obtain ⟨r, hr, hm⟩ := p_clIdx_loop s hg a ha a.length 0 (by omega)
  rw [show ((0 : Nat) : Int) = 0 from rfl] at hr
  rw [List.drop_zero] at hm
  cases r with
  | inl r =>
    rw [e_slices_IndexFunc_impl_Lit_impl_Lit__impl_Sign_isClause_1 a (s, ()) (r := ((-1, ()), ())) (by simp only [q_slices_IndexFunc_impl_Lit_impl_Lit__impl_Sign_isClause_1, hr, Option.bind_some, Sum.elim_inl])]
    simp only at hm
    simp [hm]
  | inr r =>
    rw [e_slices_IndexFunc_impl_Lit_impl_Lit__impl_Sign_isClause_1 a (s, ()) (r := r) (by simp only [q_slices_IndexFunc_impl_Lit_impl_Lit__impl_Sign_isClause_1, hr, Option.bind_some, Sum.elim_inr])]
    simp only at hm
    simp [hm]

theorem p_isClause (s : TSign) (hg : gS s.1 = true) (a : List TLit) (ha : a.length ≤ 1048576) : c_impl_Sign_isClause M s a = some ((clOK s.1 a, ()), ()) := by
  apply e_impl_Sign_isClause
  simp only [q_impl_Sign_isClause, sign_eta, p_clContains s hg a ha, Option.bind_some, clOK]
  by_cases h : a.length ≤ 8
  · rw [if_pos (by simp; omega)]; simp [h]
  · rw [if_neg (by simp; omega)]; simp [h]

end Go.Proofs.YtcjaikkdpclaaaaCo.Ev

/- Plain laws: rows of clauses: whether they can be inputs; joined; all pairs; copied. No condition but sizes. -/
namespace Go.Proofs.YtcjaikkdpclaaaaCo.Ev
open Go
set_option autoImplicit false
set_option linter.unusedVariables false
set_option linter.unusedSimpArgs false

def inC (a : List Int) (o : List (List TLit)) : Bool := decide (o.length ≤ 12) && o.all (clOK a)
/-- Clauses that are not big. -/
def smK (c : List TLit) : Prop := c.length ≤ 16 ∧ ∀ x ∈ c, x.2.1.length ≤ 40 ∧ x.2.2.1.length ≤ 40
theorem smK.sm {c : List TLit} (h : smK c) : ∀ x ∈ c, smL x := fun x hx => ⟨by have := (h.2 x hx).1; omega, by have := (h.2 x hx).2; omega⟩

theorem p_in1 (s : TSign) (hg : gS s.1 = true) (c : List TLit) (hc : c.length ≤ 1048576) : c_impl_Sign_areInputs_1 M c s = some ((!clOK s.1 c, ()), ()) := by
  apply e_impl_Sign_areInputs_1
  simp only [q_impl_Sign_areInputs_1, sign_eta, p_isClause s hg c hc, Option.bind_some]
theorem p_inIdx_loop (s : TSign) (hg : gS s.1 = true) (o : List (List TLit)) (ho : o.length ≤ 1048576) (hx : ∀ c ∈ o, smK c) : ∀ k i : Nat, i + k = o.length → ∃ r, l_slices_IndexFunc_SS_impl_Lit_impl_Lit__impl_Sign_areInputs_1_26 M o (s, ()) o.length i = some r ∧ (match r with | .inl _ => (o.drop i).all (clOK s.1) = true | .inr r => 0 ≤ r.1.1 ∧ (o.drop i).all (clOK s.1) = false) := by
  intro k
  induction k with
  | zero =>
    intro i hi
    obtain rfl : i = o.length := by omega
    refine ⟨.inl (), el_slices_IndexFunc_SS_impl_Lit_impl_Lit__impl_Sign_areInputs_1_26 _ _ _ _ (by simp [ql_slices_IndexFunc_SS_impl_Lit_impl_Lit__impl_Sign_areInputs_1_26]), by simp⟩
  | succ k ih =>
    intro i hi
    have h1 : i < o.length := by omega
    have hc : o[i].length ≤ 1048576 := by have := (hx _ (List.getElem_mem h1)).1; omega
    obtain ⟨r, hr, hm⟩ := ih (i + 1) (by omega)
    rw [List.drop_eq_getElem_cons h1, List.all_cons]
    by_cases hp : clOK s.1 o[i] = true
    · refine ⟨r, el_slices_IndexFunc_SS_impl_Lit_impl_Lit__impl_Sign_areInputs_1_26 _ _ _ _ ?_, by rw [hp, Bool.true_and]; exact hm⟩
      simp only [ql_slices_IndexFunc_SS_impl_Lit_impl_Lit__impl_Sign_areInputs_1_26]
      rw [if_pos (by simpa using h1), idx_lt h1, inc_nat (by omega)]
      simp only [Option.bind_some, p_in1 s hg _ hc, hp, Bool.not_true, Bool.false_eq_true, if_false]
      exact hr
    · rw [Bool.not_eq_true] at hp
      refine ⟨.inr (((i : Int), ()), ()), el_slices_IndexFunc_SS_impl_Lit_impl_Lit__impl_Sign_areInputs_1_26 _ _ _ _ ?_, Int.natCast_nonneg i, by rw [hp, Bool.false_and]⟩
      simp only [ql_slices_IndexFunc_SS_impl_Lit_impl_Lit__impl_Sign_areInputs_1_26]
      rw [if_pos (by simpa using h1), idx_lt h1]
      simp only [Option.bind_some, p_in1 s hg _ hc, hp, Bool.not_false, if_true]
theorem p_inContains (s : TSign) (hg : gS s.1 = true) (o : List (List TLit)) (ho : o.length ≤ 1048576) (hx : ∀ c ∈ o, smK c) : c_slices_ContainsFunc_SS_impl_Lit_impl_Lit__impl_Sign_areInputs_1 M o (s, ()) = some ((!(o.all (clOK s.1)), ()), ()) := by
  apply e_slices_ContainsFunc_SS_impl_Lit_impl_Lit__impl_Sign_areInputs_1
  simp only [q_slices_ContainsFunc_SS_impl_Lit_impl_Lit__impl_Sign_areInputs_1]
  obtain ⟨r, hr, hm⟩ := p_inIdx_loop s hg o ho hx o.length 0 (by omega)
  rw [show ((0 : Nat) : Int) = 0 from rfl] at hr
  rw [List.drop_zero] at hm
  cases r with
  | inl r =>
    rw [e_slices_IndexFunc_SS_impl_Lit_impl_Lit__impl_Sign_areInputs_1 o (s, ()) (r := ((-1, ()), ())) (by simp only [q_slices_IndexFunc_SS_impl_Lit_impl_Lit__impl_Sign_areInputs_1, hr, Option.bind_some, Sum.elim_inl])]
    simp only at hm
    simp [hm]
  | inr r =>
    rw [e_slices_IndexFunc_SS_impl_Lit_impl_Lit__impl_Sign_areInputs_1 o (s, ()) (r := r) (by simp only [q_slices_IndexFunc_SS_impl_Lit_impl_Lit__impl_Sign_areInputs_1, hr, Option.bind_some, Sum.elim_inr])]
    simp only at hm
    simp [hm]
theorem p_areInputs (s : TSign) (hg : gS s.1 = true) (o : List (List TLit)) (ho : o.length ≤ 1048576) (hx : ∀ c ∈ o, smK c) : c_impl_Sign_areInputs M s o = some ((inC s.1 o, ()), ()) := by
  apply e_impl_Sign_areInputs
  simp only [q_impl_Sign_areInputs, sign_eta, p_inContains s hg o ho hx, Option.bind_some, inC]
  by_cases h : o.length ≤ 12
  · rw [if_pos (by simp; omega)]; simp [h]
  · rw [if_neg (by simp; omega)]; simp [h]
theorem p_l8Inputs_loop (s : TSign) (hg : gS s.1 = true) (o : List (List TLit)) (ho : o.length ≤ 1048576) (hx : ∀ c ∈ o, smK c) : ∀ k i : Nat, i + k = o.length → l_spec_l8Inputs_26 M o s o o.length i = some (if (o.drop i).all (clOK s.1) = true then .inl (o, s, ()) else .inr ((false, ()), ())) := by
  intro k
  induction k with
  | zero =>
    intro i hi
    obtain rfl : i = o.length := by omega
    apply el_spec_l8Inputs_26
    simp [ql_spec_l8Inputs_26]
  | succ k ih =>
    intro i hi
    apply el_spec_l8Inputs_26
    have h1 : i < o.length := by omega
    have hk := hx _ (List.getElem_mem h1)
    simp only [ql_spec_l8Inputs_26]
    rw [if_pos (by simpa using h1), idx_lt h1, inc_nat (by omega)]
    simp only [Option.bind_some, sign_eta, p_l4Clause s hg o[i] (by have := hk.1; omega) hk.sm, ih (i + 1) (by omega)]
    rw [List.drop_eq_getElem_cons h1, List.all_cons]
    generalize clOK s.1 o[i] = b
    cases b <;> rfl
theorem p_l8Inputs (s : TSign) (hs : s.1.length ≤ 17592186044416) (hg : gS s.1 = true) (o : List (List TLit)) (ho : o.length ≤ 1048576) (hx : ∀ c ∈ o, smK c) : c_spec_l8Inputs M s o = some ((inC s.1 o, ()), ()) := by
  apply e_spec_l8Inputs
  have := p_l8Inputs_loop s hg o ho hx o.length 0 (by omega)
  rw [show ((0 : Nat) : Int) = 0 from rfl, List.drop_zero] at this
  simp only [q_spec_l8Inputs, sign_eta, this, Option.bind_some, inC]
  cases o.all (clOK s.1) with
  | false => simp
  | true =>
    rw [if_pos rfl]
    simp only [Sum.elim_inl, sign_eta, p_spec_GoodSign s hs, hg, Option.bind_some, if_true]
    simp
    omega

theorem p_concatS (A B : List (List TLit)) (hA : A.length ≤ 100000) (hB : B.length ≤ 100000) : c_slices_Concat_SS_impl_Lit_impl_Lit M [A, B] = some ((A ++ B, ()), ()) := by
  have w1 : IntKind.i64.wrap ((0 : Int) + 1) = 1 := w64 (by omega) (by omega)
  have w2 : IntKind.i64.wrap ((1 : Int) + 1) = 2 := w64 (by omega) (by omega)
  have a2 : l_slices_Concat_SS_impl_Lit_impl_Lit_58 M [A, B] ((A.length : Int) + B.length) [A, B] (([A, B] : List (List (List TLit))).length : Int) 2 = some (.inl ([A, B], (A.length : Int) + B.length, ())) := el_slices_Concat_SS_impl_Lit_impl_Lit_58 _ _ _ _ _ (by simp [ql_slices_Concat_SS_impl_Lit_impl_Lit_58])
  have a1 : l_slices_Concat_SS_impl_Lit_impl_Lit_58 M [A, B] (A.length : Int) [A, B] (([A, B] : List (List (List TLit))).length : Int) 1 = some (.inl ([A, B], (A.length : Int) + B.length, ())) := el_slices_Concat_SS_impl_Lit_impl_Lit_58 _ _ _ _ _ (by
    simp only [ql_slices_Concat_SS_impl_Lit_impl_Lit_58]
    rw [if_pos (by simp), show idx [A, B] 1 = some B from rfl]
    simp only [Option.bind_some]
    rw [w64 (by omega) (by omega), if_neg (by simp; omega), w2]
    exact a2)
  have a0 : l_slices_Concat_SS_impl_Lit_impl_Lit_58 M [A, B] 0 [A, B] (([A, B] : List (List (List TLit))).length : Int) 0 = some (.inl ([A, B], (A.length : Int) + B.length, ())) := el_slices_Concat_SS_impl_Lit_impl_Lit_58 _ _ _ _ _ (by
    simp only [ql_slices_Concat_SS_impl_Lit_impl_Lit_58]
    rw [if_pos (by simp), show idx [A, B] 0 = some A from rfl]
    simp only [Option.bind_some]
    rw [Int.zero_add, w64 (by omega) (by omega), if_neg (by simp), w1]
    exact a1)
  have b2 : l_slices_Concat_SS_impl_Lit_impl_Lit_250 M (A ++ B) [A, B] (([A, B] : List (List (List TLit))).length : Int) 2 = some (.inl (A ++ B, ())) := el_slices_Concat_SS_impl_Lit_impl_Lit_250 _ _ _ _ (by simp [ql_slices_Concat_SS_impl_Lit_impl_Lit_250])
  have b1 : l_slices_Concat_SS_impl_Lit_impl_Lit_250 M A [A, B] (([A, B] : List (List (List TLit))).length : Int) 1 = some (.inl (A ++ B, ())) := el_slices_Concat_SS_impl_Lit_impl_Lit_250 _ _ _ _ (by
    simp only [ql_slices_Concat_SS_impl_Lit_impl_Lit_250]
    rw [if_pos (by simp), show idx [A, B] 1 = some B from rfl]
    simp only [Option.bind_some]
    rw [if_pos (by omega), w2]
    exact b2)
  have b0 : l_slices_Concat_SS_impl_Lit_impl_Lit_250 M [] [A, B] (([A, B] : List (List (List TLit))).length : Int) 0 = some (.inl (A ++ B, ())) := el_slices_Concat_SS_impl_Lit_impl_Lit_250 _ _ _ _ (by
    simp only [ql_slices_Concat_SS_impl_Lit_impl_Lit_250]
    rw [if_pos (by simp), show idx [A, B] 0 = some A from rfl]
    simp only [Option.bind_some]
    rw [if_pos (by simp; omega), w1, List.nil_append]
    exact b1)
  apply e_slices_Concat_SS_impl_Lit_impl_Lit
  simp only [q_slices_Concat_SS_impl_Lit_impl_Lit, a0, Option.bind_some, Sum.elim_inl]
  rw [if_pos (by omega), b0]
  rfl
theorem p_concatL (A B : List TLit) (hA : A.length ≤ 100000) (hB : B.length ≤ 100000) : c_slices_Concat_impl_Lit_impl_Lit M [A, B] = some ((A ++ B, ()), ()) := by
  have w1 : IntKind.i64.wrap ((0 : Int) + 1) = 1 := w64 (by omega) (by omega)
  have w2 : IntKind.i64.wrap ((1 : Int) + 1) = 2 := w64 (by omega) (by omega)
  have a2 : l_slices_Concat_impl_Lit_impl_Lit_58 M [A, B] ((A.length : Int) + B.length) [A, B] (([A, B] : List (List TLit)).length : Int) 2 = some (.inl ([A, B], (A.length : Int) + B.length, ())) := el_slices_Concat_impl_Lit_impl_Lit_58 _ _ _ _ _ (by simp [ql_slices_Concat_impl_Lit_impl_Lit_58])
  have a1 : l_slices_Concat_impl_Lit_impl_Lit_58 M [A, B] (A.length : Int) [A, B] (([A, B] : List (List TLit)).length : Int) 1 = some (.inl ([A, B], (A.length : Int) + B.length, ())) := el_slices_Concat_impl_Lit_impl_Lit_58 _ _ _ _ _ (by
    simp only [ql_slices_Concat_impl_Lit_impl_Lit_58]
    rw [if_pos (by simp), show idx [A, B] 1 = some B from rfl]
    simp only [Option.bind_some]
    rw [w64 (by omega) (by omega), if_neg (by simp; omega), w2]
    exact a2)
  have a0 : l_slices_Concat_impl_Lit_impl_Lit_58 M [A, B] 0 [A, B] (([A, B] : List (List TLit)).length : Int) 0 = some (.inl ([A, B], (A.length : Int) + B.length, ())) := el_slices_Concat_impl_Lit_impl_Lit_58 _ _ _ _ _ (by
    simp only [ql_slices_Concat_impl_Lit_impl_Lit_58]
    rw [if_pos (by simp), show idx [A, B] 0 = some A from rfl]
    simp only [Option.bind_some]
    rw [Int.zero_add, w64 (by omega) (by omega), if_neg (by simp), w1]
    exact a1)
  have b2 : l_slices_Concat_impl_Lit_impl_Lit_250 M (A ++ B) [A, B] (([A, B] : List (List TLit)).length : Int) 2 = some (.inl (A ++ B, ())) := el_slices_Concat_impl_Lit_impl_Lit_250 _ _ _ _ (by simp [ql_slices_Concat_impl_Lit_impl_Lit_250])
  have b1 : l_slices_Concat_impl_Lit_impl_Lit_250 M A [A, B] (([A, B] : List (List TLit)).length : Int) 1 = some (.inl (A ++ B, ())) := el_slices_Concat_impl_Lit_impl_Lit_250 _ _ _ _ (by
    simp only [ql_slices_Concat_impl_Lit_impl_Lit_250]
    rw [if_pos (by simp), show idx [A, B] 1 = some B from rfl]
    simp only [Option.bind_some]
    rw [if_pos (by omega), w2]
    exact b2)
  have b0 : l_slices_Concat_impl_Lit_impl_Lit_250 M [] [A, B] (([A, B] : List (List TLit)).length : Int) 0 = some (.inl (A ++ B, ())) := el_slices_Concat_impl_Lit_impl_Lit_250 _ _ _ _ (by
    simp only [ql_slices_Concat_impl_Lit_impl_Lit_250]
    rw [if_pos (by simp), show idx [A, B] 0 = some A from rfl]
    simp only [Option.bind_some]
    rw [if_pos (by simp; omega), w1, List.nil_append]
    exact b1)
  apply e_slices_Concat_impl_Lit_impl_Lit
  simp only [q_slices_Concat_impl_Lit_impl_Lit, a0, Option.bind_some, Sum.elim_inl]
  rw [if_pos (by omega), b0]
  rfl

theorem p_ownS (x : List Int) (h : x.length ≤ 1048576) : c_spec_l1Own M x = some ((x, ()), ()) := by
  apply e_spec_l1Own
  simp only [q_spec_l1Own]
  rw [if_pos (by simp; omega)]
  rfl
theorem p_l4Own_loop (c : List TLit) (hc : smK c) : ∀ k i : Nat, i + k = c.length → ∀ o : List TLit, o.length = i → l_spec_l4Own_58 M o c c.length i = some (.inl (o ++ c.drop i, ())) := by
  have h16 := hc.1
  intro k
  induction k with
  | zero =>
    intro i hi o ho
    obtain rfl : i = c.length := by omega
    apply el_spec_l4Own_58
    simp [ql_spec_l4Own_58]
  | succ k ih =>
    intro i hi o ho
    have h1 : i < c.length := by omega
    have hx := hc.2 _ (List.getElem_mem h1)
    apply el_spec_l4Own_58
    simp only [ql_spec_l4Own_58]
    rw [if_pos (by simpa using h1), idx_lt h1, inc_nat (by omega)]
    simp only [Option.bind_some, p_ownS c[i].2.1 (by omega), p_ownS c[i].2.2.1 (by omega)]
    rw [if_pos (by simp; omega), ih (i + 1) (by omega) _ (by simp [ho]), List.drop_eq_getElem_cons h1, List.append_assoc]
    rfl
theorem p_l4Own (c : List TLit) (hc : smK c) : c_spec_l4Own M c = some ((c, ()), ()) := by
  apply e_spec_l4Own
  have := p_l4Own_loop c hc c.length 0 (by omega) [] rfl
  rw [show ((0 : Nat) : Int) = 0 from rfl, List.drop_zero, List.nil_append] at this
  simp only [q_spec_l4Own, this, Option.bind_some, Sum.elim_inl]

/-- All pairs of clauses, joined. -/
def prodC (A B : List (List TLit)) : List (List TLit) := A.flatMap fun c => B.map fun d => c ++ d
section
variable (s : TSign) (A B : List (List TLit)) (hA : A.length ≤ 12) (hB : B.length ≤ 12) (cA : ∀ c ∈ A, c.length ≤ 8 ∧ smK c) (cB : ∀ c ∈ B, c.length ≤ 8 ∧ smK c)
include hA hB cA cB
omit hA cA in
theorem p_prod_in (c : List TLit) (hc : c.length ≤ 8) (i : Int) : ∀ k j : Nat, j + k = B.length → ∀ o : List (List TLit), o.length + k ≤ 1000 → l_impl_tree_clauses_128974438 M s o B c A A.length i B.length j = some (.inl (s, o ++ (B.drop j).map (fun d => c ++ d), B, A, (A.length : Int), i, ())) := by
  intro k
  induction k with
  | zero =>
    intro j hj o ho
    obtain rfl : j = B.length := by omega
    apply el_impl_tree_clauses_128974438
    simp only [ql_impl_tree_clauses_128974438, sign_eta]
    rw [if_neg (by simp)]
    simp
  | succ k ih =>
    intro j hj o ho
    have h1 : j < B.length := by omega
    have hd := (cB _ (List.getElem_mem h1)).1
    apply el_impl_tree_clauses_128974438
    simp only [ql_impl_tree_clauses_128974438, sign_eta]
    rw [if_pos (by simpa using h1), if_pos (by omega), Int.toNat_natCast, List.getElem?_eq_getElem h1]
    simp only [Option.bind_some, p_concatL c B[j] (by omega) (by omega)]
    rw [if_pos (by simp; omega), inc_nat (by omega), ih (j + 1) (by omega) _ (by simp; omega), List.drop_eq_getElem_cons h1, List.map_cons, List.append_assoc]
    rfl
theorem p_prod : ∀ k i : Nat, i + k = A.length → ∀ o : List (List TLit), o.length + 12 * k ≤ 900 → l_impl_tree_clauses_503806 M s o B A A.length i = some (.inl (s, o ++ prodC (A.drop i) B, ())) := by
  intro k
  induction k with
  | zero =>
    intro i hi o ho
    obtain rfl : i = A.length := by omega
    apply el_impl_tree_clauses_503806
    simp only [ql_impl_tree_clauses_503806, sign_eta]
    rw [if_neg (by simp)]
    simp [prodC]
  | succ k ih =>
    intro i hi o ho
    have h1 : i < A.length := by omega
    have hc := (cA _ (List.getElem_mem h1)).1
    apply el_impl_tree_clauses_503806
    simp only [ql_impl_tree_clauses_503806, sign_eta]
    rw [if_pos (by simpa using h1), if_pos (by omega), Int.toNat_natCast, List.getElem?_eq_getElem h1]
    have := p_prod_in s A B hB cB A[i] hc i B.length 0 (by omega) o (by omega)
    rw [show ((0 : Nat) : Int) = 0 from rfl, List.drop_zero] at this
    simp only [Option.bind_some, this, Sum.elim_inl, sign_eta]
    rw [inc_nat (by omega), ih (i + 1) (by omega) _ (by simp; omega), List.drop_eq_getElem_cons h1]
    simp only [prodC, List.flatMap_cons, List.append_assoc]
omit hA cA in
theorem p_sprod_in (c : List TLit) (hc : c.length ≤ 8 ∧ smK c) (i : Int) : ∀ k j : Nat, j + k = B.length → ∀ o : List (List TLit), o.length + k ≤ 1000 → l_spec_l15Clauses_2092646 M s B o c A A.length i B.length j = some (.inl (s, B, o ++ (B.drop j).map (fun d => c ++ d), A, (A.length : Int), i, ())) := by
  intro k
  induction k with
  | zero =>
    intro j hj o ho
    obtain rfl : j = B.length := by omega
    apply el_spec_l15Clauses_2092646
    simp only [ql_spec_l15Clauses_2092646, sign_eta]
    rw [if_neg (by simp)]
    simp
  | succ k ih =>
    intro j hj o ho
    have h1 : j < B.length := by omega
    have hd := cB _ (List.getElem_mem h1)
    have hd1 := hd.1
    have hc1 := hc.1
    have hsm : smK (c ++ B[j]) := ⟨by simp; omega, fun x hx => by
      rcases List.mem_append.1 hx with h | h
      · exact hc.2.2 x h
      · exact hd.2.2 x h⟩
    apply el_spec_l15Clauses_2092646
    simp only [ql_spec_l15Clauses_2092646, sign_eta]
    rw [if_pos (by simpa using h1), if_pos (by omega), Int.toNat_natCast, List.getElem?_eq_getElem h1]
    simp only [Option.bind_some, List.nil_append]
    rw [if_pos (by simp; omega), if_pos (by omega), p_l4Own _ hsm]
    simp only [Option.bind_some]
    rw [if_pos (by simp; omega), inc_nat (by omega), ih (j + 1) (by omega) _ (by simp; omega), List.drop_eq_getElem_cons h1, List.map_cons, List.append_assoc]
    rfl
theorem p_sprod : ∀ k i : Nat, i + k = A.length → ∀ o : List (List TLit), o.length + 12 * k ≤ 900 → l_spec_l15Clauses_8174 M s B o A A.length i = some (.inl (s, o ++ prodC (A.drop i) B, ())) := by
  intro k
  induction k with
  | zero =>
    intro i hi o ho
    obtain rfl : i = A.length := by omega
    apply el_spec_l15Clauses_8174
    simp only [ql_spec_l15Clauses_8174, sign_eta]
    rw [if_neg (by simp)]
    simp [prodC]
  | succ k ih =>
    intro i hi o ho
    have h1 : i < A.length := by omega
    have hc := cA _ (List.getElem_mem h1)
    apply el_spec_l15Clauses_8174
    simp only [ql_spec_l15Clauses_8174, sign_eta]
    rw [if_pos (by simpa using h1), if_pos (by omega), Int.toNat_natCast, List.getElem?_eq_getElem h1]
    have := p_sprod_in s A B hB cB A[i] hc i B.length 0 (by omega) o (by omega)
    rw [show ((0 : Nat) : Int) = 0 from rfl, List.drop_zero] at this
    simp only [Option.bind_some, this, Sum.elim_inl, sign_eta]
    rw [inc_nat (by omega), ih (i + 1) (by omega) _ (by simp; omega), List.drop_eq_getElem_cons h1]
    simp only [prodC, List.flatMap_cons, List.append_assoc]
end
end Go.Proofs.YtcjaikkdpclaaaaCo.Ev

/- Plain laws: the clauses of a formula, by both programs. No condition but sizes. -/
namespace Go.Proofs.YtcjaikkdpclaaaaCo.Ev
open Go
set_option autoImplicit false
set_option linter.unusedVariables false
set_option linter.unusedSimpArgs false

def treeL : Tree → List Int
  | .nil => []
  | .mk _ _ l _ _ => l
def treeR : Tree → List Int
  | .nil => []
  | .mk _ _ _ r _ => r
/-- The clauses, and whether they are few and short enough. -/
def clT (a : List Int) : Tree → List (List TLit) × Bool
  | .nil => ([], true)
  | .mk _ _ l r [] => ([[(true, l, r, ())]], true)
  | .mk op _ _ _ [t] => if op = 2 then ([[(false, treeL t, treeR t, ())]], true) else clT a t
  | .mk op _ _ _ (t :: u :: _) =>
    if (clT a t).2 && (clT a u).2 then (if op = 3 then (clT a t).1 ++ (clT a u).1 else prodC (clT a t).1 (clT a u).1, inC a (if op = 3 then (clT a t).1 ++ (clT a u).1 else prodC (clT a t).1 (clT a u).1))
    else ([], false)
theorem clT_leaf (a : List Int) (x : TForm) : clT a (mkT x []) = ([[(true, x.2.2.1, x.2.2.2.1, ())]], true) := rfl
theorem clT_not (a : List Int) (x : TForm) (t : Tree) (h : x.1 = 2) : clT a (mkT x [t]) = ([[(false, treeL t, treeR t, ())]], true) := by simp [clT, h]
theorem clT_all (a : List Int) (x : TForm) (t : Tree) (h : x.1 ≠ 2) : clT a (mkT x [t]) = clT a t := by simp [clT, h]
theorem clT_bin (a : List Int) (x : TForm) (t u : Tree) : clT a (mkT x [t, u]) = if (clT a t).2 && (clT a u).2 then (if x.1 = 3 then (clT a t).1 ++ (clT a u).1 else prodC (clT a t).1 (clT a u).1, inC a (if x.1 = 3 then (clT a t).1 ++ (clT a u).1 else prodC (clT a t).1 (clT a u).1)) else ([], false) := rfl
/-- What is known of clauses that were made. -/
def CK (a : List Int) (r : List (List TLit) × Bool) : Prop := r.1.length ≤ 144 ∧ (∀ c ∈ r.1, smK c) ∧ (r.2 = true → inC a r.1 = true)
theorem inC_8 {a : List Int} {o : List (List TLit)} (h : inC a o = true) : o.length ≤ 12 ∧ ∀ c ∈ o, c.length ≤ 8 := by
  simp only [inC, Bool.and_eq_true, decide_eq_true_eq, List.all_eq_true, clOK] at h
  exact ⟨h.1, fun c hc => (h.2 c hc).1⟩
theorem prodC_len : ∀ (A B : List (List TLit)), (prodC A B).length = A.length * B.length
  | [], B => by simp [prodC]
  | c :: A, B => by
    have := prodC_len A B
    simp only [prodC, List.flatMap_cons, List.length_append, List.length_map, List.length_cons] at this ⊢
    rw [this, Nat.succ_mul]; omega
theorem prodC_smK {A B : List (List TLit)} (hA : ∀ c ∈ A, c.length ≤ 8 ∧ smK c) (hB : ∀ c ∈ B, c.length ≤ 8 ∧ smK c) : ∀ c ∈ prodC A B, smK c := by
  intro c hc
  obtain ⟨p, hp, hq⟩ := List.mem_flatMap.1 hc
  obtain ⟨q, hq2, rfl⟩ := List.mem_map.1 hq
  have h1 := hA p hp
  have h2 := hB q hq2
  have h3 := h1.1
  have h4 := h2.1
  refine ⟨by simp; omega, fun x hx => ?_⟩
  rcases List.mem_append.1 hx with h | h
  · exact h1.2.2 x h
  · exact h2.2.2 x h
theorem isT_len {a : List Int} {t : List Int} (h : isT a t = true) : t.length ≤ 40 := (isT_ge h).1
theorem one_in {a : List Int} {b : Bool} {l r : List Int} (hl : isT a l = true) (hr : isT a r = true) : inC a [[(b, l, r, ())]] = true ∧ smK [(b, l, r, ())] := by
  refine ⟨by simp [inC, clOK, litOK, hl, hr], by simp, fun x hx => ?_⟩
  rw [List.mem_singleton.1 hx]
  exact ⟨isT_len hl, isT_len hr⟩
theorem lastop_leaf {a : List Int} {g : List TForm} {t : Tree} (h : FT a g t) (p : Int) (h1 : lastop p g = 1) : ∃ x : TForm, t = mkT x [] ∧ g = [x] ∧ isT a x.2.2.1 = true ∧ isT a x.2.2.2.1 = true := by
  cases h with
  | @leaf x h h0 => exact ⟨x, rfl, rfl, (leaf_op h h0).2.1, (leaf_op h h0).2.2⟩
  | @un x g t h h1' hg =>
    rw [lastop_app] at h1
    have := (un_op h h1').1
    simp only [lastop] at h1
    omega
  | @bin x g k t u h h2 hg hk =>
    rw [lastop_app] at h1
    have := bin_op h h2
    simp only [lastop] at h1
    omega
theorem p_clauses {a : List Int} (ha : a.length ≤ 1048576) (hg : gS a = true) {h : List TForm} {t : Tree} (hf : FT a h t) : (∀ x ∈ h, x.1 ≠ 6) → (∃ p, psb p h = true) →
    CK a (clT a t) ∧ c_impl_tree_clauses M t (a, ()) = some (((clT a t).1, (clT a t).2, ()), ()) ∧
      ∀ pre post : List TForm, pre.length + h.length ≤ 100 → c_spec_l15Clauses M (a, ()) (pre ++ (h ++ post)) ((pre.length : Int) + h.length - 1) = some (((clT a t).1, (clT a t).2, ()), ()) := by
  induction hf with
  | @leaf x h h0 =>
    intro _ _
    obtain ⟨ho, tl, tr⟩ := leaf_op h h0
    obtain ⟨i1, i2⟩ := one_in (b := true) tl tr
    have h1 := isT_len tl
    have h2 := isT_len tr
    rw [clT_leaf]
    refine ⟨⟨by simp, fun c hc => by rw [List.mem_singleton.1 hc]; exact i2, fun _ => i1⟩, ?_, fun pre post hp => ?_⟩
    · apply e_impl_tree_clauses
      simp only [q_impl_tree_clauses, treeK, ho, Int.reduceBEq, if_true, Option.bind_some, Sum.elim_inl]
      rw [p_areInputs (a, ()) hg _ (by simp) (fun c hc => by rw [List.mem_singleton.1 hc]; exact i2), i1]
      rfl
    · rw [show (pre.length : Int) + (([x] : List TForm).length : Int) - 1 = (pre.length : Int) by simp, List.singleton_append]
      apply e_spec_l15Clauses
      simp only [q_spec_l15Clauses, idx_mid, Option.bind_some, ho, Int.reduceBEq, if_true, p_ownS x.2.2.1 (by omega), p_ownS x.2.2.2.1 (by omega)]
  | @un x g t h h1 hg' ih =>
    intro hx6 hps
    obtain ⟨p, hps⟩ := hps
    rw [psb_app] at hps
    simp only [psb, Bool.and_eq_true, Bool.or_eq_true, Bool.not_eq_true', beq_iff_eq, beq_eq_false_iff_ne, and_true] at hps
    obtain ⟨h256, v0, v5⟩ := un_op h h1
    have hx := hx6 x (by simp)
    by_cases h2 : x.1 = 2
    · obtain ⟨y, rfl, rfl, tl, tr⟩ := lastop_leaf hg' p (by rcases hps.2 with q | q; exact absurd h2 q; exact q)
      obtain ⟨i1, i2⟩ := one_in (b := false) tl tr
      have h3 := isT_len tl
      have h4 := isT_len tr
      rw [clT_not a x _ h2]
      refine ⟨⟨by simp, fun c hc => by rw [List.mem_singleton.1 hc]; exact i2, fun _ => i1⟩, ?_, fun pre post hp => ?_⟩
      · apply e_impl_tree_clauses
        simp only [q_impl_tree_clauses, treeK, h2, Int.reduceBEq, Bool.false_eq_true, if_false, if_true, Option.bind_some, show ∀ z : Tree, idx [z] 0 = some z from fun _ => rfl, Sum.elim_inl]
        rw [p_areInputs (a, ()) hg _ (by simp) (fun c hc => by rw [List.mem_singleton.1 hc]; exact i2), i1]
        rfl
      · apply e_spec_l15Clauses
        simp only [List.length_append, List.length_cons, List.length_nil] at hp ⊢
        rw [show (pre.length : Int) + ((0 + 1 + (0 + 1) : Nat) : Int) - 1 = ((pre ++ [y]).length : Int) by simp; omega, show pre ++ ([y] ++ [x] ++ post) = (pre ++ [y]) ++ x :: post by simp]
        simp only [q_spec_l15Clauses, idx_mid, Option.bind_some, h2, Int.reduceBEq, Bool.false_eq_true, if_false, if_true]
        rw [w64 (by omega) (by simp; omega), show ((pre ++ [y]).length : Int) - 1 = (pre.length : Int) by simp, show pre ++ [y] ++ x :: post = pre ++ y :: (x :: post) by simp, idx_mid]
        simp only [Option.bind_some, p_ownS y.2.2.1 (by omega), p_ownS y.2.2.2.1 (by omega)]
        rfl
    · have h5 : x.1 = 5 := by omega
      obtain ⟨k1, k2, k3⟩ := ih (fun y hy => hx6 y (by simp [hy])) ⟨p, hps.1⟩
      rw [clT_all a x t h2]
      refine ⟨k1, ?_, fun pre post hp => ?_⟩
      · apply e_impl_tree_clauses
        simp only [q_impl_tree_clauses, treeK, h5, Int.reduceBEq, Bool.false_eq_true, if_false, if_true, Option.bind_some, show ∀ z : Tree, idx [z] 0 = some z from fun _ => rfl, k2]
        rfl
      · simp only [List.length_append, List.length_cons, List.length_nil] at hp ⊢
        apply e_spec_l15Clauses
        rw [show (pre.length : Int) + ((g.length + (0 + 1) : Nat) : Int) - 1 = ((pre ++ g).length : Int) by simp; omega, show pre ++ (g ++ [x] ++ post) = (pre ++ g) ++ x :: post by simp]
        simp only [q_spec_l15Clauses, idx_mid, Option.bind_some, h5, Int.reduceBEq, Bool.false_eq_true, if_false, if_true]
        rw [w64 (by omega) (by simp; omega), show ((pre ++ g).length : Int) - 1 = (pre.length : Int) + g.length - 1 by simp, List.append_assoc, k3 pre (x :: post) (by omega)]
        rfl
  | @bin x g k t u h h2 hg' hk ih1 ih2 =>
    intro hx6 hps
    obtain ⟨p, hps⟩ := hps
    rw [psb_app, psb_app, Bool.and_eq_true, Bool.and_eq_true] at hps
    have h34 := bin_op h h2
    obtain ⟨⟨a1, a2, a3⟩, b1, b2⟩ := ih1 (fun y hy => hx6 y (by simp [hy])) ⟨p, hps.1.1⟩
    obtain ⟨⟨c1, c2, c3⟩, d1, d2⟩ := ih2 (fun y hy => hx6 y (by simp [hy])) ⟨_, hps.1.2⟩
    have n1 : (x.1 == 1) = false := by simp; omega
    have n2 : (x.1 == 2) = false := by simp; omega
    have n5 : (x.1 == 5) = false := by simp; omega
    have tail : ∀ pre post : List TForm, pre.length + (g ++ k ++ [x]).length ≤ 100 → c_spec_l14First M (pre ++ (g ++ k ++ [x] ++ post)) ((pre.length : Int) + (g ++ k ++ [x]).length - 1) = some (((pre.length : Int) + g.length - 1, ()), ()) := by
      intro pre post hp
      simp only [List.length_append, List.length_cons, List.length_nil] at hp ⊢
      have := p_l14First hk (pre ++ g) (x :: post) (by simp; omega)
      rw [show pre ++ g ++ (k ++ x :: post) = pre ++ (g ++ k ++ [x] ++ post) by simp, show ((pre ++ g).length : Int) + k.length = (pre.length : Int) + ((g.length + k.length + (0 + 1) : Nat) : Int) - 1 by simp; omega, show ((pre ++ g).length : Int) - 1 = (pre.length : Int) + g.length - 1 by simp] at this
      exact this
    rw [clT_bin]
    have key : ∀ (rr : List (List TLit) × Bool), rr = (if (clT a t).2 && (clT a u).2 then (if x.1 = 3 then (clT a t).1 ++ (clT a u).1 else prodC (clT a t).1 (clT a u).1, inC a (if x.1 = 3 then (clT a t).1 ++ (clT a u).1 else prodC (clT a t).1 (clT a u).1)) else ([], false)) →
        CK a rr ∧ c_impl_tree_clauses M (mkT x [t, u]) (a, ()) = some ((rr.1, rr.2, ()), ()) ∧ ∀ pre post : List TForm, pre.length + (g ++ k ++ [x]).length ≤ 100 → c_spec_l15Clauses M (a, ()) (pre ++ (g ++ k ++ [x] ++ post)) ((pre.length : Int) + (g ++ k ++ [x]).length - 1) = some ((rr.1, rr.2, ()), ()) := by
      intro rr hrr
      have spre : ∀ pre post : List TForm, pre.length + (g ++ k ++ [x]).length ≤ 100 → idx (pre ++ (g ++ k ++ [x] ++ post)) ((pre.length : Int) + (g ++ k ++ [x]).length - 1) = some x ∧
          c_spec_l15Clauses M (a, ()) (pre ++ (g ++ k ++ [x] ++ post)) ((pre.length : Int) + g.length - 1) = some (((clT a t).1, (clT a t).2, ()), ()) ∧
          c_spec_l15Clauses M (a, ()) (pre ++ (g ++ k ++ [x] ++ post)) (IntKind.i64.wrap ((pre.length : Int) + (g ++ k ++ [x]).length - 1 - 1)) = some (((clT a u).1, (clT a u).2, ()), ()) := by
        intro pre post hp
        simp only [List.length_append, List.length_cons, List.length_nil] at hp ⊢
        refine ⟨?_, ?_, ?_⟩
        · rw [show (pre.length : Int) + ((g.length + k.length + (0 + 1) : Nat) : Int) - 1 = ((pre ++ (g ++ k)).length : Int) by simp; omega, show pre ++ (g ++ k ++ [x] ++ post) = (pre ++ (g ++ k)) ++ x :: post by simp, idx_mid]
        · have := b2 pre (k ++ x :: post) (by omega)
          rw [show pre ++ (g ++ (k ++ x :: post)) = pre ++ (g ++ k ++ [x] ++ post) by simp] at this
          exact this
        · have := d2 (pre ++ g) (x :: post) (by simp; omega)
          rw [show pre ++ g ++ (k ++ x :: post) = pre ++ (g ++ k ++ [x] ++ post) by simp] at this
          rw [w64 (by omega) (by omega), show (pre.length : Int) + ((g.length + k.length + (0 + 1) : Nat) : Int) - 1 - 1 = ((pre ++ g).length : Int) + k.length - 1 by simp; omega]
          exact this
      have i0 : ∀ y z : Tree, idx [y, z] 0 = some y := fun _ _ => rfl
      have i1 : ∀ y z : Tree, idx [y, z] 1 = some z := fun _ _ => rfl
      cases hA : (clT a t).2 with
      | false =>
        rw [hA, Bool.false_and, if_neg (by simp)] at hrr
        rw [hA] at b1 spre
        subst hrr
        refine ⟨⟨by simp, by simp, by simp⟩, e_impl_tree_clauses _ _ ?_, fun pre post hp => e_spec_l15Clauses _ _ _ ?_⟩
        · simp only [q_impl_tree_clauses, treeK, n1, n2, n5, Bool.false_eq_true, if_false, i0, i1, b1, d1, Option.bind_some, Bool.not_false, if_true]
          rfl
        · obtain ⟨s1, s2, s3⟩ := spre pre post hp
          simp only [q_spec_l15Clauses, s1, n1, n2, n5, Bool.false_eq_true, if_false, Option.bind_some, tail pre post hp, s2, s3, Bool.not_false, if_true]
      | true =>
        cases hB : (clT a u).2 with
        | false =>
          rw [hA, hB, Bool.true_and, if_neg (by simp)] at hrr
          rw [hA] at b1
          rw [hB] at d1
          rw [hA, hB] at spre
          subst hrr
          refine ⟨⟨by simp, by simp, by simp⟩, e_impl_tree_clauses _ _ ?_, fun pre post hp => e_spec_l15Clauses _ _ _ ?_⟩
          · simp only [q_impl_tree_clauses, treeK, n1, n2, n5, Bool.false_eq_true, if_false, i0, i1, b1, d1, Option.bind_some, Bool.not_false, Bool.not_true, if_true]
            rfl
          · obtain ⟨s1, s2, s3⟩ := spre pre post hp
            simp only [q_spec_l15Clauses, s1, n1, n2, n5, Bool.false_eq_true, if_false, Option.bind_some, tail pre post hp, s2, s3, Bool.not_false, Bool.not_true, if_true]
        | true =>
          have eA := inC_8 (a3 hA)
          have eB := inC_8 (c3 hB)
          have eA1 := eA.1
          have eB1 := eB.1
          have cA : ∀ c ∈ (clT a t).1, c.length ≤ 8 ∧ smK c := fun c hc => ⟨eA.2 c hc, a2 c hc⟩
          have cB : ∀ c ∈ (clT a u).1, c.length ≤ 8 ∧ smK c := fun c hc => ⟨eB.2 c hc, c2 c hc⟩
          rw [hA, hB, Bool.true_and, if_pos rfl] at hrr
          rw [hA] at b1
          rw [hB] at d1
          rw [hA, hB] at spre
          by_cases h3 : x.1 = 3
          · rw [if_pos h3] at hrr
            have n3 : (x.1 == 3) = true := by simp [h3]
            have hsm : ∀ c ∈ (clT a t).1 ++ (clT a u).1, smK c := fun c hc => by
              rcases List.mem_append.1 hc with q | q
              · exact a2 c q
              · exact c2 c q
            subst hrr
            refine ⟨⟨by simp only [List.length_append]; omega, hsm, fun q => q⟩, e_impl_tree_clauses _ _ ?_, fun pre post hp => e_spec_l15Clauses _ _ _ ?_⟩
            · simp only [q_impl_tree_clauses, treeK, n1, n2, n5, n3, Bool.false_eq_true, if_false, i0, i1, b1, d1, Option.bind_some, Bool.not_true, if_true, p_concatS _ _ (show (clT a t).1.length ≤ 100000 by omega) (show (clT a u).1.length ≤ 100000 by omega), Sum.elim_inl]
              rw [p_areInputs (a, ()) hg _ (by simp; omega) hsm]
              rfl
            · obtain ⟨s1, s2, s3⟩ := spre pre post hp
              simp only [q_spec_l15Clauses, s1, n1, n2, n5, n3, Bool.false_eq_true, if_false, Option.bind_some, tail pre post hp, s2, s3, Bool.not_true, if_true]
              rw [if_pos (by omega), if_pos (by omega)]
              simp only [Option.bind_some, Sum.elim_inl]
              rw [p_l8Inputs (a, ()) (by simp only; omega) hg _ (by simp; omega) hsm]
              rfl
          · rw [if_neg h3] at hrr
            have n3 : (x.1 == 3) = false := by simp [h3]
            have hsm := prodC_smK cA cB
            have hlen : (prodC (clT a t).1 (clT a u).1).length ≤ 144 := by
              rw [prodC_len]
              exact Nat.mul_le_mul eA1 eB1
            have p1 := p_prod (a, ()) _ _ eA1 eB1 cA cB (clT a t).1.length 0 (by omega) [] (by simp; omega)
            have p2 := p_sprod (a, ()) _ _ eA1 eB1 cA cB (clT a t).1.length 0 (by omega) [] (by simp; omega)
            rw [show ((0 : Nat) : Int) = 0 from rfl, List.drop_zero, List.nil_append] at p1 p2
            subst hrr
            refine ⟨⟨hlen, hsm, fun q => q⟩, e_impl_tree_clauses _ _ ?_, fun pre post hp => e_spec_l15Clauses _ _ _ ?_⟩
            · simp only [q_impl_tree_clauses, treeK, n1, n2, n5, n3, Bool.false_eq_true, if_false, i0, i1, b1, d1, Option.bind_some, Bool.not_true, if_true, p1, Sum.elim_inl]
              rw [p_areInputs (a, ()) hg _ (by omega) hsm]
              rfl
            · obtain ⟨s1, s2, s3⟩ := spre pre post hp
              simp only [q_spec_l15Clauses, s1, n1, n2, n5, n3, Bool.false_eq_true, if_false, Option.bind_some, tail pre post hp, s2, s3, Bool.not_true, if_true, p2, Sum.elim_inl]
              rw [p_l8Inputs (a, ()) (by simp only; omega) hg _ (by omega) hsm]
              rfl
    exact key _ rfl
end Go.Proofs.YtcjaikkdpclaaaaCo.Ev

/- Plain laws: the laws' own copying, comparing and counting functions answer as they should, at lists that memory can hold. -/
namespace Go.Proofs.YtcjaikkdpclaaaaCo.Ev
open Go
set_option autoImplicit false
set_option linter.unusedVariables false
set_option linter.unusedSimpArgs false

theorem p_toIntS_loop (a : List Int) (ha : a.length ≤ 17592186044416) : ∀ k i : Nat, i + k = a.length → ∀ o : List Int, o.length = a.length → l_laws_toIntS_58 M a o i = some (.inl (o.take i ++ a.drop i, ())) := by
  intro k
  induction k with
  | zero =>
    intro i hi o ho
    obtain rfl : i = a.length := by omega
    apply el_laws_toIntS_58
    simp only [ql_laws_toIntS_58, Int.lt_irrefl, decide_false, Bool.false_eq_true, if_false, List.drop_length, List.append_nil]
    rw [← ho, List.take_length]
  | succ k ih =>
    intro i hi o ho
    apply el_laws_toIntS_58
    have h1 : i < a.length := by omega
    have h2 : i < o.length := by omega
    simp only [ql_laws_toIntS_58]
    rw [if_pos (by simpa using h1), idx_lt h1, inc_nat (by omega)]
    simp only [Option.bind_some]
    rw [if_pos (by omega)]
    simp only [Option.bind_some, Int.toNat_natCast, List.getElem?_eq_getElem h2]
    rw [ih (i + 1) (by omega) _ (by simpa using ho)]
    rw [List.take_set, List.take_succ_eq_append_getElem h2, List.set_append_right _ _ (by simp; omega), List.drop_eq_getElem_cons h1]
    simp [Nat.min_eq_left (Nat.le_of_lt h2)]

theorem p_toIntS (a : List Int) (ha : a.length ≤ 17592186044416) : c_laws_toIntS M a = some ((a, ()), ()) := by
  apply e_laws_toIntS
  simp only [q_laws_toIntS]
  rw [if_pos (by refine ⟨by omega, by omega, trivial⟩)]
  have := p_toIntS_loop a ha a.length 0 (by omega) (List.replicate a.length 0) (by simp)
  simp only [Int.toNat_natCast]
  rw [show ((0 : Nat) : Int) = 0 from rfl] at this
  rw [this]
  simp

theorem p_eqIntS_loop (a : List Int) (ha : a.length ≤ 17592186044416) : ∀ k i : Nat, i + k = a.length → l_laws_eqIntS_58 M a a i = some (.inl ()) := by
  intro k
  induction k with
  | zero =>
    intro i hi
    obtain rfl : i = a.length := by omega
    apply el_laws_eqIntS_58
    simp only [ql_laws_eqIntS_58, Int.lt_irrefl, decide_false, Bool.false_eq_true, if_false]
  | succ k ih =>
    intro i hi
    apply el_laws_eqIntS_58
    have h1 : i < a.length := by omega
    simp only [ql_laws_eqIntS_58]
    rw [if_pos (by simpa using h1), idx_lt h1, inc_nat (by omega)]
    simp only [Option.bind_some, bne_self_eq_false, Bool.false_eq_true, if_false]
    exact ih (i + 1) (by omega)
theorem p_eqIntS (a : List Int) (ha : a.length ≤ 17592186044416) : c_laws_eqIntS M a a = some ((true, ()), ()) := by
  apply e_laws_eqIntS
  simp only [q_laws_eqIntS, bne_self_eq_false, Bool.false_eq_true, if_false]
  have := p_eqIntS_loop a ha a.length 0 (by omega)
  rw [show ((0 : Nat) : Int) = 0 from rfl] at this
  rw [this]
  rfl

theorem p_szIntS (a : List Int) (n : Int) (hn : 0 ≤ n) (hn' : n ≤ 1048576) (ha : a.length ≤ 9223372036854775807) : c_laws_szIntS M a n = some ((if n - a.length < 0 then -1 else n - a.length, ()), ()) := by
  apply e_laws_szIntS
  simp only [q_laws_szIntS, decide_eq_true_eq]
  rw [w64 (by omega) (by omega)]
  split <;> rfl

theorem p_szSign (s : TSign) (n : Int) (hn : 0 ≤ n) (hn' : n ≤ 1048576) (ha : s.1.length ≤ 9223372036854775807) : ∃ r : Int, c_laws_szSign M s n = some ((r, ()), ()) ∧ r ≤ n ∧ (0 ≤ r → s.1.length ≤ 1048576) := by
  refine ⟨if n - s.1.length < 0 then -1 else n - s.1.length, ?_, by split <;> omega, by split <;> omega⟩
  apply e_laws_szSign
  simp only [q_laws_szSign, p_szIntS s.1 n hn hn' ha, Option.bind_some, decide_eq_true_eq]
  by_cases h : n - (s.1.length : Int) < 0
  · simp [h]
  · simp [h]

theorem p_toSign (s : TSign) (ha : s.1.length ≤ 17592186044416) : c_laws_toSign M s = some ((s, ()), ()) := by
  apply e_laws_toSign
  simp only [q_laws_toSign, p_toIntS s.1 ha, Option.bind_some]
theorem p_eqSign (s : TSign) (ha : s.1.length ≤ 17592186044416) : c_laws_eqSign M s s = some ((true, ()), ()) := by
  apply e_laws_eqSign
  simp only [q_laws_eqSign, p_eqIntS s.1 ha, Option.bind_some, Bool.not_true, Bool.false_eq_true, if_false]

end Go.Proofs.YtcjaikkdpclaaaaCo.Ev

/- Plain laws: nodes of formulas, compared. No condition but sizes. -/
namespace Go.Proofs.YtcjaikkdpclaaaaCo.Ev
open Go
set_option autoImplicit false
set_option linter.unusedVariables false
set_option linter.unusedSimpArgs false

theorem p_eqForm (x : TForm) (h : smF x) : c_laws_eqForm M x x = some ((true, ()), ()) := by
  apply e_laws_eqForm
  simp only [q_laws_eqForm, p_eqIntS x.2.2.1 (by have := h.1; omega), p_eqIntS x.2.2.2.1 (by have := h.2; omega), Option.bind_some]
  simp

theorem p_eqFormS_loop (a : List TForm) (ha : a.length ≤ 1048576) (hx : ∀ x ∈ a, smF x) : ∀ k i : Nat, i + k = a.length → l_laws_eqFormS_58 M a a i = some (.inl ()) := by
  intro k
  induction k with
  | zero =>
    intro i hi
    obtain rfl : i = a.length := by omega
    apply el_laws_eqFormS_58
    simp only [ql_laws_eqFormS_58, Int.lt_irrefl, decide_false, Bool.false_eq_true, if_false]
  | succ k ih =>
    intro i hi
    apply el_laws_eqFormS_58
    have h1 : i < a.length := by omega
    simp only [ql_laws_eqFormS_58]
    rw [if_pos (by simpa using h1), idx_lt h1, inc_nat (by omega)]
    simp only [Option.bind_some, form_eta, p_eqForm a[i] (hx _ (List.getElem_mem h1)), Bool.not_true, Bool.false_eq_true, if_false]
    exact ih (i + 1) (by omega)

theorem p_eqFormS (a : List TForm) (ha : a.length ≤ 1048576) (hx : ∀ x ∈ a, smF x) : c_laws_eqFormS M a a = some ((true, ()), ()) := by
  apply e_laws_eqFormS
  simp only [q_laws_eqFormS, bne_self_eq_false, Bool.false_eq_true, if_false]
  have := p_eqFormS_loop a ha hx a.length 0 (by omega)
  rw [show ((0 : Nat) : Int) = 0 from rfl] at this
  rw [this]
  rfl

end Go.Proofs.YtcjaikkdpclaaaaCo.Ev

/- Plain laws: nodes of formulas, as the laws copy, compare and count them. No condition but sizes. -/
namespace Go.Proofs.YtcjaikkdpclaaaaCo.Ev
open Go
set_option autoImplicit false
set_option linter.unusedVariables false
set_option linter.unusedSimpArgs false


theorem p_toForm (x : TForm) (h : smF x) : c_laws_toForm M x = some ((x, ()), ()) := by
  apply e_laws_toForm
  simp only [q_laws_toForm, p_toIntS x.2.2.1 (by have := h.1; omega), p_toIntS x.2.2.2.1 (by have := h.2; omega), Option.bind_some]

theorem p_toFormS_loop (a : List TForm) (ha : a.length ≤ 1048576) (hx : ∀ x ∈ a, smF x) : ∀ k i : Nat, i + k = a.length → ∀ o : List TForm, o.length = a.length → l_laws_toFormS_58 M a o i = some (.inl (o.take i ++ a.drop i, ())) := by
  intro k
  induction k with
  | zero =>
    intro i hi o ho
    obtain rfl : i = a.length := by omega
    apply el_laws_toFormS_58
    simp only [ql_laws_toFormS_58, Int.lt_irrefl, decide_false, Bool.false_eq_true, if_false, List.drop_length, List.append_nil]
    rw [← ho, List.take_length]
  | succ k ih =>
    intro i hi o ho
    apply el_laws_toFormS_58
    have h1 : i < a.length := by omega
    have h2 : i < o.length := by omega
    simp only [ql_laws_toFormS_58]
    rw [if_pos (by simpa using h1), idx_lt h1, inc_nat (by omega)]
    simp only [Option.bind_some, form_eta, p_toForm a[i] (hx _ (List.getElem_mem h1))]
    rw [if_pos (by omega)]
    simp only [Option.bind_some, Int.toNat_natCast, List.getElem?_eq_getElem h2]
    rw [ih (i + 1) (by omega) _ (by simpa using ho)]
    rw [List.take_set, List.take_succ_eq_append_getElem h2, List.set_append_right _ _ (by simp; omega), List.drop_eq_getElem_cons h1]
    simp [Nat.min_eq_left (Nat.le_of_lt h2)]

theorem p_toFormS (a : List TForm) (ha : a.length ≤ 1048576) (hx : ∀ x ∈ a, smF x) : c_laws_toFormS M a = some ((a, ()), ()) := by
  apply e_laws_toFormS
  simp only [q_laws_toFormS]
  rw [if_pos (by refine ⟨by omega, by omega, trivial⟩)]
  have := p_toFormS_loop a ha hx a.length 0 (by omega) (List.replicate a.length ((0 : Int), (0 : Int), [], [], ())) (by simp)
  simp only [Int.toNat_natCast]
  rw [show ((0 : Nat) : Int) = 0 from rfl] at this
  rw [this]
  simp


def wlF (x : TForm) : Prop := x.2.2.1.length ≤ 9223372036854775807 ∧ x.2.2.2.1.length ≤ 9223372036854775807
theorem p_szForm (x : TForm) (n : Int) (hn : 0 ≤ n) (hn' : n ≤ 1048576) (hx : wlF x) : ∃ r : Int, c_laws_szForm M x n = some ((r, ()), ()) ∧ r ≤ n ∧ (0 ≤ r → smF x) := by
  by_cases h1 : n - x.2.2.1.length < 0
  · refine ⟨-1, e_laws_szForm _ _ ?_, by omega, by omega⟩
    simp only [q_laws_szForm, p_szIntS x.2.2.1 n hn hn' hx.1, Option.bind_some, if_pos h1]
    rfl
  · by_cases h2 : n - x.2.2.1.length - x.2.2.2.1.length < 0
    · refine ⟨-1, e_laws_szForm _ _ ?_, by omega, by omega⟩
      simp only [q_laws_szForm, p_szIntS x.2.2.1 n hn hn' hx.1, Option.bind_some, if_neg h1, decide_eq_true_eq, p_szIntS x.2.2.2.1 (n - x.2.2.1.length) (by omega) (by omega) hx.2, if_pos h2]
      rfl
    · refine ⟨n - x.2.2.1.length - x.2.2.2.1.length, e_laws_szForm _ _ ?_, by omega, fun _ => ⟨by omega, by omega⟩⟩
      simp only [q_laws_szForm, p_szIntS x.2.2.1 n hn hn' hx.1, Option.bind_some, if_neg h1, decide_eq_true_eq, p_szIntS x.2.2.2.1 (n - x.2.2.1.length) (by omega) (by omega) hx.2, if_neg h2]

theorem p_szFormS_loop (a : List TForm) (ha : a.length ≤ 1048576) (hx : ∀ x ∈ a, wlF x) : ∀ (k i : Nat) (n : Int), i + k = a.length → 0 ≤ n → n ≤ 1048576 → (∀ x ∈ a.take i, smF x) →
    ∃ r, l_laws_szFormS_122 M a n i = some r ∧ (match r with | .inl y => 0 ≤ y.1 ∧ y.1 ≤ n ∧ ∀ x ∈ a, smF x | .inr y => y.1.1 = -1) := by
  intro k
  induction k with
  | zero =>
    intro i n hi h0 hn hs
    obtain rfl : i = a.length := by omega
    refine ⟨.inl (n, ()), el_laws_szFormS_122 _ _ _ (by simp [ql_laws_szFormS_122]), h0, Int.le_refl _, by simpa using hs⟩
  | succ k ih =>
    intro i n hi h0 hn hs
    have h1 : i < a.length := by omega
    obtain ⟨m, hm, hm1, hm2⟩ := p_szForm a[i] n h0 hn (hx _ (List.getElem_mem h1))
    by_cases hneg : m < 0
    · refine ⟨.inr ((-1, ()), ()), el_laws_szFormS_122 _ _ _ ?_, rfl⟩
      simp only [ql_laws_szFormS_122]
      rw [if_pos (by simpa using h1), idx_lt h1]
      simp only [Option.bind_some, form_eta, hm]
      rw [if_pos (by simpa using hneg)]
    · obtain ⟨r, hr, hp⟩ := ih (i + 1) m (by omega) (by omega) (by omega) (by
        intro x hx'
        rw [List.take_succ_eq_append_getElem h1] at hx'
        rcases List.mem_append.1 hx' with h | h
        · exact hs x h
        · rw [List.mem_singleton.1 h]; exact hm2 (by omega))
      refine ⟨r, el_laws_szFormS_122 _ _ _ ?_, ?_⟩
      · simp only [ql_laws_szFormS_122]
        rw [if_pos (by simpa using h1), idx_lt h1, inc_nat (by omega)]
        simp only [Option.bind_some, form_eta, hm]
        rw [if_neg (by simpa using hneg)]
        exact hr
      · cases r with
        | inl y => exact ⟨hp.1, by have := hp.2.1; omega, hp.2.2⟩
        | inr y => exact hp
theorem p_szFormS (a : List TForm) (n : Int) (hn : 0 ≤ n) (hn' : n ≤ 1048576) (ha : a.length ≤ 9223372036854775807) (hx : ∀ x ∈ a, wlF x) : ∃ r : Int, c_laws_szFormS M a n = some ((r, ()), ()) ∧ r ≤ n ∧ (0 ≤ r → a.length ≤ 1048576 ∧ ∀ x ∈ a, smF x) := by
  have hw : IntKind.i64.wrap (n - a.length) = n - a.length := w64 (by omega) (by omega)
  by_cases h1 : n - a.length < 0
  · refine ⟨-1, e_laws_szFormS _ _ ?_, by omega, by omega⟩
    simp only [q_laws_szFormS, hw]
    rw [if_pos (by simpa using h1)]
  · obtain ⟨r, hr, hp⟩ := p_szFormS_loop a (by omega) hx a.length 0 (n - a.length) (by omega) (by omega) (by omega) (by simp)
    rw [show ((0 : Nat) : Int) = 0 from rfl] at hr
    cases r with
    | inl y =>
      refine ⟨y.1, e_laws_szFormS _ _ ?_, by have := hp.2.1; omega, fun _ => ⟨by omega, hp.2.2⟩⟩
      simp only [q_laws_szFormS, hw]
      rw [if_neg (by simpa using h1), hr]
      rfl
    | inr y =>
      obtain ⟨⟨y, _⟩, _⟩ := y
      simp only at hp
      subst hp
      refine ⟨-1, e_laws_szFormS _ _ ?_, by omega, by omega⟩
      simp only [q_laws_szFormS, hw]
      rw [if_neg (by simpa using h1), hr]
      rfl

end Go.Proofs.YtcjaikkdpclaaaaCo.Ev

/- Plain laws: what the laws write into rows to tell whether they are shared, and read again. No condition but sizes. -/
namespace Go.Proofs.YtcjaikkdpclaaaaCo.Ev
open Go
set_option autoImplicit false
set_option linter.unusedVariables false
set_option linter.unusedSimpArgs false

/-- Numbers from one on. -/
def mkS (k : Int) : Nat → List Int
  | 0 => []
  | n + 1 => k :: mkS (k + 1) n
theorem mkS_len : ∀ (n : Nat) (k : Int), (mkS k n).length = n
  | 0, _ => rfl
  | n + 1, k => by simp [mkS, mkS_len n]

theorem set_mid {α : Type} (P R : List α) (x y : α) : (P ++ x :: R).set P.length y = P ++ y :: R := by
  rw [List.set_append_right _ _ (Nat.le_refl _)]; simp
theorem get_mid {α : Type} (P R : List α) (x : α) : (P ++ x :: R)[P.length]? = some x := by simp
theorem idx_midQ {α : Type} (P R : List α) (x : α) : idx (P ++ x :: R) (P.length : Int) = some x := by rw [idx_nat]; simp

theorem p_markIntS_loop : ∀ (R P : List Int) (k : Int), 0 ≤ k → k + R.length ≤ 4611686018427387904 → P.length + R.length ≤ 4611686018427387904 → l_laws_markIntS_26 M (P ++ R) k P.length = some (.inl (P ++ mkS k R.length, k + R.length, ())) := by
  intro R
  induction R with
  | nil =>
    intro P k _ _ _
    apply el_laws_markIntS_26
    simp [ql_laws_markIntS_26, mkS]
  | cons x R ih =>
    intro P k h0 hk hp
    simp only [List.length_cons] at hk hp
    apply el_laws_markIntS_26
    simp only [ql_laws_markIntS_26]
    rw [if_pos (by simp; omega), if_pos (by simp; omega), Int.toNat_natCast, get_mid, set_mid, w64 (x := k + 1) (by omega) (by omega), inc_nat (by omega)]
    simp only [Option.bind_some]
    have := ih (P ++ [k]) (k + 1) (by omega) (by omega) (by simp; omega)
    rw [List.append_assoc, List.length_append] at this
    simp only [List.cons_append, List.nil_append, List.length_cons, List.length_nil, Nat.zero_add] at this
    rw [this]
    simp only [List.length_cons, mkS, List.append_assoc, List.cons_append, List.nil_append]
    rw [show k + 1 + (R.length : Int) = k + ((R.length + 1 : Nat) : Int) by omega]
theorem p_markIntS (a : List Int) (k : Int) (h0 : 0 ≤ k) (hk : k + a.length ≤ 4611686018427387904) : c_laws_markIntS M a k = some ((k + a.length, ()), (mkS k a.length, ())) := by
  apply e_laws_markIntS
  have := p_markIntS_loop a [] k h0 hk (by simp; omega)
  simp only [List.nil_append, List.length_nil] at this
  rw [show ((0 : Nat) : Int) = 0 from rfl] at this
  simp only [q_laws_markIntS, this, Option.bind_some, Sum.elim_inl]

theorem p_heldIntS_loop : ∀ (n : Nat) (P : List Int) (k : Int), 0 ≤ k → k + n ≤ 4611686018427387904 → P.length + n ≤ 4611686018427387904 → l_laws_heldIntS_26 M (P ++ mkS k n) k P.length = some (.inl (k + n, ())) := by
  intro n
  induction n with
  | zero =>
    intro P k _ _ _
    apply el_laws_heldIntS_26
    simp [ql_laws_heldIntS_26, mkS]
  | succ n ih =>
    intro P k h0 hk hp
    rw [show mkS k (n + 1) = k :: mkS (k + 1) n from rfl]
    apply el_laws_heldIntS_26
    simp only [ql_laws_heldIntS_26]
    rw [if_pos (by simp [mkS_len]; omega), idx_midQ, w64 (x := k + 1) (by omega) (by omega), inc_nat (by omega)]
    simp only [Option.bind_some]
    rw [if_neg (by simp)]
    have := ih (P ++ [k]) (k + 1) (by omega) (by omega) (by simp; omega)
    rw [List.append_assoc, List.length_append] at this
    simp only [List.cons_append, List.nil_append, List.length_cons, List.length_nil, Nat.zero_add] at this
    rw [this, show k + 1 + (n : Int) = k + ((n + 1 : Nat) : Int) by omega]
theorem p_heldIntS (k : Int) (n : Nat) (h0 : 0 ≤ k) (hk : k + n ≤ 4611686018427387904) : c_laws_heldIntS M (mkS k n) k = some ((k + n, ()), ()) := by
  apply e_laws_heldIntS
  have := p_heldIntS_loop n [] k h0 hk (by simp; omega)
  simp only [List.nil_append, List.length_nil] at this
  rw [show ((0 : Nat) : Int) = 0 from rfl] at this
  simp only [q_laws_heldIntS, this, Option.bind_some, Sum.elim_inl]

theorem p_markSign (s : TSign) (k : Int) (h0 : 0 ≤ k) (hk : k + s.1.length ≤ 4611686018427387904) : c_laws_markSign M s k = some ((k + s.1.length, ()), ((mkS k s.1.length, ()), ())) := by
  apply e_laws_markSign
  simp only [q_laws_markSign, p_markIntS s.1 k h0 hk, Option.bind_some]

end Go.Proofs.YtcjaikkdpclaaaaCo.Ev

/- Plain laws: marks laid into nodes of formulas. No condition but sizes. -/
namespace Go.Proofs.YtcjaikkdpclaaaaCo.Ev
open Go
set_option autoImplicit false
set_option linter.unusedVariables false
set_option linter.unusedSimpArgs false

/-- How many marks nodes take. -/
def totF : List TForm → Nat
  | [] => 0
  | x :: r => 2 + x.2.2.1.length + x.2.2.2.1.length + totF r
/-- Nodes with marks. -/
def mkF (k : Int) : List TForm → List TForm
  | [] => []
  | x :: r => (k, k + 1, mkS (k + 2) x.2.2.1.length, mkS (k + 2 + x.2.2.1.length) x.2.2.2.1.length, ()) :: mkF (k + 2 + x.2.2.1.length + x.2.2.2.1.length) r
theorem mkF_len : ∀ (r : List TForm) (k : Int), (mkF k r).length = r.length
  | [], _ => rfl
  | x :: r, k => by simp [mkF, mkF_len r]
theorem totF_le : ∀ (r : List TForm), (∀ x ∈ r, smF x) → totF r ≤ 2097154 * r.length
  | [], _ => by simp [totF]
  | x :: r, h => by
    have h1 := h x (by simp)
    have h2 := totF_le r (fun y hy => h y (by simp [hy]))
    have h3 := h1.1
    have h4 := h1.2
    simp only [totF, List.length_cons]
    omega

theorem p_markFormS_loop : ∀ (R P : List TForm) (k : Int), 0 ≤ k → k + totF R ≤ 4611686018427387904 → P.length + R.length ≤ 4611686018427387904 → l_laws_markFormS_26 M (P ++ R) k P.length = some (.inl (P ++ mkF k R, k + totF R, ())) := by
  intro R
  induction R with
  | nil =>
    intro P k _ _ _
    apply el_laws_markFormS_26
    simp [ql_laws_markFormS_26, mkF, totF]
  | cons x R ih =>
    intro P k h0 hk hp
    simp only [List.length_cons, totF] at hk hp
    apply el_laws_markFormS_26
    simp only [ql_laws_markFormS_26]
    rw [if_pos (by simp; omega), if_pos (by simp; omega), Int.toNat_natCast, get_mid, inc_nat (by omega), w64 (x := k + 1) (by omega) (by omega), w64 (x := k + 1 + 1) (by omega) (by omega), show k + 1 + 1 = k + 2 by omega]
    simp only [Option.bind_some]
    rw [set_mid, if_pos (by simp; omega), get_mid]
    simp only [Option.bind_some]
    rw [set_mid, if_pos (by simp; omega), get_mid]
    simp only [Option.bind_some]
    rw [p_markIntS x.2.2.1 (k + 2) (by omega) (by omega)]
    simp only [Option.bind_some]
    rw [set_mid, if_pos (by simp; omega), get_mid]
    simp only [Option.bind_some]
    rw [p_markIntS x.2.2.2.1 (k + 2 + x.2.2.1.length) (by omega) (by omega)]
    simp only [Option.bind_some]
    rw [set_mid]
    have := ih (P ++ [(k, k + 1, mkS (k + 2) x.2.2.1.length, mkS (k + 2 + x.2.2.1.length) x.2.2.2.1.length, ())]) (k + 2 + x.2.2.1.length + x.2.2.2.1.length) (by omega) (by omega) (by simp; omega)
    rw [List.append_assoc, List.length_append] at this
    simp only [List.cons_append, List.nil_append, List.length_cons, List.length_nil, Nat.zero_add] at this
    rw [this]
    simp only [mkF, totF, List.append_assoc, List.cons_append, List.nil_append]
    rw [show k + 2 + (x.2.2.1.length : Int) + (x.2.2.2.1.length : Int) + (totF R : Int) = k + ((2 + x.2.2.1.length + x.2.2.2.1.length + totF R : Nat) : Int) by omega]
theorem p_markFormS (a : List TForm) (k : Int) (h0 : 0 ≤ k) (hk : k + totF a ≤ 4611686018427387904) (hl : a.length ≤ 4611686018427387904) : c_laws_markFormS M a k = some ((k + totF a, ()), (mkF k a, ())) := by
  apply e_laws_markFormS
  have := p_markFormS_loop a [] k h0 hk (by simp; omega)
  simp only [List.nil_append, List.length_nil] at this
  rw [show ((0 : Nat) : Int) = 0 from rfl] at this
  simp only [q_laws_markFormS, this, Option.bind_some, Sum.elim_inl]
end Go.Proofs.YtcjaikkdpclaaaaCo.Ev

/- Plain laws: marks in literals. No condition but sizes. -/
namespace Go.Proofs.YtcjaikkdpclaaaaCo.Ev
open Go
set_option autoImplicit false
set_option linter.unusedVariables false
set_option linter.unusedSimpArgs false

/-- How many marks literals take. -/
def totL : List TLit → Nat
  | [] => 0
  | x :: r => 1 + x.2.1.length + x.2.2.1.length + totL r
/-- Literals with marks. -/
def mkL (k : Int) : List TLit → List TLit
  | [] => []
  | x :: r => (((Int.tmod k 3) == 0), mkS (k + 1) x.2.1.length, mkS (k + 1 + x.2.1.length) x.2.2.1.length, ()) :: mkL (k + 1 + x.2.1.length + x.2.2.1.length) r
theorem mkL_len : ∀ (r : List TLit) (k : Int), (mkL k r).length = r.length
  | [], _ => rfl
  | x :: r, k => by simp [mkL, mkL_len r]
theorem totL_le : ∀ (r : List TLit), (∀ x ∈ r, smL x) → totL r ≤ 2097153 * r.length
  | [], _ => by simp [totL]
  | x :: r, h => by
    have h1 := h x (by simp)
    have h2 := totL_le r (fun y hy => h y (by simp [hy]))
    have h3 := h1.1
    have h4 := h1.2
    simp only [totL, List.length_cons]
    omega

theorem p_markLitS_loop : ∀ (R P : List TLit) (k : Int), 0 ≤ k → k + totL R ≤ 4611686018427387904 → P.length + R.length ≤ 4611686018427387904 → l_laws_markLitS_26 M (P ++ R) k P.length = some (.inl (P ++ mkL k R, k + totL R, ())) := by
  intro R
  induction R with
  | nil =>
    intro P k _ _ _
    apply el_laws_markLitS_26
    simp [ql_laws_markLitS_26, mkL, totL]
  | cons x R ih =>
    intro P k h0 hk hp
    simp only [List.length_cons, totL] at hk hp
    apply el_laws_markLitS_26
    simp only [ql_laws_markLitS_26]
    rw [if_pos (by simp; omega), if_neg (by omega), if_pos (by simp; omega), Int.toNat_natCast, get_mid, inc_nat (by omega), w64 (x := k + 1) (by omega) (by omega)]
    simp only [Option.bind_some]
    rw [set_mid, if_pos (by simp; omega), get_mid]
    simp only [Option.bind_some]
    rw [p_markIntS x.2.1 (k + 1) (by omega) (by omega)]
    simp only [Option.bind_some]
    rw [set_mid, if_pos (by simp; omega), get_mid]
    simp only [Option.bind_some]
    rw [p_markIntS x.2.2.1 (k + 1 + x.2.1.length) (by omega) (by omega)]
    simp only [Option.bind_some]
    rw [set_mid]
    have := ih (P ++ [(((Int.tmod k 3) == 0), mkS (k + 1) x.2.1.length, mkS (k + 1 + x.2.1.length) x.2.2.1.length, ())]) (k + 1 + x.2.1.length + x.2.2.1.length) (by omega) (by omega) (by simp; omega)
    rw [List.append_assoc, List.length_append] at this
    simp only [List.cons_append, List.nil_append, List.length_cons, List.length_nil, Nat.zero_add] at this
    rw [this]
    simp only [mkL, totL, List.append_assoc, List.cons_append, List.nil_append]
    rw [show k + 1 + (x.2.1.length : Int) + (x.2.2.1.length : Int) + (totL R : Int) = k + ((1 + x.2.1.length + x.2.2.1.length + totL R : Nat) : Int) by omega]
theorem p_markLitS (a : List TLit) (k : Int) (h0 : 0 ≤ k) (hk : k + totL a ≤ 4611686018427387904) (hl : a.length ≤ 4611686018427387904) : c_laws_markLitS M a k = some ((k + totL a, ()), (mkL k a, ())) := by
  apply e_laws_markLitS
  have := p_markLitS_loop a [] k h0 hk (by simp; omega)
  simp only [List.nil_append, List.length_nil] at this
  rw [show ((0 : Nat) : Int) = 0 from rfl] at this
  simp only [q_laws_markLitS, this, Option.bind_some, Sum.elim_inl]
theorem p_heldLitS_loop : ∀ (R P : List TLit) (k : Int), 0 ≤ k → k + totL R ≤ 4611686018427387904 → P.length + R.length ≤ 4611686018427387904 → l_laws_heldLitS_26 M (P ++ mkL k R) k P.length = some (.inl (k + totL R, ())) := by
  intro R
  induction R with
  | nil =>
    intro P k _ _ _
    apply el_laws_heldLitS_26
    simp [ql_laws_heldLitS_26, mkL, totL]
  | cons x R ih =>
    intro P k h0 hk hp
    simp only [List.length_cons, totL] at hk hp
    rw [show mkL k (x :: R) = (((Int.tmod k 3) == 0), mkS (k + 1) x.2.1.length, mkS (k + 1 + x.2.1.length) x.2.2.1.length, ()) :: mkL (k + 1 + x.2.1.length + x.2.2.1.length) R from rfl]
    apply el_laws_heldLitS_26
    simp only [ql_laws_heldLitS_26]
    rw [if_pos (by simp [mkL_len]; omega), idx_midQ, inc_nat (by omega), w64 (x := k + 1) (by omega) (by omega)]
    simp only [Option.bind_some]
    rw [if_neg (by omega), if_neg (by simp), p_heldIntS (k + 1) x.2.1.length (by omega) (by omega)]
    simp only [Option.bind_some]
    rw [if_neg (by simp; omega), p_heldIntS (k + 1 + x.2.1.length) x.2.2.1.length (by omega) (by omega)]
    simp only [Option.bind_some]
    rw [if_neg (by simp; omega)]
    have := ih (P ++ [(((Int.tmod k 3) == 0), mkS (k + 1) x.2.1.length, mkS (k + 1 + x.2.1.length) x.2.2.1.length, ())]) (k + 1 + x.2.1.length + x.2.2.1.length) (by omega) (by omega) (by simp; omega)
    rw [List.append_assoc, List.length_append] at this
    simp only [List.cons_append, List.nil_append, List.length_cons, List.length_nil, Nat.zero_add] at this
    rw [this]
    simp only [totL]
    rw [show k + 1 + (x.2.1.length : Int) + (x.2.2.1.length : Int) + (totL R : Int) = k + ((1 + x.2.1.length + x.2.2.1.length + totL R : Nat) : Int) by omega]
theorem p_heldLitS (a : List TLit) (k : Int) (h0 : 0 ≤ k) (hk : k + totL a ≤ 4611686018427387904) (hl : a.length ≤ 4611686018427387904) : c_laws_heldLitS M (mkL k a) k = some ((k + totL a, ()), ()) := by
  apply e_laws_heldLitS
  have := p_heldLitS_loop a [] k h0 hk (by simp; omega)
  simp only [List.nil_append, List.length_nil] at this
  rw [show ((0 : Nat) : Int) = 0 from rfl] at this
  simp only [q_laws_heldLitS, this, Option.bind_some, Sum.elim_inl]

end Go.Proofs.YtcjaikkdpclaaaaCo.Ev

/- Plain laws: literals, compared. No condition but sizes. -/
namespace Go.Proofs.YtcjaikkdpclaaaaCo.Ev
open Go
set_option autoImplicit false
set_option linter.unusedVariables false
set_option linter.unusedSimpArgs false

theorem p_eqLit (x : TLit) (h : smL x) : c_laws_eqLit M x x = some ((true, ()), ()) := by
  apply e_laws_eqLit
  simp only [q_laws_eqLit, p_eqIntS x.2.1 (by have := h.1; omega), p_eqIntS x.2.2.1 (by have := h.2; omega), Option.bind_some]
  simp

theorem p_eqLitS_loop (a : List TLit) (ha : a.length ≤ 1048576) (hx : ∀ x ∈ a, smL x) : ∀ k i : Nat, i + k = a.length → l_laws_eqLitS_58 M a a i = some (.inl ()) := by
  intro k
  induction k with
  | zero =>
    intro i hi
    obtain rfl : i = a.length := by omega
    apply el_laws_eqLitS_58
    simp only [ql_laws_eqLitS_58, Int.lt_irrefl, decide_false, Bool.false_eq_true, if_false]
  | succ k ih =>
    intro i hi
    apply el_laws_eqLitS_58
    have h1 : i < a.length := by omega
    simp only [ql_laws_eqLitS_58]
    rw [if_pos (by simpa using h1), idx_lt h1, inc_nat (by omega)]
    simp only [Option.bind_some, lit_eta, p_eqLit a[i] (hx _ (List.getElem_mem h1)), Bool.not_true, Bool.false_eq_true, if_false]
    exact ih (i + 1) (by omega)

theorem p_eqLitS (a : List TLit) (ha : a.length ≤ 1048576) (hx : ∀ x ∈ a, smL x) : c_laws_eqLitS M a a = some ((true, ()), ()) := by
  apply e_laws_eqLitS
  simp only [q_laws_eqLitS, bne_self_eq_false, Bool.false_eq_true, if_false]
  have := p_eqLitS_loop a ha hx a.length 0 (by omega)
  rw [show ((0 : Nat) : Int) = 0 from rfl] at this
  rw [this]
  rfl

end Go.Proofs.YtcjaikkdpclaaaaCo.Ev
