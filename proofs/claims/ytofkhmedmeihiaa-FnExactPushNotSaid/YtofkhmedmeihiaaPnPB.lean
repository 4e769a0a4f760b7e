/- Plain laws: signatures and terms: both programs tell the same signatures and terms. No condition but sizes. -/
import Derived.Test.YtofkhmedmeihiaaPnPBa
namespace Go.Proofs.YtofkhmedmeihiaaPn.Ev
open Go
set_option autoImplicit false
set_option linter.unusedVariables false
set_option linter.unusedSimpArgs false

/-! ### Terms -/
def ar (a : List Int) (n : Int) : Int := if n < 0 then 0 else (a[n.toNat]?).getD 0
def badN (a : List Int) (n : Int) : Prop := n < -12 ∨ (a.length : Int) ≤ n
instance (a : List Int) (n : Int) : Decidable (badN a n) := inferInstanceAs (Decidable (_ ∨ _))
/-- What stands behind some terms. -/
def sE (a : List Int) : Int → List Int → Option (List Int)
  | k, [] => if k ≤ 0 then some [] else none
  | k, n :: t => if k ≤ 0 then some (n :: t) else if badN a n then none else sE a (k - 1 + ar a n) t

theorem ar_ge {a : List Int} (hg : gS a = true) (n : Int) : 0 ≤ ar a n ∧ ar a n ≤ 3 := by
  unfold ar
  split
  · omega
  · cases h : a[n.toNat]? with
    | none => simp
    | some x =>
      simp only [gS, Bool.and_eq_true, List.all_eq_true, decide_eq_true_eq] at hg
      have := hg.2.2.1 x (List.mem_of_getElem? h)
      simpa using this
theorem idx_ar {a : List Int} {n : Int} (h : ¬ badN a n) (h0 : ¬ n < 0) : idx a n = some (ar a n) := by
  unfold badN at h
  have h1 : n.toNat < a.length := by omega
  unfold ar idx
  rw [if_pos (by omega), if_neg h0, List.getElem?_eq_getElem h1]
  rfl

theorem sE_zero (a : List Int) (t : List Int) : sE a 0 t = some t := by cases t <;> simp [sE]
theorem sE_app {a : List Int} (hg : gS a = true) : ∀ (u : List Int) (j k : Int) (x : List Int), 0 ≤ j → 0 ≤ k → sE a j u = some [] → sE a (j + k) (u ++ x) = sE a k x := by
  intro u
  induction u with
  | nil =>
    intro j k x hj hk h
    simp only [sE] at h
    split at h
    · obtain rfl : j = 0 := by omega
      simp
    · cases h
  | cons n u ih =>
    intro j k x hj hk h
    simp only [sE] at h
    split at h
    · cases h
    · rename_i hj'
      split at h
      · cases h
      · rename_i hb
        have hn := ar_ge hg n
        rw [List.cons_append]
        conv => lhs; unfold sE
        rw [if_neg (by omega), if_neg hb]
        have := ih (j - 1 + ar a n) k x (by omega) hk h
        rw [← this]
        congr 1; omega
theorem sE_split {a : List Int} (hg : gS a = true) : ∀ (t : List Int) (j k : Int) (r : List Int), 0 ≤ j → 0 ≤ k → sE a (j + k) t = some r → ∃ u x, t = u ++ x ∧ sE a j u = some [] ∧ sE a k x = some r := by
  intro t
  induction t with
  | nil =>
    intro j k r hj hk h
    simp only [sE] at h
    split at h
    · obtain rfl : j = 0 := by omega
      obtain rfl : k = 0 := by omega
      exact ⟨[], [], rfl, by simp [sE], by simpa [sE] using h⟩
    · cases h
  | cons n t ih =>
    intro j k r hj hk h
    by_cases h0 : j = 0
    · subst h0
      exact ⟨[], n :: t, rfl, by simp [sE], by simpa using h⟩
    · simp only [sE] at h
      split at h
      · omega
      · split at h
        · cases h
        · rename_i hb
          have hn := ar_ge hg n
          obtain ⟨u, x, rfl, h1, h2⟩ := ih (j - 1 + ar a n) k r (by omega) hk (by rw [← h]; congr 1; omega)
          refine ⟨n :: u, x, rfl, ?_, h2⟩
          unfold sE
          rw [if_neg (by omega), if_neg hb]
          exact h1
/-- A term. -/
abbrev Tm (a : List Int) (u : List Int) : Prop := sE a 1 u = some []
theorem sE_kids {a : List Int} (hg : gS a = true) : ∀ (k : Nat) (t r : List Int), sE a k t = some r → ∃ us : List (List Int), us.length = k ∧ t = us.flatten ++ r ∧ ∀ u ∈ us, Tm a u := by
  intro k
  induction k with
  | zero =>
    intro t r h
    rw [show ((0 : Nat) : Int) = 0 from rfl, sE_zero] at h
    obtain rfl := Option.some.inj h
    exact ⟨[], rfl, rfl, by simp⟩
  | succ k ih =>
    intro t r h
    obtain ⟨u, x, rfl, h1, h2⟩ := sE_split hg t 1 k r (by omega) (by omega) (by rw [← h]; congr 1; omega)
    obtain ⟨us, hl, rfl, hu⟩ := ih x r h2
    exact ⟨u :: us, by simp [hl], by simp, by simpa using ⟨h1, hu⟩⟩
theorem Tm.parts {a : List Int} (hg : gS a = true) {u : List Int} (h : Tm a u) : ∃ (n : Int) (us : List (List Int)), u = n :: us.flatten ∧ ¬ badN a n ∧ (us.length : Int) = ar a n ∧ ∀ v ∈ us, Tm a v := by
  cases u with
  | nil => simp [Tm, sE] at h
  | cons n t =>
    simp only [Tm, sE] at h
    rw [if_neg (by omega)] at h
    split at h
    · cases h
    · rename_i hb
      have hn := ar_ge hg n
      obtain ⟨us, hl, ht, hu⟩ := sE_kids hg (ar a n).toNat t [] (by rw [← h]; congr 1; omega)
      exact ⟨n, us, by rw [ht]; simp, hb, by omega, hu⟩
theorem Tm.rest {a : List Int} (hg : gS a = true) {u : List Int} (h : Tm a u) (x : List Int) : sE a 1 (u ++ x) = some x := by
  have := sE_app hg u 1 0 x (by omega) (by omega) h
  rw [sE_zero] at this
  simpa using this
theorem Tm.pos {a u : List Int} (h : Tm a u) : 0 < u.length := by
  cases u with
  | nil => simp [Tm, sE] at h
  | cons n t => simp

theorem p_l1End_loop (s : TSign) (hg : gS s.1 = true) (t : List Int) (ht : t.length ≤ 1048576) : ∀ (k i : Nat) (need : Int), i + k = t.length → 0 ≤ need → need + 3 * k ≤ 4000000 →
    l_spec_l1End_28 M t i s need = some (match sE s.1 need (t.drop i) with | none => .inr (((-1 : Int), ()), ()) | some r => .inl ((t.length : Int) - r.length, ())) := by
  have hs : s.1.length ≤ 10 := by simp only [gS, Bool.and_eq_true, decide_eq_true_eq] at hg; exact hg.2.1
  intro k
  induction k with
  | zero =>
    intro i need hi h0 hn
    obtain rfl : i = t.length := by omega
    apply el_spec_l1End_28
    simp only [ql_spec_l1End_28, List.drop_length, sE, decide_eq_true_eq]
    by_cases h : need > 0
    · rw [if_pos h, if_pos (by omega), if_neg (by omega)]
    · rw [if_neg h, if_pos (by omega)]; simp
  | succ k ih =>
    intro i need hi h0 hn
    apply el_spec_l1End_28
    have h1 : i < t.length := by omega
    rw [List.drop_eq_getElem_cons h1]
    simp only [ql_spec_l1End_28, sE, decide_eq_true_eq]
    by_cases h : need > 0
    · rw [if_pos h, if_neg (by omega), if_neg (by omega), idx_lt h1]
      simp only [Option.bind_some, p_l1In]
      rw [w64 (x := (s.1.length : Int) - 1) (by omega) (by omega)]
      by_cases hb : badN s.1 t[i]
      · rw [if_pos hb, if_pos (by unfold badN at hb; simp; omega)]
      · rw [if_neg hb, if_neg (by unfold badN at hb; simp; omega)]
        have ha := ar_ge hg t[i]
        have hw : IntKind.i64.wrap (need - 1) = need - 1 := w64 (by omega) (by omega)
        by_cases hx : t[i] ≥ 0
        · rw [if_pos hx, idx_ar hb (by omega), hw]
          simp only [Option.bind_some, Sum.elim_inl]
          rw [w64 (x := need - 1 + _) (by omega) (by omega), inc_nat (by omega)]
          exact ih (i + 1) _ (by omega) (by omega) (by omega)
        · have : ar s.1 t[i] = 0 := by unfold ar; rw [if_pos (by omega)]
          rw [if_neg hx, hw, this]
          simp only [Option.bind_some, Sum.elim_inl]
          rw [inc_nat (by omega), Int.add_zero]
          exact ih (i + 1) _ (by omega) (by omega) (by omega)
    · rw [if_neg h, if_pos (by omega)]
      simp only [List.length_cons, List.length_drop]
      congr 3
      omega

theorem p_l1End (s : TSign) (hg : gS s.1 = true) (t : List Int) (i : Nat) (hi : i ≤ t.length) (ht : t.length ≤ 1048576) :
    c_spec_l1End M s t i = some ((match sE s.1 1 (t.drop i) with | none => (-1 : Int) | some r => (t.length : Int) - r.length, ()), ()) := by
  apply e_spec_l1End
  simp only [q_spec_l1End]
  rw [p_l1End_loop s hg t ht (t.length - i) i 1 (by omega) (by omega) (by omega)]
  cases sE s.1 1 (t.drop i) <;> rfl

theorem sE_len {a : List Int} : ∀ (t : List Int) (k : Int) (r : List Int), sE a k t = some r → r.length ≤ t.length := by
  intro t
  induction t with
  | nil => intro k r h; simp only [sE] at h; split at h <;> simp_all
  | cons n t ih =>
    intro k r h
    simp only [sE] at h
    split at h
    · obtain rfl := Option.some.inj h; simp
    · split at h
      · cases h
      · have := ih _ _ h; simp; omega

/-- A term of no more than 40 numbers. -/
def isT (a t : List Int) : Bool := decide (t.length ≤ 40) && decide (Tm a t)

theorem p_l1Term (s : TSign) (hg : gS s.1 = true) (t : List Int) (ht : t.length ≤ 1048576) : c_spec_l1Term M s t = some ((isT s.1 t, ()), ()) := by
  apply e_spec_l1Term
  have := p_l1End s hg t 0 (by omega) ht
  rw [show ((0 : Nat) : Int) = 0 from rfl, List.drop_zero] at this
  simp only [q_spec_l1Term, p_l1In, Option.bind_some, this, isT]
  by_cases h0 : t = []
  · subst h0; simp [Tm, sE]
  · have : 0 < t.length := List.length_pos_iff.2 h0
    by_cases h : t.length ≤ 40
    · rw [if_pos (by simp; omega)]
      simp only [Option.some.injEq, Prod.mk.injEq, and_true]
      rw [Bool.eq_iff_iff]
      simp only [Bool.and_eq_true, decide_eq_true_eq, Tm, beq_iff_eq]
      cases hE : sE s.1 1 t with
      | none => simp
      | some r =>
        have := sE_len _ _ _ hE
        simp only [Option.some.injEq]
        constructor
        · intro h'; exact ⟨h, List.eq_nil_of_length_eq_zero (by omega)⟩
        · rintro ⟨-, rfl⟩; simp
    · rw [if_neg (by simp; omega)]
      simp [h]

theorem p_args (s : TSign) (n : Int) (h : ¬ badN s.1 n) : c_impl_Sign_args M s n = some ((ar s.1 n, ()), ()) := by
  apply e_impl_Sign_args
  simp only [q_impl_Sign_args, decide_eq_true_eq]
  by_cases hn : n < 0
  · rw [if_pos hn]; simp [ar, hn]
  · rw [if_neg hn, idx_ar h hn]; rfl

theorem p_isTerm_loop (s : TSign) (hg : gS s.1 = true) (t : List Int) (ht : t.length ≤ 40) : ∀ (k i : Nat) (left : Int), i + k = t.length → 0 ≤ left → left + 3 * k ≤ 4000000 →
    ∃ r, l_impl_Sign_isTerm_122 M s left t t.length i = some r ∧ Sum.elim (fun y => y.1 == 0) (fun r => r.1.1) r = decide (sE s.1 left (t.drop i) = some []) := by
  intro k
  induction k with
  | zero =>
    intro i left hi h0 hn
    obtain rfl : i = t.length := by omega
    refine ⟨.inl (left, ()), el_impl_Sign_isTerm_122 _ _ _ _ _ ?_, ?_⟩
    · simp [ql_impl_Sign_isTerm_122]
    · rw [List.drop_length]
      simp only [Sum.elim_inl, sE]
      rw [Bool.eq_iff_iff]; simp; omega
  | succ k ih =>
    intro i left hi h0 hn
    have h1 : i < t.length := by omega
    rw [List.drop_eq_getElem_cons h1]
    have pre : ∀ r, (if (left == 0) = true then some (.inr ((false, ()), ())) else if decide (t[i] < -12) = true then some (.inr ((false, ()), ())) else if decide (t[i] ≥ (s.1.length : Int)) = true then some (.inr ((false, ()), ())) else (c_impl_Sign_args M (s.1, ()) t[i]).bind fun r2 => l_impl_Sign_isTerm_122 M (s.1, ()) (IntKind.i64.wrap (left + IntKind.i64.wrap (r2.1.1 - 1))) t t.length (IntKind.i64.wrap ((i : Int) + 1))) = some r → l_impl_Sign_isTerm_122 M s left t t.length i = some r := by
      intro r hr
      apply el_impl_Sign_isTerm_122
      simp only [ql_impl_Sign_isTerm_122]
      rw [if_pos (by simpa using h1), idx_lt h1]
      exact hr
    by_cases hl : left = 0
    · subst hl
      refine ⟨.inr ((false, ()), ()), pre _ rfl, (decide_eq_false (by rw [sE_zero]; exact fun h => by cases h)).symm⟩
    · by_cases hb : badN s.1 t[i]
      · refine ⟨.inr ((false, ()), ()), pre _ ?_, by simp [sE, hb]; omega⟩
        rw [if_neg (by simpa using hl)]
        unfold badN at hb
        by_cases h2 : t[i] < -12
        · rw [if_pos (by simpa using h2)]
        · rw [if_neg (by simpa using h2), if_pos (by simp; omega)]
      · have ha := ar_ge hg t[i]
        obtain ⟨r, hr, hm⟩ := ih (i + 1) (left - 1 + ar s.1 t[i]) (by omega) (by omega) (by omega)
        refine ⟨r, pre _ ?_, ?_⟩
        · have hb' := hb
          unfold badN at hb'
          rw [if_neg (by simpa using hl), if_neg (by simp; omega), if_neg (by simp; omega), p_args (s.1, ()) _ hb]
          simp only [Option.bind_some]
          rw [w64 (x := ar s.1 t[i] - 1) (by omega) (by omega), w64 (by omega) (by omega), inc_nat (by omega), show left + (ar s.1 t[i] - 1) = left - 1 + ar s.1 t[i] by omega]
          exact hr
        · rw [hm]
          conv => rhs; unfold sE
          rw [if_neg (by omega), if_neg hb]

theorem p_isTerm (s : TSign) (hg : gS s.1 = true) (t : List Int) : c_impl_Sign_isTerm M s t = some ((isT s.1 t, ()), ()) := by
  apply e_impl_Sign_isTerm
  simp only [q_impl_Sign_isTerm, decide_eq_true_eq, isT]
  by_cases h : t.length ≤ 40
  · obtain ⟨r, hr, hm⟩ := p_isTerm_loop s hg t h t.length 0 1 (by omega) (by omega) (by omega)
    rw [show ((0 : Nat) : Int) = 0 from rfl] at hr
    rw [List.drop_zero] at hm
    rw [if_neg (by omega), show ((s.1, ()) : TSign) = s from rfl, hr]
    cases r with
    | inl r => simp only [Sum.elim_inl, Option.bind_some] at hm ⊢; rw [hm]; simp [h, Tm]
    | inr r => obtain ⟨⟨b, _⟩, _⟩ := r; simp only [Sum.elim_inr, Option.bind_some] at hm ⊢; rw [hm]; simp [h, Tm]
  · rw [if_pos (by omega)]; simp [h]

end Go.Proofs.YtofkhmedmeihiaaPn.Ev
