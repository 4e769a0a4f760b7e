/- Texts laid together: PAa, PBa, PLa, PB, PAb, PCa, PMa, QD, QE, QHa, PEb, QIa, QJa, RA, RB, RC; no condition but those that each theorem names. -/
import Derived.Test.YtkdceefdipljaaaGreatFwoEq
/- Plain laws: numbers and rows. No condition but sizes. -/
namespace Go.Proofs.YtkdceefdipljaaaGreatFwo.Ev
open Go
set_option autoImplicit false
set_option linter.unusedVariables false
set_option linter.unusedSimpArgs false

theorem w64 {x : Int} (h : -9223372036854775808 ≤ x) (k : x < 9223372036854775808) : IntKind.i64.wrap x = x := by
  rw [IntKind.wrap_i64]
  omega
theorem w8 {x : Int} (h : 0 ≤ x) (k : x < 256) : IntKind.u8.wrap x = x := by
  simp only [IntKind.wrap, IntKind.bits, IntKind.signed, Bool.false_and, Bool.false_eq_true, if_false]
  omega
theorem idx_nat {α : Type} (xs : List α) (i : Nat) : idx xs (i : Int) = xs[i]? := by simp [idx]
theorem idx_zero {α : Type} (xs : List α) : idx xs 0 = xs[0]? := by simp [idx]
theorem idx_lt {α : Type} {xs : List α} {i : Nat} (h : i < xs.length) : idx xs (i : Int) = some xs[i] := by simp [idx, h]
theorem inc_nat {i : Nat} (h : i < 4611686018427387904) : IntKind.i64.wrap ((i : Int) + 1) = ((i + 1 : Nat) : Int) := by
  rw [w64 (by omega) (by omega)]; rfl

abbrev TSign := List Int × Unit
abbrev TLit := Bool × List Int × List Int × Unit

/-- Lists of no more than 2^20 numbers. -/
def smL (x : TLit) : Prop := x.2.1.length ≤ 1048576 ∧ x.2.2.1.length ≤ 1048576

end Go.Proofs.YtkdceefdipljaaaGreatFwo.Ev

/- Plain laws: good signatures. No condition but sizes. -/
namespace Go.Proofs.YtkdceefdipljaaaGreatFwo.Ev
open Go
set_option autoImplicit false
set_option linter.unusedVariables false
set_option linter.unusedSimpArgs false

theorem p_l1In (x lo hi : Int) : c_spec_l1In M x lo hi = some ((decide (lo ≤ x) && decide (x ≤ hi), ()), ()) := by
  apply e_spec_l1In
  simp only [q_spec_l1In, decide_eq_true_eq]
  by_cases h : x ≥ lo
  · rw [if_pos h]; simp [h]
  · rw [if_neg h]; simp; omega

theorem p_l1All_loop (a : List Int) (lo up : Int) (ha : a.length ≤ 17592186044416) : ∀ k i : Nat, i + k = a.length → l_spec_l1All_26 M lo up a a.length i = some (if (a.drop i).all (fun x => decide (lo ≤ x) && decide (x ≤ up)) = true then .inl () else .inr ((false, ()), ())) := by
  intro k
  induction k with
  | zero =>
    intro i hi
    obtain rfl : i = a.length := by omega
    apply el_spec_l1All_26
    simp [ql_spec_l1All_26]
  | succ k ih =>
    intro i hi
    apply el_spec_l1All_26
    have h1 : i < a.length := by omega
    simp only [ql_spec_l1All_26]
    rw [if_pos (by simpa using h1), idx_lt h1, inc_nat (by omega)]
    simp only [Option.bind_some, p_l1In, ih (i + 1) (by omega)]
    rw [List.drop_eq_getElem_cons h1, List.all_cons]
    generalize (decide (lo ≤ a[i]) && decide (a[i] ≤ up)) = b
    cases b <;> rfl

theorem p_l1All (a : List Int) (lo hi : Int) (ha : a.length ≤ 17592186044416) : c_spec_l1All M a lo hi = some ((a.all (fun x => decide (lo ≤ x) && decide (x ≤ hi)), ()), ()) := by
  apply e_spec_l1All
  simp only [q_spec_l1All]
  have := p_l1All_loop a lo hi ha a.length 0 (by omega)
  rw [show ((0 : Nat) : Int) = 0 from rfl] at this
  rw [this, List.drop_zero]
  cases a.all (fun x => decide (lo ≤ x) && decide (x ≤ hi)) <;> simp

/-- A signature that is good. -/
def gS (a : List Int) : Bool := decide (1 ≤ a.length) && (decide (a.length ≤ 10) && (a.all (fun x => decide (0 ≤ x) && decide (x ≤ 3)) && decide (a[0]? = some 0)))

theorem p_spec_GoodSign (s : TSign) (ha : s.1.length ≤ 17592186044416) : c_spec_GoodSign M s = some ((gS s.1, ()), ()) := by
  apply e_spec_GoodSign
  simp only [q_spec_GoodSign, p_l1In, p_l1All s.1 0 3 ha, Option.bind_some, gS]
  rcases hs : s.1 with _ | ⟨x, r⟩
  · simp
  · rw [idx_zero]
    simp only [List.length_cons, List.getElem?_cons_zero, Option.bind_some]
    by_cases h : r.length + 1 ≤ 10
    · rw [if_pos (by simp; omega)]
      cases (x :: r).all (fun x => decide (0 ≤ x) && decide (x ≤ 3)) <;> simp [h]
      rw [Bool.eq_iff_iff]; simp
    · rw [if_neg (by simp; omega)]
      simp [h]

theorem p_gs1 (x : Int) : c_impl_GoodSign_1 M x = some ((!(decide (0 ≤ x) && decide (x ≤ 3)), ()), ()) := by
  apply e_impl_GoodSign_1
  simp only [q_impl_GoodSign_1, decide_eq_true_eq]
  by_cases h : x < 0
  · rw [if_pos h]; simp; omega
  · rw [if_neg h]
    have h0 : 0 ≤ x := by omega
    rw [decide_eq_true h0, Bool.true_and]
    by_cases h3 : x ≤ 3
    · rw [decide_eq_true h3, decide_eq_false (by omega)]; rfl
    · rw [decide_eq_false h3, decide_eq_true (by omega)]; rfl

theorem p_gsIdx_loop (a : List Int) (ha : a.length ≤ 17592186044416) : ∀ k i : Nat, i + k = a.length → ∃ r, l_slices_IndexFunc_int_int__impl_GoodSign_1_26 M a () a.length i = some r ∧ (match r with | .inl _ => (a.drop i).all (fun x => decide (0 ≤ x) && decide (x ≤ 3)) = true | .inr r => 0 ≤ r.1.1 ∧ (a.drop i).all (fun x => decide (0 ≤ x) && decide (x ≤ 3)) = false) := by
  intro k
  induction k with
  | zero =>
    intro i hi
    obtain rfl : i = a.length := by omega
    refine ⟨.inl (), el_slices_IndexFunc_int_int__impl_GoodSign_1_26 _ _ _ _ (by simp [ql_slices_IndexFunc_int_int__impl_GoodSign_1_26]), by simp⟩
  | succ k ih =>
    intro i hi
    have h1 : i < a.length := by omega
    obtain ⟨r, hr, hm⟩ := ih (i + 1) (by omega)
    rw [List.drop_eq_getElem_cons h1, List.all_cons]
    by_cases hp : (decide (0 ≤ a[i]) && decide (a[i] ≤ 3)) = true
    · refine ⟨r, el_slices_IndexFunc_int_int__impl_GoodSign_1_26 _ _ _ _ ?_, by rw [hp, Bool.true_and]; exact hm⟩
      simp only [ql_slices_IndexFunc_int_int__impl_GoodSign_1_26]
      rw [if_pos (by simpa using h1), idx_lt h1, inc_nat (by omega)]
      simp only [Option.bind_some, p_gs1, hp, Bool.not_true, Bool.false_eq_true, if_false]
      exact hr
    · rw [Bool.not_eq_true] at hp
      refine ⟨.inr (((i : Int), ()), ()), el_slices_IndexFunc_int_int__impl_GoodSign_1_26 _ _ _ _ ?_, Int.natCast_nonneg i, by rw [hp, Bool.false_and]⟩
      simp only [ql_slices_IndexFunc_int_int__impl_GoodSign_1_26]
      rw [if_pos (by simpa using h1), idx_lt h1]
      simp only [Option.bind_some, p_gs1, hp, Bool.not_false, if_true]

theorem p_gsContains (a : List Int) (ha : a.length ≤ 17592186044416) : c_slices_ContainsFunc_int_int__impl_GoodSign_1 M a () = some ((!(a.all (fun x => decide (0 ≤ x) && decide (x ≤ 3))), ()), ()) := by
  apply e_slices_ContainsFunc_int_int__impl_GoodSign_1
  simp only [q_slices_ContainsFunc_int_int__impl_GoodSign_1]
  obtain ⟨r, hr, hm⟩ := p_gsIdx_loop a ha a.length 0 (by omega)
  rw [show ((0 : Nat) : Int) = 0 from rfl] at hr
  rw [List.drop_zero] at hm
  cases r with
  | inl r =>
    rw [e_slices_IndexFunc_int_int__impl_GoodSign_1 a () (r := ((-1, ()), ())) (by simp only [q_slices_IndexFunc_int_int__impl_GoodSign_1, hr, Option.bind_some, Sum.elim_inl])]
    simp only at hm
    simp [hm]
  | inr r =>
    rw [e_slices_IndexFunc_int_int__impl_GoodSign_1 a () (r := r) (by simp only [q_slices_IndexFunc_int_int__impl_GoodSign_1, hr, Option.bind_some, Sum.elim_inr])]
    simp only at hm
    simp [hm]

theorem p_impl_GoodSign (s : TSign) (ha : s.1.length ≤ 17592186044416) : c_impl_GoodSign M s = some ((gS s.1, ()), ()) := by
  apply e_impl_GoodSign
  simp only [q_impl_GoodSign, p_gsContains s.1 ha, Option.bind_some, gS, decide_eq_true_eq]
  rcases hs : s.1 with _ | ⟨x, r⟩
  · simp
  · rw [idx_zero]
    simp only [List.length_cons, List.getElem?_cons_zero, Option.bind_some]
    rw [if_neg (by omega)]
    by_cases h : r.length + 1 ≤ 10
    · rw [if_neg (by omega)]
      by_cases hx : x = 0
      · subst hx; simp [h]
      · rw [if_pos (by simpa using hx)]; simp [hx]
    · rw [if_pos (by omega)]
      simp [h]

theorem sign_eta (x : TSign) : (x.1, ()) = x := rfl
theorem lit_eta (x : TLit) : (x.1, x.2.1, x.2.2.1, ()) = x := rfl
theorem sign_eta' (x : TSign) : (x.1, ()) = x := rfl

end Go.Proofs.YtkdceefdipljaaaGreatFwo.Ev

/- Plain laws: powers, elements and worlds, as both programs check them. No condition but sizes. -/
namespace Go.Proofs.YtkdceefdipljaaaGreatFwo.Ev
open Go
set_option autoImplicit false
set_option linter.unusedVariables false
set_option linter.unusedSimpArgs false

/-- A list of no more than 2^20 numbers. -/
def smS (x : List Int) : Prop := x.length ≤ 1048576
abbrev TWorld := Int × List (List Int) × Unit
theorem world_eta (x : TWorld) : (x.1, x.2.1, ()) = x := rfl

/-! ### Powers, elements, worlds -/
def pw (s : Int) : Nat → Int
  | 0 => 1
  | k + 1 => s * pw s k
theorem pw_pos {s : Int} (hs : 1 ≤ s) : ∀ k, 1 ≤ pw s k
  | 0 => Int.le_refl _
  | k + 1 => by
    have h := pw_pos hs k
    have : 1 * 1 ≤ s * pw s k := Int.mul_le_mul hs h (by omega) (by omega)
    simpa [pw] using this
theorem pw_le {s : Int} (h1 : 1 ≤ s) (h3 : s ≤ 3) {k : Nat} (hk : k ≤ 3) : pw s k ≤ 27 := by
  have hs : s = 1 ∨ s = 2 ∨ s = 3 := by omega
  have hk' : k = 0 ∨ k = 1 ∨ k = 2 ∨ k = 3 := by omega
  rcases hs with rfl | rfl | rfl <;> rcases hk' with rfl | rfl | rfl | rfl <;> decide

theorem mul_step {s n : Int} {k : Nat} (h1 : 1 ≤ s) (hn : 0 ≤ n) (hb : n * pw s (k + 1) ≤ 1000000) : 0 ≤ n * s ∧ n * s ≤ 1000000 ∧ (n * s) * pw s k ≤ 1000000 := by
  have hp := pw_pos h1 k
  have h0 : 0 ≤ n * s := Int.mul_nonneg hn (by omega)
  have e : (n * s) * pw s k = n * pw s (k + 1) := by rw [Int.mul_assoc]; rfl
  have : (n * s) * 1 ≤ (n * s) * pw s k := Int.mul_le_mul_of_nonneg_left hp h0
  rw [Int.mul_one] at this
  exact ⟨h0, by omega, by omega⟩

theorem p_l5Long_loop (s : Int) (h1 : 1 ≤ s) : ∀ (k : Nat) (n : Int), 0 ≤ n → n * pw s k ≤ 1000000 → k ≤ 1000 → l_spec_l5Long_28 M s k n = some (.inl (n * pw s k, ())) := by
  intro k
  induction k with
  | zero =>
    intro n _ _ _
    apply el_spec_l5Long_28
    simp [ql_spec_l5Long_28, pw]
  | succ k ih =>
    intro n hn hb hk
    obtain ⟨g0, g1, g2⟩ := mul_step h1 hn hb
    apply el_spec_l5Long_28
    simp only [ql_spec_l5Long_28]
    rw [if_pos (by simp <;> omega), w64 (x := n * s) (by omega) (by omega), w64 (by omega) (by omega), show ((k + 1 : Nat) : Int) - 1 = (k : Int) by omega, ih (n * s) g0 g2 (by omega), Int.mul_assoc]
    rfl
theorem p_l5Long (s : Int) (h1 : 1 ≤ s) (h3 : s ≤ 3) (k : Int) (k0 : 0 ≤ k) (k3 : k ≤ 3) : c_spec_l5Long M s k = some ((pw s k.toNat, ()), ()) := by
  apply e_spec_l5Long
  have := p_l5Long_loop s h1 k.toNat 1 (by omega) (by have := pw_le h1 h3 (k := k.toNat) (by omega); omega) (by omega)
  rw [show ((k.toNat : Nat) : Int) = k by omega, Int.one_mul] at this
  simp only [q_spec_l5Long, this, Option.bind_some, Sum.elim_inl]

theorem p_entries_loop (s : Int) (h1 : 1 ≤ s) (m : Nat) (hm : m ≤ 1000) : ∀ (k i : Nat) (n : Int), i + k = m → 0 ≤ n → n * pw s k ≤ 1000000 → l_impl_entries_58 M s n m i = some (.inl (n * pw s k, ())) := by
  intro k
  induction k with
  | zero =>
    intro i n hi _ _
    obtain rfl : i = m := by omega
    apply el_impl_entries_58
    simp [ql_impl_entries_58, pw]
  | succ k ih =>
    intro i n hi hn hb
    obtain ⟨g0, g1, g2⟩ := mul_step h1 hn hb
    apply el_impl_entries_58
    simp only [ql_impl_entries_58]
    rw [if_pos (by simp <;> omega), w64 (x := n * s) (by omega) (by omega), inc_nat (by omega), ih (i + 1) (n * s) (by omega) g0 g2, Int.mul_assoc]
    rfl
theorem p_entries (s : Int) (h1 : 1 ≤ s) (h3 : s ≤ 3) (k : Int) (k0 : 0 ≤ k) (k3 : k ≤ 3) : c_impl_entries M s k = some ((pw s k.toNat, ()), ()) := by
  apply e_impl_entries
  have := p_entries_loop s h1 k.toNat (by omega) k.toNat 0 1 (by omega) (by omega) (by have := pw_le h1 h3 (k := k.toNat) (by omega); omega)
  rw [show ((k.toNat : Nat) : Int) = k by omega, Int.one_mul, show ((0 : Nat) : Int) = 0 from rfl] at this
  simp only [q_impl_entries, this, Option.bind_some, Sum.elim_inl]

/-- Numbers of elements. -/
def elOK (s : Int) (l : List Int) : Bool := l.all fun x => decide (0 ≤ x) && decide (x < s)
theorem p_ae1 (x s : Int) : c_impl_areElements_1 M x s = some ((!(decide (0 ≤ x) && decide (x < s)), ()), ()) := by
  apply e_impl_areElements_1
  simp only [q_impl_areElements_1, decide_eq_true_eq]
  by_cases h : x < 0
  · rw [if_pos h]; simp; omega
  · rw [if_neg h]
    have h0 : 0 ≤ x := by omega
    rw [decide_eq_true h0, Bool.true_and]
    by_cases h3 : x < s
    · rw [decide_eq_true h3, decide_eq_false (by omega)]; rfl
    · rw [decide_eq_false h3, decide_eq_true (by omega)]; rfl
theorem p_aeIdx_loop (s : Int) (a : List Int) (ha : a.length ≤ 17592186044416) : ∀ k i : Nat, i + k = a.length → ∃ r, l_slices_IndexFunc_int_int__impl_areElements_1_26 M a (s, ()) a.length i = some r ∧ (match r with | .inl _ => (a.drop i).all (fun x => decide (0 ≤ x) && decide (x < s)) = true | .inr r => 0 ≤ r.1.1 ∧ (a.drop i).all (fun x => decide (0 ≤ x) && decide (x < s)) = false) := by
  intro k
  induction k with
  | zero =>
    intro i hi
    obtain rfl : i = a.length := by omega
    refine ⟨.inl (), el_slices_IndexFunc_int_int__impl_areElements_1_26 _ _ _ _ (by simp [ql_slices_IndexFunc_int_int__impl_areElements_1_26]), by simp⟩
  | succ k ih =>
    intro i hi
    have h1 : i < a.length := by omega
    obtain ⟨r, hr, hm⟩ := ih (i + 1) (by omega)
    rw [List.drop_eq_getElem_cons h1, List.all_cons]
    by_cases hp : (decide (0 ≤ a[i]) && decide (a[i] < s)) = true
    · refine ⟨r, el_slices_IndexFunc_int_int__impl_areElements_1_26 _ _ _ _ ?_, by rw [hp, Bool.true_and]; exact hm⟩
      simp only [ql_slices_IndexFunc_int_int__impl_areElements_1_26]
      rw [if_pos (by simpa using h1), idx_lt h1, inc_nat (by omega)]
      simp only [Option.bind_some, p_ae1, hp, Bool.not_true, Bool.false_eq_true, if_false]
      exact hr
    · rw [Bool.not_eq_true] at hp
      refine ⟨.inr (((i : Int), ()), ()), el_slices_IndexFunc_int_int__impl_areElements_1_26 _ _ _ _ ?_, Int.natCast_nonneg i, by rw [hp, Bool.false_and]⟩
      simp only [ql_slices_IndexFunc_int_int__impl_areElements_1_26]
      rw [if_pos (by simpa using h1), idx_lt h1]
      simp only [Option.bind_some, p_ae1, hp, Bool.not_false, if_true]

theorem p_aeContains (s : Int) (a : List Int) (ha : a.length ≤ 17592186044416) : c_slices_ContainsFunc_int_int__impl_areElements_1 M a (s, ()) = some ((!(a.all (fun x => decide (0 ≤ x) && decide (x < s))), ()), ()) := by
  apply e_slices_ContainsFunc_int_int__impl_areElements_1
  simp only [q_slices_ContainsFunc_int_int__impl_areElements_1]
  obtain ⟨r, hr, hm⟩ := p_aeIdx_loop s a ha a.length 0 (by omega)
  rw [show ((0 : Nat) : Int) = 0 from rfl] at hr
  rw [List.drop_zero] at hm
  cases r with
  | inl r =>
    rw [e_slices_IndexFunc_int_int__impl_areElements_1 a (s, ()) (r := ((-1, ()), ())) (by simp only [q_slices_IndexFunc_int_int__impl_areElements_1, hr, Option.bind_some, Sum.elim_inl])]
    simp only at hm
    simp [hm]
  | inr r =>
    rw [e_slices_IndexFunc_int_int__impl_areElements_1 a (s, ()) (r := r) (by simp only [q_slices_IndexFunc_int_int__impl_areElements_1, hr, Option.bind_some, Sum.elim_inr])]
    simp only at hm
    simp [hm]


theorem p_areElements (s : Int) (l : List Int) (hl : l.length ≤ 17592186044416) : c_impl_areElements M s l = some ((elOK s l, ()), ()) := by
  apply e_impl_areElements
  simp only [q_impl_areElements, p_aeContains s l hl, Option.bind_some, Bool.not_not, elOK]
theorem p_elAll (s : Int) (l : List Int) (hl : l.length ≤ 17592186044416) (h1 : 1 ≤ s) (h3 : s ≤ 3) : c_spec_l1All M l 0 (IntKind.i64.wrap (s - 1)) = some ((elOK s l, ()), ()) := by
  rw [w64 (by omega) (by omega), p_l1All l 0 (s - 1) hl]
  simp only [elOK, Option.some.injEq, Prod.mk.injEq, and_true]
  congr 1
  funext x
  rw [show decide (x ≤ s - 1) = decide (x < s) by rw [decide_eq_decide]; omega]

def tabOK (s : Int) : List Int → List (List Int) → Bool
  | k :: ks, t :: ts => decide ((t.length : Int) = pw s k.toNat) && (elOK s t && tabOK s ks ts)
  | _, _ => true
/-- A world that fits a signature. -/
def wOK (a : List Int) (w : TWorld) : Bool := decide (1 ≤ w.1) && (decide (w.1 ≤ 3) && (decide (w.2.1.length = a.length) && tabOK w.1 a w.2.1))

theorem gS_all {a : List Int} (hg : gS a = true) : a.length ≤ 10 ∧ ∀ x ∈ a, 0 ≤ x ∧ x ≤ 3 := by
  simp only [gS, Bool.and_eq_true, List.all_eq_true, decide_eq_true_eq] at hg
  exact ⟨hg.2.1, fun x hx => by simpa using hg.2.2.1 x hx⟩

theorem p_l5World_loop (s : TSign) (hg : gS s.1 = true) (w : TWorld) (h1 : 1 ≤ w.1) (h3 : w.1 ≤ 3) (hl : w.2.1.length = s.1.length) (hx : ∀ y ∈ w.2.1, smS y) : ∀ k i : Nat, i + k = w.2.1.length → l_spec_l5World_58 M s w w.2.1 w.2.1.length i = some (if tabOK w.1 (s.1.drop i) (w.2.1.drop i) = true then .inl () else .inr ((false, ()), ())) := by
  obtain ⟨g1, g2⟩ := gS_all hg
  intro k
  induction k with
  | zero =>
    intro i hi
    obtain rfl : i = w.2.1.length := by omega
    apply el_spec_l5World_58
    simp [ql_spec_l5World_58, tabOK]
  | succ k ih =>
    intro i hi
    have h0 : i < w.2.1.length := by omega
    have h0' : i < s.1.length := by omega
    have ha := g2 _ (List.getElem_mem h0')
    have hy := hx _ (List.getElem_mem h0)
    unfold smS at hy
    apply el_spec_l5World_58
    rw [List.drop_eq_getElem_cons h0, List.drop_eq_getElem_cons h0']
    simp only [ql_spec_l5World_58]
    rw [if_pos (by simpa using h0), idx_lt h0, idx_lt h0', inc_nat (by omega)]
    simp only [Option.bind_some, p_l5Long w.1 h1 h3 _ ha.1 ha.2, p_elAll w.1 _ (show (w.2.1[i]).length ≤ 17592186044416 by omega) h1 h3, sign_eta', world_eta, ih (i + 1) (by omega)]
    by_cases e : ((w.2.1[i]).length : Int) = pw w.1 (s.1[i]).toNat
    · rw [if_neg (by simpa using e)]
      cases hE : elOK w.1 w.2.1[i] <;> simp [tabOK, e, hE]
    · rw [if_pos (by simpa using e)]; simp [tabOK, e]
theorem p_isWorld_loop (s : TSign) (hg : gS s.1 = true) (w : TWorld) (h1 : 1 ≤ w.1) (h3 : w.1 ≤ 3) (hl : w.2.1.length = s.1.length) (hx : ∀ y ∈ w.2.1, smS y) : ∀ k i : Nat, i + k = w.2.1.length → l_impl_Sign_isWorld_58 M s w w.2.1 w.2.1.length i = some (if tabOK w.1 (s.1.drop i) (w.2.1.drop i) = true then .inl () else .inr ((false, ()), ())) := by
  obtain ⟨g1, g2⟩ := gS_all hg
  intro k
  induction k with
  | zero =>
    intro i hi
    obtain rfl : i = w.2.1.length := by omega
    apply el_impl_Sign_isWorld_58
    simp [ql_impl_Sign_isWorld_58, tabOK]
  | succ k ih =>
    intro i hi
    have h0 : i < w.2.1.length := by omega
    have h0' : i < s.1.length := by omega
    have ha := g2 _ (List.getElem_mem h0')
    have hy := hx _ (List.getElem_mem h0)
    unfold smS at hy
    apply el_impl_Sign_isWorld_58
    rw [List.drop_eq_getElem_cons h0, List.drop_eq_getElem_cons h0']
    simp only [ql_impl_Sign_isWorld_58]
    rw [if_pos (by simpa using h0), idx_lt h0, idx_lt h0', inc_nat (by omega)]
    simp only [Option.bind_some, p_entries w.1 h1 h3 _ ha.1 ha.2, p_areElements w.1 _ (show (w.2.1[i]).length ≤ 17592186044416 by omega), sign_eta', world_eta, ih (i + 1) (by omega)]
    by_cases e : ((w.2.1[i]).length : Int) = pw w.1 (s.1[i]).toNat
    · rw [if_neg (by simpa using e)]
      cases hE : elOK w.1 w.2.1[i] <;> simp [tabOK, e, hE]
    · rw [if_pos (by simpa using e)]; simp [tabOK, e]

theorem p_l5World (s : TSign) (hg : gS s.1 = true) (w : TWorld) (hl : w.2.1.length ≤ 1048576) (hx : ∀ y ∈ w.2.1, smS y) : c_spec_l5World M s w = some ((wOK s.1 w, ()), ()) := by
  apply e_spec_l5World
  simp only [q_spec_l5World, p_l1In, Option.bind_some, sign_eta', world_eta, wOK]
  by_cases h1 : 1 ≤ w.1
  · by_cases h3 : w.1 ≤ 3
    · rw [if_neg (by simp [h1, h3])]
      by_cases he : w.2.1.length = s.1.length
      · have := p_l5World_loop s hg w h1 h3 he hx w.2.1.length 0 (by omega)
        rw [show ((0 : Nat) : Int) = 0 from rfl, List.drop_zero, List.drop_zero] at this
        rw [if_neg (by simp; omega), this]
        cases tabOK w.1 s.1 w.2.1 <;> simp [h1, h3, he]
      · rw [if_pos (by simp; omega)]; simp [he]
    · rw [if_pos (by simp [h3])]; simp [h3]
  · rw [if_pos (by simp [h1])]; simp [h1]
theorem p_isWorld (s : TSign) (hg : gS s.1 = true) (w : TWorld) (hl : w.2.1.length ≤ 1048576) (hx : ∀ y ∈ w.2.1, smS y) : c_impl_Sign_isWorld M s w = some ((wOK s.1 w, ()), ()) := by
  have hsz : c_impl_isSize M w.1 = some ((decide (1 ≤ w.1) && decide (w.1 ≤ 3), ()), ()) := by
    apply e_impl_isSize
    simp only [q_impl_isSize, decide_eq_true_eq]
    by_cases h : w.1 ≥ 1
    · rw [if_pos h, decide_eq_true h]; simp
    · rw [if_neg h, decide_eq_false (by omega)]; rfl
  apply e_impl_Sign_isWorld
  simp only [q_impl_Sign_isWorld, hsz, Option.bind_some, sign_eta', world_eta, wOK]
  by_cases h1 : 1 ≤ w.1
  · by_cases h3 : w.1 ≤ 3
    · rw [if_neg (by simp [h1, h3])]
      by_cases he : w.2.1.length = s.1.length
      · have := p_isWorld_loop s hg w h1 h3 he hx w.2.1.length 0 (by omega)
        rw [show ((0 : Nat) : Int) = 0 from rfl, List.drop_zero, List.drop_zero] at this
        rw [if_neg (by simp; omega), this]
        cases tabOK w.1 s.1 w.2.1 <;> simp [h1, h3, he]
      · rw [if_pos (by simp; omega)]; simp [he]
    · rw [if_pos (by simp [h3])]; simp [h3]
  · rw [if_pos (by simp [h1])]; simp [h1]
theorem p_spec_GoodWorld (s : TSign) (hs : s.1.length ≤ 1048576) (w : TWorld) (hl : w.2.1.length ≤ 1048576) (hx : ∀ y ∈ w.2.1, smS y) : c_spec_GoodWorld M s w = some ((gS s.1 && wOK s.1 w, ()), ()) := by
  apply e_spec_GoodWorld
  simp only [q_spec_GoodWorld, sign_eta', world_eta, p_spec_GoodSign s (by omega), Option.bind_some]
  cases hg : gS s.1 with
  | false => rfl
  | true => rw [if_pos rfl, p_l5World s hg w hl hx]; rfl

theorem tabOK_get {s : Int} : ∀ {a : List Int} {ts : List (List Int)} (i : Nat) (h : i < a.length) (h' : i < ts.length), tabOK s a ts = true → (ts[i].length : Int) = pw s (a[i]).toNat ∧ elOK s ts[i] = true
  | k :: ks, t :: ts, 0, _, _, ht => by
    simp only [tabOK, Bool.and_eq_true, decide_eq_true_eq] at ht
    exact ⟨ht.1, ht.2.1⟩
  | k :: ks, t :: ts, i + 1, h, h', ht => by
    simp only [tabOK, Bool.and_eq_true, decide_eq_true_eq] at ht
    exact tabOK_get i (by simpa using h) (by simpa using h') ht.2.2

end Go.Proofs.YtkdceefdipljaaaGreatFwo.Ev

/- Plain laws: signatures and terms: both programs tell the same signatures and terms. No condition but sizes. -/
namespace Go.Proofs.YtkdceefdipljaaaGreatFwo.Ev
open Go
set_option autoImplicit false
set_option linter.unusedVariables false
set_option linter.unusedSimpArgs false

/-! ### Terms -/
def ar (a : List Int) (n : Int) : Int := if n < 0 then 0 else (a[n.toNat]?).getD 0
def badN (a : List Int) (n : Int) : Prop := n < -12 ∨ (a.length : Int) ≤ n
instance (a : List Int) (n : Int) : Decidable (badN a n) := inferInstanceAs (Decidable (_ ∨ _))
/-- What stands behind some terms. -/
def sE (a : List Int) : Int → List Int → Option (List Int)
  | k, [] => if k ≤ 0 then some [] else none
  | k, n :: t => if k ≤ 0 then some (n :: t) else if badN a n then none else sE a (k - 1 + ar a n) t

theorem ar_ge {a : List Int} (hg : gS a = true) (n : Int) : 0 ≤ ar a n ∧ ar a n ≤ 3 := by
  unfold ar
  split
  · omega
  · cases h : a[n.toNat]? with
    | none => simp
    | some x =>
      simp only [gS, Bool.and_eq_true, List.all_eq_true, decide_eq_true_eq] at hg
      have := hg.2.2.1 x (List.mem_of_getElem? h)
      simpa using this
theorem idx_ar {a : List Int} {n : Int} (h : ¬ badN a n) (h0 : ¬ n < 0) : idx a n = some (ar a n) := by
  unfold badN at h
  have h1 : n.toNat < a.length := by omega
  unfold ar idx
  rw [if_pos (by omega), if_neg h0, List.getElem?_eq_getElem h1]
  rfl

theorem sE_zero (a : List Int) (t : List Int) : sE a 0 t = some t := by cases t <;> simp [sE]
theorem sE_app {a : List Int} (hg : gS a = true) : ∀ (u : List Int) (j k : Int) (x : List Int), 0 ≤ j → 0 ≤ k → sE a j u = some [] → sE a (j + k) (u ++ x) = sE a k x := by
  intro u
  induction u with
  | nil =>
    intro j k x hj hk h
    simp only [sE] at h
    split at h
    · obtain rfl : j = 0 := by omega
      simp
    · cases h
  | cons n u ih =>
    intro j k x hj hk h
    simp only [sE] at h
    split at h
    · cases h
    · rename_i hj'
      split at h
      · cases h
      · rename_i hb
        have hn := ar_ge hg n
        rw [List.cons_append]
        conv => lhs; unfold sE
        rw [if_neg (by omega), if_neg hb]
        have := ih (j - 1 + ar a n) k x (by omega) hk h
        rw [← this]
        congr 1; omega
theorem sE_split {a : List Int} (hg : gS a = true) : ∀ (t : List Int) (j k : Int) (r : List Int), 0 ≤ j → 0 ≤ k → sE a (j + k) t = some r → ∃ u x, t = u ++ x ∧ sE a j u = some [] ∧ sE a k x = some r := by
  intro t
  induction t with
  | nil =>
    intro j k r hj hk h
    simp only [sE] at h
    split at h
    · obtain rfl : j = 0 := by omega
      obtain rfl : k = 0 := by omega
      exact ⟨[], [], rfl, by simp [sE], by simpa [sE] using h⟩
    · cases h
  | cons n t ih =>
    intro j k r hj hk h
    by_cases h0 : j = 0
    · subst h0
      exact ⟨[], n :: t, rfl, by simp [sE], by simpa using h⟩
    · simp only [sE] at h
      split at h
      · omega
      · split at h
        · cases h
        · rename_i hb
          have hn := ar_ge hg n
          obtain ⟨u, x, rfl, h1, h2⟩ := ih (j - 1 + ar a n) k r (by omega) hk (by rw [← h]; congr 1; omega)
          refine ⟨n :: u, x, rfl, ?_, h2⟩
          unfold sE
          rw [if_neg (by omega), if_neg hb]
          exact h1
/-- A term. -/
abbrev Tm (a : List Int) (u : List Int) : Prop := sE a 1 u = some []
theorem sE_kids {a : List Int} (hg : gS a = true) : ∀ (k : Nat) (t r : List Int), sE a k t = some r → ∃ us : List (List Int), us.length = k ∧ t = us.flatten ++ r ∧ ∀ u ∈ us, Tm a u := by
  intro k
  induction k with
  | zero =>
    intro t r h
    rw [show ((0 : Nat) : Int) = 0 from rfl, sE_zero] at h
    obtain rfl := Option.some.inj h
    exact ⟨[], rfl, rfl, by simp⟩
  | succ k ih =>
    intro t r h
    obtain ⟨u, x, rfl, h1, h2⟩ := sE_split hg t 1 k r (by omega) (by omega) (by rw [← h]; congr 1; omega)
    obtain ⟨us, hl, rfl, hu⟩ := ih x r h2
    exact ⟨u :: us, by simp [hl], by simp, by simpa using ⟨h1, hu⟩⟩
theorem Tm.parts {a : List Int} (hg : gS a = true) {u : List Int} (h : Tm a u) : ∃ (n : Int) (us : List (List Int)), u = n :: us.flatten ∧ ¬ badN a n ∧ (us.length : Int) = ar a n ∧ ∀ v ∈ us, Tm a v := by
  cases u with
  | nil => simp [Tm, sE] at h
  | cons n t =>
    simp only [Tm, sE] at h
    rw [if_neg (by omega)] at h
    split at h
    · cases h
    · rename_i hb
      have hn := ar_ge hg n
      obtain ⟨us, hl, ht, hu⟩ := sE_kids hg (ar a n).toNat t [] (by rw [← h]; congr 1; omega)
      exact ⟨n, us, by rw [ht]; simp, hb, by omega, hu⟩
theorem Tm.rest {a : List Int} (hg : gS a = true) {u : List Int} (h : Tm a u) (x : List Int) : sE a 1 (u ++ x) = some x := by
  have := sE_app hg u 1 0 x (by omega) (by omega) h
  rw [sE_zero] at this
  simpa using this
theorem Tm.pos {a u : List Int} (h : Tm a u) : 0 < u.length := by
  cases u with
  | nil => simp [Tm, sE] at h
  | cons n t => simp

theorem p_l1End_loop (s : TSign) (hg : gS s.1 = true) (t : List Int) (ht : t.length ≤ 1048576) : ∀ (k i : Nat) (need : Int), i + k = t.length → 0 ≤ need → need + 3 * k ≤ 4000000 →
    l_spec_l1End_28 M t i s need = some (match sE s.1 need (t.drop i) with | none => .inr (((-1 : Int), ()), ()) | some r => .inl ((t.length : Int) - r.length, ())) := by
  have hs : s.1.length ≤ 10 := by simp only [gS, Bool.and_eq_true, decide_eq_true_eq] at hg; exact hg.2.1
  intro k
  induction k with
  | zero =>
    intro i need hi h0 hn
    obtain rfl : i = t.length := by omega
    apply el_spec_l1End_28
    simp only [ql_spec_l1End_28, List.drop_length, sE, decide_eq_true_eq]
    by_cases h : need > 0
    · rw [if_pos h, if_pos (by omega), if_neg (by omega)]
    · rw [if_neg h, if_pos (by omega)]; simp
  | succ k ih =>
    intro i need hi h0 hn
    apply el_spec_l1End_28
    have h1 : i < t.length := by omega
    rw [List.drop_eq_getElem_cons h1]
    simp only [ql_spec_l1End_28, sE, decide_eq_true_eq]
    by_cases h : need > 0
    · rw [if_pos h, if_neg (by omega), if_neg (by omega), idx_lt h1]
      simp only [Option.bind_some, p_l1In]
      rw [w64 (x := (s.1.length : Int) - 1) (by omega) (by omega)]
      by_cases hb : badN s.1 t[i]
      · rw [if_pos hb, if_pos (by unfold badN at hb; simp; omega)]
      · rw [if_neg hb, if_neg (by unfold badN at hb; simp; omega)]
        have ha := ar_ge hg t[i]
        have hw : IntKind.i64.wrap (need - 1) = need - 1 := w64 (by omega) (by omega)
        by_cases hx : t[i] ≥ 0
        · rw [if_pos hx, idx_ar hb (by omega), hw]
          simp only [Option.bind_some, Sum.elim_inl]
          rw [w64 (x := need - 1 + _) (by omega) (by omega), inc_nat (by omega)]
          exact ih (i + 1) _ (by omega) (by omega) (by omega)
        · have : ar s.1 t[i] = 0 := by unfold ar; rw [if_pos (by omega)]
          rw [if_neg hx, hw, this]
          simp only [Option.bind_some, Sum.elim_inl]
          rw [inc_nat (by omega), Int.add_zero]
          exact ih (i + 1) _ (by omega) (by omega) (by omega)
    · rw [if_neg h, if_pos (by omega)]
      simp only [List.length_cons, List.length_drop]
      congr 3
      omega

theorem p_l1End (s : TSign) (hg : gS s.1 = true) (t : List Int) (i : Nat) (hi : i ≤ t.length) (ht : t.length ≤ 1048576) :
    c_spec_l1End M s t i = some ((match sE s.1 1 (t.drop i) with | none => (-1 : Int) | some r => (t.length : Int) - r.length, ()), ()) := by
  apply e_spec_l1End
  simp only [q_spec_l1End]
  rw [p_l1End_loop s hg t ht (t.length - i) i 1 (by omega) (by omega) (by omega)]
  cases sE s.1 1 (t.drop i) <;> rfl

theorem sE_len {a : List Int} : ∀ (t : List Int) (k : Int) (r : List Int), sE a k t = some r → r.length ≤ t.length := by
  intro t
  induction t with
  | nil => intro k r h; simp only [sE] at h; split at h <;> simp_all
  | cons n t ih =>
    intro k r h
    simp only [sE] at h
    split at h
    · obtain rfl := Option.some.inj h; simp
    · split at h
      · cases h
      · have := ih _ _ h; simp; omega

/-- A term of no more than 40 numbers. -/
def isT (a t : List Int) : Bool := decide (t.length ≤ 40) && decide (Tm a t)

theorem p_l1Term (s : TSign) (hg : gS s.1 = true) (t : List Int) (ht : t.length ≤ 1048576) : c_spec_l1Term M s t = some ((isT s.1 t, ()), ()) := by
  apply e_spec_l1Term
  have := p_l1End s hg t 0 (by omega) ht
  rw [show ((0 : Nat) : Int) = 0 from rfl, List.drop_zero] at this
  simp only [q_spec_l1Term, p_l1In, Option.bind_some, this, isT]
  by_cases h0 : t = []
  · subst h0; simp [Tm, sE]
  · have : 0 < t.length := List.length_pos_iff.2 h0
    by_cases h : t.length ≤ 40
    · rw [if_pos (by simp; omega)]
      simp only [Option.some.injEq, Prod.mk.injEq, and_true]
      rw [Bool.eq_iff_iff]
      simp only [Bool.and_eq_true, decide_eq_true_eq, Tm, beq_iff_eq]
      cases hE : sE s.1 1 t with
      | none => simp
      | some r =>
        have := sE_len _ _ _ hE
        simp only [Option.some.injEq]
        constructor
        · intro h'; exact ⟨h, List.eq_nil_of_length_eq_zero (by omega)⟩
        · rintro ⟨-, rfl⟩; simp
    · rw [if_neg (by simp; omega)]
      simp [h]

theorem p_args (s : TSign) (n : Int) (h : ¬ badN s.1 n) : c_impl_Sign_args M s n = some ((ar s.1 n, ()), ()) := by
  apply e_impl_Sign_args
  simp only [q_impl_Sign_args, decide_eq_true_eq]
  by_cases hn : n < 0
  · rw [if_pos hn]; simp [ar, hn]
  · rw [if_neg hn, idx_ar h hn]; rfl

theorem p_isTerm_loop (s : TSign) (hg : gS s.1 = true) (t : List Int) (ht : t.length ≤ 40) : ∀ (k i : Nat) (left : Int), i + k = t.length → 0 ≤ left → left + 3 * k ≤ 4000000 →
    ∃ r, l_impl_Sign_isTerm_122 M s left t t.length i = some r ∧ Sum.elim (fun y => y.1 == 0) (fun r => r.1.1) r = decide (sE s.1 left (t.drop i) = some []) := by
  intro k
  induction k with
  | zero =>
    intro i left hi h0 hn
    obtain rfl : i = t.length := by omega
    refine ⟨.inl (left, ()), el_impl_Sign_isTerm_122 _ _ _ _ _ ?_, ?_⟩
    · simp [ql_impl_Sign_isTerm_122]
    · rw [List.drop_length]
      simp only [Sum.elim_inl, sE]
      rw [Bool.eq_iff_iff]; simp; omega
  | succ k ih =>
    intro i left hi h0 hn
    have h1 : i < t.length := by omega
    rw [List.drop_eq_getElem_cons h1]
    have pre : ∀ r, (if (left == 0) = true then some (.inr ((false, ()), ())) else if decide (t[i] < -12) = true then some (.inr ((false, ()), ())) else if decide (t[i] ≥ (s.1.length : Int)) = true then some (.inr ((false, ()), ())) else (c_impl_Sign_args M (s.1, ()) t[i]).bind fun r2 => l_impl_Sign_isTerm_122 M (s.1, ()) (IntKind.i64.wrap (left + IntKind.i64.wrap (r2.1.1 - 1))) t t.length (IntKind.i64.wrap ((i : Int) + 1))) = some r → l_impl_Sign_isTerm_122 M s left t t.length i = some r := by
      intro r hr
      apply el_impl_Sign_isTerm_122
      simp only [ql_impl_Sign_isTerm_122]
      rw [if_pos (by simpa using h1), idx_lt h1]
      exact hr
    by_cases hl : left = 0
    · subst hl
      refine ⟨.inr ((false, ()), ()), pre _ rfl, (decide_eq_false (by rw [sE_zero]; exact fun h => by cases h)).symm⟩
    · by_cases hb : badN s.1 t[i]
      · refine ⟨.inr ((false, ()), ()), pre _ ?_, by simp [sE, hb]; omega⟩
        rw [if_neg (by simpa using hl)]
        unfold badN at hb
        by_cases h2 : t[i] < -12
        · rw [if_pos (by simpa using h2)]
        · rw [if_neg (by simpa using h2), if_pos (by simp; omega)]
      · have ha := ar_ge hg t[i]
        obtain ⟨r, hr, hm⟩ := ih (i + 1) (left - 1 + ar s.1 t[i]) (by omega) (by omega) (by omega)
        refine ⟨r, pre _ ?_, ?_⟩
        · have hb' := hb
          unfold badN at hb'
          rw [if_neg (by simpa using hl), if_neg (by simp; omega), if_neg (by simp; omega), p_args (s.1, ()) _ hb]
          simp only [Option.bind_some]
          rw [w64 (x := ar s.1 t[i] - 1) (by omega) (by omega), w64 (by omega) (by omega), inc_nat (by omega), show left + (ar s.1 t[i] - 1) = left - 1 + ar s.1 t[i] by omega]
          exact hr
        · rw [hm]
          conv => rhs; unfold sE
          rw [if_neg (by omega), if_neg hb]

theorem p_isTerm (s : TSign) (hg : gS s.1 = true) (t : List Int) : c_impl_Sign_isTerm M s t = some ((isT s.1 t, ()), ()) := by
  apply e_impl_Sign_isTerm
  simp only [q_impl_Sign_isTerm, decide_eq_true_eq, isT]
  by_cases h : t.length ≤ 40
  · obtain ⟨r, hr, hm⟩ := p_isTerm_loop s hg t h t.length 0 1 (by omega) (by omega) (by omega)
    rw [show ((0 : Nat) : Int) = 0 from rfl] at hr
    rw [List.drop_zero] at hm
    rw [if_neg (by omega), show ((s.1, ()) : TSign) = s from rfl, hr]
    cases r with
    | inl r => simp only [Sum.elim_inl, Option.bind_some] at hm ⊢; rw [hm]; simp [h, Tm]
    | inr r => obtain ⟨⟨b, _⟩, _⟩ := r; simp only [Sum.elim_inr, Option.bind_some] at hm ⊢; rw [hm]; simp [h, Tm]
  · rw [if_pos (by omega)]; simp [h]

end Go.Proofs.YtkdceefdipljaaaGreatFwo.Ev

/- Plain laws: bytes and numbers. No condition but sizes. -/
namespace Go.Proofs.YtkdceefdipljaaaGreatFwo.Ev
open Go
set_option autoImplicit false
set_option linter.unusedVariables false
set_option linter.unusedSimpArgs false

theorem wu64 {x : Int} (h : 0 ≤ x) (k : x < 18446744073709551616) : IntKind.u64.wrap x = x := by
  simp only [IntKind.wrap, IntKind.bits, IntKind.signed, Bool.false_and, Bool.false_eq_true, if_false]
  omega

theorem bytesStr_app (x y : List Int) : bytesStr (x ++ y) = bytesStr x ++ bytesStr y := by simp [bytesStr]

theorem bytesStr_len (x : List Int) : (bytesStr x).length = x.length := by simp [bytesStr]

theorem bytesStr_one (n : Nat) : bytesStr [(n : Int)] = [UInt8.ofNat n] := by simp [bytesStr]

theorem bytesStr_str (x : List UInt8) : bytesStr (strBytes x) = x := by
  induction x with
  | nil => rfl
  | cons b r ih => simp only [strBytes, bytesStr, List.map_cons] at ih ⊢; rw [ih]; simp

theorem strBytes_app (x y : List UInt8) : strBytes (x ++ y) = strBytes x ++ strBytes y := by simp [strBytes]

theorem strBytes_len (x : List UInt8) : (strBytes x).length = x.length := by simp [strBytes]

theorem strBytes_one {n : Nat} (h : n < 256) : strBytes [UInt8.ofNat n] = [(n : Int)] := by
  simp [strBytes]; omega

end Go.Proofs.YtkdceefdipljaaaGreatFwo.Ev

/- Plain laws: places of a term's operands. No condition but sizes. -/
namespace Go.Proofs.YtkdceefdipljaaaGreatFwo.Ev
open Go
set_option autoImplicit false
set_option linter.unusedVariables false
set_option linter.unusedSimpArgs false


def posOf : Nat → List (List Int) → List Int
  | _, [] => []
  | p, u :: us => (p : Int) :: posOf (p + u.length) us
theorem posOf_len : ∀ (us : List (List Int)) (p : Nat), (posOf p us).length = us.length
  | [], _ => rfl
  | _ :: us, p => by simp [posOf, posOf_len us]

theorem drop_split {T u x : List Int} {i : Nat} (h : T.drop i = u ++ x) : T.drop (i + u.length) = x := by
  rw [← List.drop_drop, h, List.drop_left]
theorem drop_len {T u : List Int} {i : Nat} (h : T.drop i = u) : u.length = T.length - i := by rw [← h, List.length_drop]

theorem p_l1Args_loop {a : List Int} (hg : gS a = true) (T : List Int) (hT : T.length ≤ 1000) : ∀ (us : List (List Int)) (p : Nat) (x out : List Int), (∀ u ∈ us, Tm a u) → us.length ≤ 1000 → T.drop p = us.flatten ++ x → out.length + us.length ≤ 1000 →
    l_spec_l1Args_250 M T (a, ()) out p us.length = some (.inl (out ++ posOf p us, ())) := by
  intro us
  induction us with
  | nil =>
    intro p x out _ _ _ _
    apply el_spec_l1Args_250
    simp [ql_spec_l1Args_250, posOf]
  | cons u us ih =>
    intro p x out hu hl hd ho
    simp only [List.length_cons] at hl ho
    simp only [List.flatten_cons, List.append_assoc] at hd
    have h1 := hu u (by simp)
    apply el_spec_l1Args_250
    simp only [ql_spec_l1Args_250, List.length_cons]
    have hp : p ≤ T.length := by
      have := drop_len hd
      have h2 := h1.pos
      simp at this
      omega
    rw [if_pos (by simp), if_pos (by simp [-List.length_flatten]; omega), p_l1End (a, ()) hg T p hp (by omega), hd, h1.rest hg]
    have hx := drop_len hd
    have hlen : (T.length : Int) - (us.flatten ++ x).length = ((p + u.length : Nat) : Int) := by
      simp only [List.length_append] at hx ⊢
      omega
    simp only [Option.bind_some, hlen]
    rw [w64 (by omega) (by omega), show ((us.length + 1 : Nat) : Int) - 1 = (us.length : Int) by omega, ih (p + u.length) x (out ++ [(p : Int)]) (fun v hv => hu v (by simp [hv])) (by omega) (drop_split hd) (by simp [-List.length_flatten]; omega)]
    simp [posOf]

end Go.Proofs.YtkdceefdipljaaaGreatFwo.Ev

/- Plain laws: assignments, and the values of terms in a world: both programs tell the same. No condition but sizes. -/
namespace Go.Proofs.YtkdceefdipljaaaGreatFwo.Ev
open Go
set_option autoImplicit false
set_option linter.unusedVariables false
set_option linter.unusedSimpArgs false

/-- An assignment. -/
def envOK (s : Int) (e : List Int) : Bool := decide (e.length = 12) && elOK s e
theorem envOK_get {s : Int} {e : List Int} (h : envOK s e = true) (i : Nat) (hi : i < 12) : ∃ v, e[i]? = some v ∧ 0 ≤ v ∧ v < s := by
  simp only [envOK, elOK, Bool.and_eq_true, decide_eq_true_eq, List.all_eq_true] at h
  have h1 : i < e.length := by omega
  exact ⟨e[i], List.getElem?_eq_getElem h1, h.2 _ (List.getElem_mem h1)⟩
theorem envOK_set {s : Int} {e : List Int} (h : envOK s e = true) (i : Nat) (v : Int) (h0 : 0 ≤ v) (h1 : v < s) : envOK s (e.set i v) = true := by
  simp only [envOK, elOK, Bool.and_eq_true, decide_eq_true_eq, List.all_eq_true, List.length_set] at h ⊢
  refine ⟨h.1, fun x hx => ?_⟩
  rcases List.mem_or_eq_of_mem_set hx with h2 | h2
  · exact h.2 x h2
  · subst h2; exact ⟨h0, h1⟩

/-- The value of a term: the same from both programs, wherever it stands. -/
def EV (a : List Int) (w : TWorld) (env u : List Int) (v : Int) : Prop := 0 ≤ v ∧ v < w.1 ∧
  (∀ (T x : List Int) (i : Nat), T.length ≤ 1000 → T.drop i = u ++ x → c_impl_Sign_eval M (a, ()) w T i env = some ((v, ((i + u.length : Nat) : Int), ()), ())) ∧
  (∀ (T x : List Int) (i : Nat), T.length ≤ 1000 → T.drop i = u ++ x → c_spec_l5Eval M (a, ()) w T i env = some ((v, ()), ()))
open Classical in
noncomputable def vb (a : List Int) (w : TWorld) (env u : List Int) : Int := if h : ∃ b, EV a w env u b then h.choose else 0
theorem vb_ok {a : List Int} {w : TWorld} {env u : List Int} (h : ∃ b, EV a w env u b) : EV a w env u (vb a w env u) := by
  unfold vb; rw [dif_pos h]; exact h.choose_spec

theorem acc_step {s acc v P : Int} (h1 : 1 ≤ s) (h3 : s ≤ 3) (h0 : 0 ≤ acc) (hP : acc < P) (hP' : P ≤ 1000) (v0 : 0 ≤ v) (v1 : v < s) : 0 ≤ acc * s + v ∧ acc * s + v < s * P ∧ 0 ≤ acc * s ∧ acc * s ≤ 3000 := by
  have a1 : 0 ≤ acc * s := Int.mul_nonneg h0 (by omega)
  have a2 : acc * s ≤ (P - 1) * s := Int.mul_le_mul_of_nonneg_right (by omega) (by omega)
  have a3 : (P - 1) * s = s * P - s := by rw [Int.sub_mul, Int.one_mul, Int.mul_comm]
  have a4 : acc * s ≤ acc * 3 := Int.mul_le_mul_of_nonneg_left h3 h0
  exact ⟨by omega, by omega, a1, by omega⟩

/-- The row's place in a table. -/
noncomputable def fa (a : List Int) (w : TWorld) (env : List Int) : Int → List (List Int) → Int
  | acc, [] => acc
  | acc, u :: us => fa a w env (acc * w.1 + vb a w env u) us
theorem fa_bd {a : List Int} {w : TWorld} {env : List Int} (h1 : 1 ≤ w.1) (h3 : w.1 ≤ 3) : ∀ (us : List (List Int)) (acc : Int) (j : Nat), (∀ u ∈ us, EV a w env u (vb a w env u)) → j + us.length ≤ 3 → 0 ≤ acc → acc < pw w.1 j → 0 ≤ fa a w env acc us ∧ fa a w env acc us < pw w.1 (j + us.length)
  | [], acc, j, _, _, h0, hp => ⟨h0, hp⟩
  | u :: us, acc, j, hu, hj, h0, hp => by
    simp only [List.length_cons] at hj
    have hv := hu u (by simp)
    have hs := acc_step h1 h3 h0 hp (by have := pw_le h1 h3 (k := j) (by omega); omega) hv.1 hv.2.1
    have := fa_bd h1 h3 us (acc * w.1 + vb a w env u) (j + 1) (fun v hv => hu v (by simp [hv])) (by omega) hs.1 hs.2.1
    simp only [fa, List.length_cons]
    rw [show j + (us.length + 1) = j + 1 + us.length by omega]
    exact this

theorem p_eval_loop {a : List Int} {w : TWorld} (h1 : 1 ≤ w.1) (h3 : w.1 ≤ 3) (env T : List Int) (hT : T.length ≤ 1000) (n : Int) (cnt : Nat) (hc : cnt ≤ 3) : ∀ (us : List (List Int)) (i p : Nat) (x : List Int) (acc : Int), (∀ u ∈ us, EV a w env u (vb a w env u)) → i + us.length = cnt → T.drop p = us.flatten ++ x → 0 ≤ acc → acc < pw w.1 i →
    l_impl_Sign_eval_250 M T env (a, ()) w n acc p cnt i = some (.inl (w, n, fa a w env acc us, ((p + us.flatten.length : Nat) : Int), ())) := by
  intro us
  induction us with
  | nil =>
    intro i p x acc _ hi _ _ _
    apply el_impl_Sign_eval_250
    simp at hi
    subst hi
    simp [ql_impl_Sign_eval_250, fa]
  | cons u us ih =>
    intro i p x acc hu hi hd h0 hp
    simp only [List.length_cons] at hi
    simp only [List.flatten_cons, List.append_assoc, List.length_append] at hd ⊢
    have hv := hu u (by simp)
    have hs := acc_step h1 h3 h0 hp (by have := pw_le h1 h3 (k := i) (by omega); omega) hv.1 hv.2.1
    have hl := drop_len hd
    apply el_impl_Sign_eval_250
    simp only [ql_impl_Sign_eval_250]
    rw [if_pos (by simp <;> omega), world_eta, hv.2.2.1 T (us.flatten ++ x) p hT hd]
    simp only [Option.bind_some]
    rw [w64 (x := acc * w.1) (by omega) (by omega), w64 (by have := hv.1; omega) (by have := hv.2.1; omega), inc_nat (by omega), ih (i + 1) (p + u.length) x _ (fun v hv => hu v (by simp [hv])) (by omega) (drop_split hd) hs.1 hs.2.1]
    simp [fa, Nat.add_assoc]

theorem p_l5Eval_loop {a : List Int} {w : TWorld} (h1 : 1 ≤ w.1) (h3 : w.1 ≤ 3) (env T : List Int) (hT : T.length ≤ 1000) (at0 : Int) (P : List Int) (hP : P.length ≤ 3) : ∀ (us : List (List Int)) (i p : Nat) (x : List Int) (acc : Int), (∀ u ∈ us, EV a w env u (vb a w env u)) → i + us.length = P.length → P.drop i = posOf p us → T.drop p = us.flatten ++ x → 0 ≤ acc → acc < pw w.1 i →
    l_spec_l5Eval_122 M T at0 env (a, ()) w acc P P.length i = some (.inl (T, at0, w, fa a w env acc us, ())) := by
  intro us
  induction us with
  | nil =>
    intro i p x acc _ hi _ _ _ _
    apply el_spec_l5Eval_122
    simp at hi
    subst hi
    simp [ql_spec_l5Eval_122, fa]
  | cons u us ih =>
    intro i p x acc hu hi hd hd2 h0 hp
    simp only [List.length_cons] at hi
    simp only [List.flatten_cons, List.append_assoc, List.length_append] at hd2
    have hv := hu u (by simp)
    have hs := acc_step h1 h3 h0 hp (by have := pw_le h1 h3 (k := i) (by omega); omega) hv.1 hv.2.1
    have hi' : i < P.length := by omega
    have hdc := List.drop_eq_getElem_cons hi'
    rw [hd, posOf] at hdc
    obtain ⟨hpp, hdc⟩ := List.cons.inj hdc
    apply el_spec_l5Eval_122
    simp only [ql_spec_l5Eval_122]
    rw [if_pos (by simpa using hi'), if_pos (by omega), Int.toNat_natCast, List.getElem?_eq_getElem hi', ← hpp]
    simp only [Option.bind_some]
    rw [world_eta, hv.2.2.2 T (us.flatten ++ x) p hT hd2]
    simp only [Option.bind_some]
    rw [w64 (x := acc * w.1) (by omega) (by omega), w64 (by have := hv.1; omega) (by have := hv.2.1; omega), inc_nat (by omega), ih (i + 1) (p + u.length) x _ (fun v hv => hu v (by simp [hv])) (by omega) hdc.symm (drop_split hd2) hs.1 hs.2.1]
    simp [fa]

theorem wOK_parts {a : List Int} {w : TWorld} (h : wOK a w = true) : 1 ≤ w.1 ∧ w.1 ≤ 3 ∧ w.2.1.length = a.length ∧ tabOK w.1 a w.2.1 = true := by
  simpa only [wOK, Bool.and_eq_true, decide_eq_true_eq] using h

theorem EV_all {a : List Int} (hg : gS a = true) {w : TWorld} (hw : wOK a w = true) {env : List Int} (he : envOK w.1 env = true) : ∀ (N : Nat) (u : List Int), u.length ≤ N → N ≤ 1000 → Tm a u → ∃ b, EV a w env u b := by
  obtain ⟨h1, h3, hwl, hwt⟩ := wOK_parts hw
  intro N
  induction N with
  | zero => intro u hu _ h; have := h.pos; omega
  | succ N ih =>
    intro u hu hN h
    obtain ⟨n, us, rfl, hb, hl, hk⟩ := h.parts hg
    have hn := ar_ge hg n
    have hb' := hb
    unfold badN at hb'
    simp only [List.length_cons] at hu
    have kid : ∀ v ∈ us, EV a w env v (vb a w env v) := fun v hv => vb_ok (ih v (by
      have : v.length ≤ us.flatten.length := (List.sublist_flatten_of_mem hv).length_le
      omega) (by omega) (hk v hv))
    by_cases h0 : n < 0
    · have h4 : ar a n = 0 := by simp [ar, h0]
      obtain rfl : us = [] := List.eq_nil_of_length_eq_zero (by omega)
      obtain ⟨v, v1, v2, v3⟩ := envOK_get he (-1 - n).toNat (by omega)
      have e1 : IntKind.i64.wrap (-1 - n) = -1 - n := w64 (by omega) (by omega)
      have e2 : idx env (-1 - n) = some v := by
        unfold idx; rw [if_pos (by omega), v1]
      simp only [List.flatten_nil]
      refine ⟨v, v2, v3, ?_, ?_⟩
      · intro T x i hT hd
        have hi : i < T.length := by have := drop_len hd; simp at this; omega
        have hx : T[i] = n := by
          have := List.drop_eq_getElem_cons hi
          rw [hd] at this
          exact (List.cons.inj this).1.symm
        apply e_impl_Sign_eval
        simp only [q_impl_Sign_eval]
        rw [idx_lt hi, hx]
        simp only [Option.bind_some]
        rw [if_pos (by simpa using h0), e1, e2, inc_nat (by omega)]
        simp
      · intro T x i hT hd
        have hi : i < T.length := by have := drop_len hd; simp at this; omega
        have hx : T[i] = n := by
          have := List.drop_eq_getElem_cons hi
          rw [hd] at this
          exact (List.cons.inj this).1.symm
        apply e_spec_l5Eval
        simp only [q_spec_l5Eval]
        rw [idx_lt hi, hx]
        simp only [Option.bind_some]
        rw [if_pos (by simpa using h0), e1, e2]
        simp
    · have hfa := fa_bd (a := a) (env := env) h1 h3 us 0 0 kid (by omega) (by omega) (by simp [pw])
      rw [Nat.zero_add] at hfa
      have hna : n.toNat < a.length := by omega
      have hnt : n.toNat < w.2.1.length := by omega
      have htab := tabOK_get n.toNat hna hnt hwt
      have har : ar a n = a[n.toNat] := by unfold ar; rw [if_neg h0, List.getElem?_eq_getElem hna]; rfl
      rw [← har, ← hl, Int.toNat_natCast] at htab
      have hin : (fa a w env 0 us).toNat < (w.2.1[n.toNat]).length := by omega
      have hel : 0 ≤ (w.2.1[n.toNat])[(fa a w env 0 us).toNat] ∧ (w.2.1[n.toNat])[(fa a w env 0 us).toNat] < w.1 := by
        have h5 := htab.2
        simp only [elOK, List.all_eq_true, Bool.and_eq_true, decide_eq_true_eq] at h5
        exact h5 _ (List.getElem_mem hin)
      have i1 : idx w.2.1 n = some w.2.1[n.toNat] := by unfold idx; rw [if_pos (by omega), List.getElem?_eq_getElem hnt]
      have i2 : idx w.2.1[n.toNat] (fa a w env 0 us) = some (w.2.1[n.toNat])[(fa a w env 0 us).toNat] := by unfold idx; rw [if_pos (by omega), List.getElem?_eq_getElem hin]
      refine ⟨(w.2.1[n.toNat])[(fa a w env 0 us).toNat], hel.1, hel.2, ?_, ?_⟩
      · intro T x i hT hd
        have hi : i < T.length := by have := drop_len hd; simp at this; omega
        have hdc := List.drop_eq_getElem_cons hi
        rw [hd] at hdc
        obtain ⟨hx, hdc⟩ := List.cons.inj hdc
        apply e_impl_Sign_eval
        simp only [q_impl_Sign_eval]
        rw [idx_lt hi, ← hx]
        simp only [Option.bind_some]
        rw [if_neg (by simpa using h0), p_args (a, ()) n hb, inc_nat (by omega)]
        simp only [Option.bind_some]
        rw [← hl]
        have := p_eval_loop (a := a) h1 h3 env T hT n us.length (by omega) us 0 (i + 1) x 0 kid (by omega) hdc.symm (by omega) (by simp [pw])
        rw [show ((0 : Nat) : Int) = 0 from rfl] at this
        rw [world_eta, this]
        simp only [Option.bind_some, Sum.elim_inl]
        rw [i1]
        simp only [Option.bind_some]
        rw [i2]
        simp only [Option.bind_some, List.length_cons]
        congr 4
        omega
      · intro T x i hT hd
        have hi : i < T.length := by have := drop_len hd; simp at this; omega
        have hdc := List.drop_eq_getElem_cons hi
        rw [hd] at hdc
        obtain ⟨hx, hdc⟩ := List.cons.inj hdc
        apply e_spec_l5Eval
        simp only [q_spec_l5Eval]
        rw [idx_lt hi, ← hx]
        simp only [Option.bind_some]
        have hA : c_spec_l1Args M (a, ()) T (i : Int) = some ((posOf (i + 1) us, ()), ()) := by
          apply e_spec_l1Args
          simp only [q_spec_l1Args]
          rw [idx_lt hi, ← hx]
          simp only [Option.bind_some]
          rw [if_neg (by simpa using h0), idx_ar hb h0, inc_nat (by omega)]
          simp only [Option.bind_some]
          have := p_l1Args_loop hg T hT us (i + 1) x [] hk (by omega) hdc.symm (by simp; omega)
          rw [hl] at this
          rw [this]
          simp
        rw [if_neg (by simpa using h0), hA]
        simp only [Option.bind_some]
        have := p_l5Eval_loop (a := a) h1 h3 env T hT i (posOf (i + 1) us) (by rw [posOf_len]; omega) us 0 (i + 1) x 0 kid (by rw [posOf_len]; omega) rfl hdc.symm (by omega) (by simp [pw])
        rw [show ((0 : Nat) : Int) = 0 from rfl] at this
        rw [world_eta, this]
        simp only [Option.bind_some, Sum.elim_inl]
        rw [idx_lt hi, ← hx]
        simp only [Option.bind_some]
        rw [i1]
        simp only [Option.bind_some]
        rw [i2]
        rfl

theorem p_evals (s : TSign) (hg : gS s.1 = true) (w : TWorld) (hw : wOK s.1 w = true) (env : List Int) (he : envOK w.1 env = true) (u : List Int) (hu : isT s.1 u = true) : ∃ v, c_impl_Sign_value M s w u env = some ((v, ()), ()) ∧ c_spec_l5Eval M s w u 0 env = some ((v, ()), ()) := by
  simp only [isT, Bool.and_eq_true, decide_eq_true_eq] at hu
  obtain ⟨v, _, _, v3, v4⟩ := EV_all hg hw he 40 u hu.1 (by omega) hu.2
  have h3 := v3 u [] 0 (by omega) (by simp)
  have h4 := v4 u [] 0 (by omega) (by simp)
  rw [show ((0 : Nat) : Int) = 0 from rfl] at h3 h4
  refine ⟨v, e_impl_Sign_value _ _ _ _ ?_, h4⟩
  rw [sign_eta'] at h3
  simp only [q_impl_Sign_value, sign_eta', world_eta, h3, Option.bind_some]

theorem p_own (l : List Int) (hl : l.length ≤ 1000) : c_spec_l1Own M l = some ((l, ()), ()) := by
  apply e_spec_l1Own
  simp only [q_spec_l1Own, List.length_nil, List.nil_append]
  rw [if_pos (by omega)]

theorem p_isEnv (w : TWorld) (e : List Int) : c_impl_World_isEnv M w e = some ((envOK w.1 e, ()), ()) := by
  apply e_impl_World_isEnv
  simp only [q_impl_World_isEnv, envOK, beq_iff_eq]
  by_cases h : e.length = 12
  · rw [if_pos (by omega), p_areElements w.1 e (by omega), decide_eq_true h]; rfl
  · rw [if_neg (by omega), decide_eq_false h]; rfl

end Go.Proofs.YtkdceefdipljaaaGreatFwo.Ev

/- Plain laws: rows that are searched; rows that rise; variables of terms in rising order. No condition but sizes. -/
namespace Go.Proofs.YtkdceefdipljaaaGreatFwo.Ev
open Go
set_option autoImplicit false
set_option linter.unusedVariables false
set_option linter.unusedSimpArgs false

theorem p_Index_loop (a : List Int) (x : Int) (ha : a.length ≤ 17592186044416) : ∀ k i : Nat, i + k = a.length → ∃ r, l_slices_Index_int_int_26 M a x a.length i = some r ∧ (match r with | .inl _ => x ∉ a.drop i | .inr r => 0 ≤ r.1.1 ∧ x ∈ a.drop i) := by
  intro k
  induction k with
  | zero =>
    intro i hi
    obtain rfl : i = a.length := by omega
    exact ⟨.inl (), el_slices_Index_int_int_26 _ _ _ _ (by simp [ql_slices_Index_int_int_26]), by simp⟩
  | succ k ih =>
    intro i hi
    have h1 : i < a.length := by omega
    obtain ⟨r, hr, hm⟩ := ih (i + 1) (by omega)
    rw [List.drop_eq_getElem_cons h1]
    by_cases hx : x = a[i]
    · refine ⟨.inr (((i : Int), ()), ()), el_slices_Index_int_int_26 _ _ _ _ ?_, Int.natCast_nonneg i, hx ▸ List.mem_cons_self⟩
      simp only [ql_slices_Index_int_int_26]
      rw [if_pos (by simpa using h1), idx_lt h1]
      simp only [Option.bind_some]
      rw [if_pos (by simpa using hx)]
    · refine ⟨r, el_slices_Index_int_int_26 _ _ _ _ ?_, ?_⟩
      · simp only [ql_slices_Index_int_int_26]
        rw [if_pos (by simpa using h1), idx_lt h1]
        simp only [Option.bind_some]
        rw [if_neg (by simpa using hx), inc_nat (by omega)]
        exact hr
      · cases r with
        | inl r => simp only [List.mem_cons, not_or]; exact ⟨hx, hm⟩
        | inr r => exact ⟨hm.1, List.mem_cons_of_mem _ hm.2⟩
theorem p_Contains (a : List Int) (x : Int) (ha : a.length ≤ 17592186044416) : c_slices_Contains_int_int M a x = some ((decide (x ∈ a), ()), ()) := by
  obtain ⟨r, hr, hm⟩ := p_Index_loop a x ha a.length 0 (by omega)
  rw [show ((0 : Nat) : Int) = 0 from rfl] at hr
  rw [List.drop_zero] at hm
  apply e_slices_Contains_int_int
  cases r with
  | inl r =>
    rw [q_slices_Contains_int_int, e_slices_Index_int_int a x (r := ((-1, ()), ())) (by simp only [q_slices_Index_int_int, hr, Option.bind_some, Sum.elim_inl])]
    have : decide (x ∈ a) = false := by simpa using hm
    rw [this]; rfl
  | inr r =>
    rw [q_slices_Contains_int_int, e_slices_Index_int_int a x (r := r) (by simp only [q_slices_Index_int_int, hr, Option.bind_some, Sum.elim_inr])]
    have : decide (x ∈ a) = true := by simpa using hm.2
    rw [this]
    simp [hm.1]

/-- A row that rises. -/
def Up (l : List Int) : Prop := l.Pairwise (· < ·)
theorem Up.ext {l k : List Int} (hl : Up l) (hk : Up k) (h : ∀ x, x ∈ l ↔ x ∈ k) : l = k := by
  induction l generalizing k with
  | nil =>
    cases k with
    | nil => rfl
    | cons y k => exact absurd ((h y).2 (by simp)) (by simp)
  | cons x l ih =>
    cases k with
    | nil => exact absurd ((h x).1 (by simp)) (by simp)
    | cons y k =>
      have hl' := List.pairwise_cons.1 hl
      have hk' := List.pairwise_cons.1 hk
      have hxy : x = y := by
        have a1 := (h x).1 (by simp)
        have a2 := (h y).2 (by simp)
        rcases List.mem_cons.1 a1 with a1 | a1
        · exact a1
        · rcases List.mem_cons.1 a2 with a2 | a2
          · exact a2.symm
          · have := hl'.1 _ a2; have := hk'.1 _ a1; omega
      subst hxy
      rw [ih hl'.2 hk'.2 fun z => ?_]
      constructor
      · intro hz
        rcases List.mem_cons.1 ((h z).1 (by simp [hz])) with e | e
        · have := hl'.1 _ hz; omega
        · exact e
      · intro hz
        rcases List.mem_cons.1 ((h z).2 (by simp [hz])) with e | e
        · have := hk'.1 _ hz; omega
        · exact e
/-- Some of the numbers from 0 to 11, rising. -/
def upTo (p : Int → Bool) : List Int := ((List.range 12).map Int.ofNat).filter p
theorem upTo_up (p : Int → Bool) : Up (upTo p) := by
  unfold Up upTo
  exact List.Pairwise.filter _ (by decide)
theorem mem_upTo {p : Int → Bool} {v : Int} : v ∈ upTo p ↔ 0 ≤ v ∧ v ≤ 11 ∧ p v = true := by
  simp only [upTo, List.mem_filter, List.mem_map, List.mem_range]
  constructor
  · rintro ⟨⟨n, h, rfl⟩, hp⟩
    exact ⟨Int.natCast_nonneg n, by simp only [Int.ofNat_eq_natCast]; omega, hp⟩
  · rintro ⟨h1, h2, hp⟩
    exact ⟨⟨v.toNat, by omega, by simp only [Int.ofNat_eq_natCast]; omega⟩, hp⟩
theorem upTo_len (p : Int → Bool) : (upTo p).length ≤ 12 := by
  unfold upTo
  exact Nat.le_trans (List.length_filter_le _ _) (by simp)
/-- The loop that gathers them. -/
theorem upTo_part (p : Int → Bool) (i : Nat) (hi : i ≤ 12) : ∀ o, o = (((List.range i).map Int.ofNat).filter p) → (i < 12 → ((((List.range (i + 1)).map Int.ofNat).filter p) = if p i = true then o ++ [(i : Int)] else o)) := by
  intro o ho _
  subst ho
  rw [List.range_succ, List.map_append, List.filter_append]
  simp only [List.map_cons, List.map_nil, Int.ofNat_eq_natCast]
  cases h : p i <;> simp [h]

/-- A number put into a rising row. -/
def putN : List Int → Int → List Int
  | [], n => [n]
  | x :: r, n => if x < n then x :: putN r n else if x = n then x :: r else n :: x :: r
theorem mem_putN {l : List Int} {n x : Int} : x ∈ putN l n ↔ x ∈ l ∨ x = n := by
  induction l with
  | nil => simp [putN]
  | cons y r ih =>
    simp only [putN]
    split
    · simp only [List.mem_cons, ih, or_assoc]
    · split
      · rename_i h; subst h
        simp only [List.mem_cons]
        constructor
        · intro h; exact .inl h
        · rintro (h | rfl)
          · exact h
          · exact .inl rfl
      · simp only [List.mem_cons]
        constructor
        · rintro (h | h)
          · exact .inr h
          · exact .inl h
        · rintro (h | h)
          · exact .inr h
          · exact .inl h
theorem up_putN {l : List Int} (h : Up l) (n : Int) : Up (putN l n) := by
  induction l with
  | nil => simp [putN, Up]
  | cons y r ih =>
    have h' := List.pairwise_cons.1 h
    simp only [putN]
    split
    · refine List.pairwise_cons.2 ⟨fun z hz => ?_, ih h'.2⟩
      rcases mem_putN.1 hz with hz | rfl
      · exact h'.1 _ hz
      · assumption
    · split
      · exact h
      · refine List.pairwise_cons.2 ⟨fun z hz => ?_, h⟩
        rcases List.mem_cons.1 hz with rfl | hz
        · omega
        · have := h'.1 _ hz; omega
theorem putN_len (l : List Int) (n : Int) : (putN l n).length ≤ l.length + 1 := by
  induction l with
  | nil => simp [putN]
  | cons y r ih =>
    simp only [putN]
    split
    · simp only [List.length_cons]; omega
    · split <;> simp
theorem putN_split (n : Int) : ∀ (P R : List Int), (∀ x ∈ P, x < n) → (∀ y, R.head? = some y → n ≤ y) → putN (P ++ R) n = if R.head? = some n then P ++ R else P ++ n :: R
  | [], [], _, _ => by simp [putN]
  | [], y :: R, _, h => by
    have := h y rfl
    simp only [List.nil_append, putN, List.head?_cons, Option.some.injEq]
    rw [if_neg (by omega)]
  | x :: P, R, h, h' => by
    have ih := putN_split n P R (fun y hy => h y (by simp [hy])) h'
    simp only [List.cons_append, putN]
    rw [if_pos (h x (by simp)), ih]
    split <;> rfl

theorem p_l1Put_at (l : List Int) (hl : l.length ≤ 1000) (n : Int) : ∀ k i : Nat, i + k = l.length → (∀ x ∈ l.take i, x < n) → ∃ j : Nat, j ≤ l.length ∧ l_spec_l1Put_28 M l n i = some (.inl (l, n, j, ())) ∧ (∀ x ∈ l.take j, x < n) ∧ (∀ y, (l.drop j).head? = some y → n ≤ y) := by
  intro k
  induction k with
  | zero =>
    intro i hi h
    obtain rfl : i = l.length := by omega
    exact ⟨l.length, Nat.le_refl _, el_spec_l1Put_28 _ _ _ (by simp [ql_spec_l1Put_28]), h, by simp⟩
  | succ k ih =>
    intro i hi h
    have h1 : i < l.length := by omega
    by_cases hx : l[i] < n
    · obtain ⟨j, g2, g3, g4⟩ := ih (i + 1) (by omega) (by
        intro x hx'
        rw [List.take_succ_eq_append_getElem h1, List.mem_append] at hx'
        rcases hx' with hx' | hx'
        · exact h x hx'
        · simp at hx'; omega)
      refine ⟨j, g2, el_spec_l1Put_28 _ _ _ ?_, g4⟩
      simp only [ql_spec_l1Put_28]
      rw [if_pos (by simpa using h1), if_pos (by omega), Int.toNat_natCast, List.getElem?_eq_getElem h1]
      simp only [Option.bind_some]
      rw [if_pos (by simpa using hx), inc_nat (by omega)]
      exact g3
    · refine ⟨i, by omega, el_spec_l1Put_28 _ _ _ ?_, h, ?_⟩
      · simp only [ql_spec_l1Put_28]
        rw [if_pos (by simpa using h1), if_pos (by omega), Int.toNat_natCast, List.getElem?_eq_getElem h1]
        simp only [Option.bind_some]
        rw [if_neg (by simpa using hx)]
      · intro y hy
        rw [List.drop_eq_getElem_cons h1] at hy
        simp only [List.head?_cons, Option.some.injEq] at hy; omega
theorem p_putN (l : List Int) (hl : l.length ≤ 1000) (n : Int) : c_spec_l1Put M l n = some ((putN l n, ()), ()) := by
  obtain ⟨j, g2, g3, g4, g5⟩ := p_l1Put_at l hl n l.length 0 (by omega) (by simp)
  rw [show ((0 : Nat) : Int) = 0 from rfl] at g3
  have key := putN_split n (l.take j) (l.drop j) g4 g5
  rw [List.take_append_drop] at key
  apply e_spec_l1Put
  simp only [q_spec_l1Put, g3, Option.bind_some, Sum.elim_inl]
  by_cases h1 : j < l.length
  · have hh : (l.drop j).head? = some l[j] := by rw [List.drop_eq_getElem_cons h1]; rfl
    rw [if_pos (by simpa using h1), if_pos (by omega), Int.toNat_natCast, List.getElem?_eq_getElem h1]
    simp only [Option.bind_some, Int.toNat_natCast, Int.toNat_zero, List.drop_zero, List.nil_append, List.length_nil, List.length_append, List.length_take, List.length_drop, List.length_cons, List.take_length]
    rw [hh] at key
    by_cases h2 : l[j] = n
    · rw [if_pos (by simpa using h2), key, if_pos (by rw [h2])]
    · rw [if_neg (by simpa using h2), if_pos (by omega), if_pos (by omega), if_pos (by omega), if_pos (by omega), if_pos (by omega), key, if_neg (by simpa using h2)]
      simp
  · have hd : l.drop j = [] := List.drop_of_length_le (by omega)
    rw [hd] at key
    rw [if_neg (by simpa using h1)]
    simp only [Option.bind_some, Int.toNat_natCast, Int.toNat_zero, List.drop_zero, List.nil_append, List.length_nil, List.length_append, List.length_take, List.length_drop, List.length_cons, List.take_length]
    rw [if_pos (by omega), if_pos (by omega), if_pos (by omega), if_pos (by omega), if_pos (by omega), key, hd]
    simp
theorem Up.le12 {L : List Int} (h : Up L) (hb : ∀ v ∈ L, 0 ≤ v ∧ v ≤ 11) : L = upTo (fun v => decide (v ∈ L)) := by
  refine Up.ext h (upTo_up _) fun x => ?_
  rw [mem_upTo]
  constructor
  · intro hx; exact ⟨(hb x hx).1, (hb x hx).2, by simpa using hx⟩
  · rintro ⟨_, _, hx⟩; simpa using hx
theorem Up.len12 {L : List Int} (h : Up L) (hb : ∀ v ∈ L, 0 ≤ v ∧ v ≤ 11) : L.length ≤ 12 := by
  rw [h.le12 hb]; exact upTo_len _

theorem foldPut_len : ∀ (vs o : List Int), (vs.foldl putN o).length ≤ o.length + vs.length
  | [], o => by simp
  | v :: vs, o => by
    have h1 := foldPut_len vs (putN o v)
    have h2 := putN_len o v
    simp only [List.foldl_cons, List.length_cons]
    omega
theorem mem_foldPut : ∀ (vs o : List Int) (x : Int), x ∈ vs.foldl putN o ↔ x ∈ o ∨ x ∈ vs
  | [], o, x => by simp
  | v :: vs, o, x => by
    simp only [List.foldl_cons, mem_foldPut vs, mem_putN, List.mem_cons, or_assoc]
theorem up_foldPut : ∀ (vs o : List Int), Up o → Up (vs.foldl putN o)
  | [], o, h => h
  | v :: vs, o, h => up_foldPut vs _ (up_putN h v)
end Go.Proofs.YtkdceefdipljaaaGreatFwo.Ev

/- Plain laws: the variables of some terms, in rising order, as the program gathers them. No condition but sizes. -/
namespace Go.Proofs.YtkdceefdipljaaaGreatFwo.Ev
open Go
set_option autoImplicit false
set_option linter.unusedVariables false
set_option linter.unusedSimpArgs false

theorem p_vi1 (t : List Int) (v : Int) (ht : t.length ≤ 17592186044416) (h0 : -1000 ≤ v) (h1 : v ≤ 1000) : c_impl_varsIn_1 M t v = some ((decide (-1 - v ∈ t), ()), ()) := by
  apply e_impl_varsIn_1
  simp only [q_impl_varsIn_1]
  rw [w64 (x := -1 - v) (by omega) (by omega), p_Contains t _ ht]
  rfl
/-- Whether a variable is in one of some terms. -/
def inV (ts : List (List Int)) (v : Int) : Bool := ts.any fun t => decide (-1 - v ∈ t)
theorem p_viIdx_loop (ts : List (List Int)) (v : Int) (h0 : -1000 ≤ v) (h1 : v ≤ 1000) (hl : ts.length ≤ 17592186044416) (hx : ∀ t ∈ ts, t.length ≤ 17592186044416) : ∀ k i : Nat, i + k = ts.length → ∃ r, l_slices_IndexFunc_SS_int_int__impl_varsIn_1_26 M ts (v, ()) ts.length i = some r ∧ (match r with | .inl _ => inV (ts.drop i) v = false | .inr r => 0 ≤ r.1.1 ∧ inV (ts.drop i) v = true) := by
  intro k
  induction k with
  | zero =>
    intro i hi
    obtain rfl : i = ts.length := by omega
    exact ⟨.inl (), el_slices_IndexFunc_SS_int_int__impl_varsIn_1_26 _ _ _ _ (by simp [ql_slices_IndexFunc_SS_int_int__impl_varsIn_1_26]), by simp [inV]⟩
  | succ k ih =>
    intro i hi
    have h2 : i < ts.length := by omega
    obtain ⟨r, hr, hm⟩ := ih (i + 1) (by omega)
    rw [List.drop_eq_getElem_cons h2]
    have hc := p_vi1 ts[i] v (hx _ (List.getElem_mem h2)) h0 h1
    cases hp : decide (-1 - v ∈ ts[i]) with
    | false =>
      refine ⟨r, el_slices_IndexFunc_SS_int_int__impl_varsIn_1_26 _ _ _ _ ?_, ?_⟩
      · simp only [ql_slices_IndexFunc_SS_int_int__impl_varsIn_1_26]
        rw [if_pos (by simpa using h2), idx_lt h2]
        simp only [Option.bind_some, hc, hp, Bool.false_eq_true, if_false]
        rw [inc_nat (by omega)]
        exact hr
      · cases r with
        | inl r => simp only [inV, List.any_cons, hp, Bool.false_or]; exact hm
        | inr r => simp only [inV, List.any_cons, hp, Bool.false_or]; exact hm
    | true =>
      refine ⟨.inr (((i : Int), ()), ()), el_slices_IndexFunc_SS_int_int__impl_varsIn_1_26 _ _ _ _ ?_, Int.natCast_nonneg i, ?_⟩
      · simp only [ql_slices_IndexFunc_SS_int_int__impl_varsIn_1_26]
        rw [if_pos (by simpa using h2), idx_lt h2]
        simp only [Option.bind_some, hc, hp, if_true]
      · simp only [inV, List.any_cons, hp, Bool.true_or]
theorem p_viContains (ts : List (List Int)) (v : Int) (h0 : -1000 ≤ v) (h1 : v ≤ 1000) (hl : ts.length ≤ 17592186044416) (hx : ∀ t ∈ ts, t.length ≤ 17592186044416) : c_slices_ContainsFunc_SS_int_int__impl_varsIn_1 M ts (v, ()) = some ((inV ts v, ()), ()) := by
  obtain ⟨r, hr, hm⟩ := p_viIdx_loop ts v h0 h1 hl hx ts.length 0 (by omega)
  rw [show ((0 : Nat) : Int) = 0 from rfl] at hr
  rw [List.drop_zero] at hm
  apply e_slices_ContainsFunc_SS_int_int__impl_varsIn_1
  cases r with
  | inl r =>
    rw [q_slices_ContainsFunc_SS_int_int__impl_varsIn_1, e_slices_IndexFunc_SS_int_int__impl_varsIn_1 ts (v, ()) (r := ((-1, ()), ())) (by simp only [q_slices_IndexFunc_SS_int_int__impl_varsIn_1, hr, Option.bind_some, Sum.elim_inl])]
    simp only at hm
    simp [hm]
  | inr r =>
    rw [q_slices_ContainsFunc_SS_int_int__impl_varsIn_1, e_slices_IndexFunc_SS_int_int__impl_varsIn_1 ts (v, ()) (r := r) (by simp only [q_slices_IndexFunc_SS_int_int__impl_varsIn_1, hr, Option.bind_some, Sum.elim_inr])]
    simp only at hm
    simp [hm]
theorem p_varsIn_loop (ts : List (List Int)) (hl : ts.length ≤ 17592186044416) (hx : ∀ t ∈ ts, t.length ≤ 17592186044416) : ∀ k i : Nat, i + k = 12 → ∀ o : List Int, o = ((List.range i).map Int.ofNat).filter (inV ts) → l_impl_varsIn_58 M ts o i = some (.inl (upTo (inV ts), ())) := by
  intro k
  induction k with
  | zero =>
    intro i hi o ho
    obtain rfl : i = 12 := by omega
    subst ho
    exact el_impl_varsIn_58 _ _ _ (by simp [ql_impl_varsIn_58, upTo])
  | succ k ih =>
    intro i hi o ho
    have hp := upTo_part (inV ts) i (by omega) o ho (by omega)
    have hol : o.length ≤ 12 := by rw [ho]; exact Nat.le_trans (List.length_filter_le _ _) (by simp; omega)
    apply el_impl_varsIn_58
    simp only [ql_impl_varsIn_58]
    rw [if_pos (by simp; omega), p_viContains ts i (by omega) (by omega) hl hx]
    simp only [Option.bind_some]
    cases hv : inV ts (i : Int) with
    | true =>
      rw [hv, if_pos rfl] at hp
      rw [if_pos rfl, if_pos (by simp; omega)]
      simp only [Option.bind_some, Sum.elim_inl]
      rw [inc_nat (by omega)]
      exact ih (i + 1) (by omega) _ hp.symm
    | false =>
      rw [hv, if_neg (by simp)] at hp
      rw [if_neg (by simp)]
      simp only [Option.bind_some, Sum.elim_inl]
      rw [inc_nat (by omega)]
      exact ih (i + 1) (by omega) _ hp.symm
theorem p_varsIn (ts : List (List Int)) (hl : ts.length ≤ 17592186044416) (hx : ∀ t ∈ ts, t.length ≤ 17592186044416) : c_impl_varsIn M ts = some ((upTo (inV ts), ()), ()) := by
  apply e_impl_varsIn
  simp only [q_impl_varsIn]
  have := p_varsIn_loop ts hl hx 12 0 (by omega) [] (by simp)
  rw [show ((0 : Nat) : Int) = 0 from rfl] at this
  rw [this]
  rfl
end Go.Proofs.YtkdceefdipljaaaGreatFwo.Ev

/- Plain laws: what a term's numbers lie between. No condition. -/
namespace Go.Proofs.YtkdceefdipljaaaGreatFwo.Ev
open Go
set_option autoImplicit false
set_option linter.unusedVariables false
set_option linter.unusedSimpArgs false

theorem sE_rng {a : List Int} : ∀ (t : List Int) (k : Int), sE a k t = some [] → ∀ n ∈ t, -12 ≤ n ∧ n < a.length := by
  intro t
  induction t with
  | nil => intro k _ n hn; cases hn
  | cons m t ih =>
    intro k h n hn
    simp only [sE] at h
    split at h
    · cases h
    · split at h
      · cases h
      · rename_i hb
        unfold badN at hb
        rcases List.mem_cons.1 hn with rfl | hn
        · omega
        · exact ih _ h n hn
theorem isT_rng {a t : List Int} (h : isT a t = true) : t.length ≤ 40 ∧ ∀ n ∈ t, -12 ≤ n ∧ n < a.length := by
  simp only [isT, Bool.and_eq_true, decide_eq_true_eq] at h
  exact ⟨h.1, sE_rng t 1 h.2⟩
end Go.Proofs.YtkdceefdipljaaaGreatFwo.Ev

/- Plain laws: both programs tell the same clauses. No condition but sizes. -/
namespace Go.Proofs.YtkdceefdipljaaaGreatFwo.Ev
open Go
set_option autoImplicit false
set_option linter.unusedVariables false
set_option linter.unusedSimpArgs false

def litOK (a : List Int) (x : TLit) : Bool := isT a x.2.1 && isT a x.2.2.1

def clOK (a : List Int) (c : List TLit) : Bool := decide (c.length ≤ 8) && c.all (litOK a)

theorem p_l4Lit (s : TSign) (hg : gS s.1 = true) (x : TLit) (h : smL x) : c_spec_l4Lit M s x = some ((litOK s.1 x, ()), ()) := by
  apply e_spec_l4Lit
  simp only [q_spec_l4Lit, sign_eta, p_l1Term s hg x.2.1 h.1, p_l1Term s hg x.2.2.1 h.2, Option.bind_some, litOK]
  cases isT s.1 x.2.1 <;> simp

theorem p_isLit (s : TSign) (hg : gS s.1 = true) (x : TLit) : c_impl_Sign_isLit M s x = some ((litOK s.1 x, ()), ()) := by
  apply e_impl_Sign_isLit
  simp only [q_impl_Sign_isLit, sign_eta, p_isTerm s hg x.2.1, p_isTerm s hg x.2.2.1, Option.bind_some, litOK]
  cases isT s.1 x.2.1 <;> simp

theorem p_l4Clause_loop (s : TSign) (hg : gS s.1 = true) (a : List TLit) (ha : a.length ≤ 1048576) (hx : ∀ x ∈ a, smL x) : ∀ k i : Nat, i + k = a.length → l_spec_l4Clause_26 M a s a a.length i = some (if (a.drop i).all (litOK s.1) = true then .inl (a, ()) else .inr ((false, ()), ())) := by
  intro k
  induction k with
  | zero =>
    intro i hi
    obtain rfl : i = a.length := by omega
    apply el_spec_l4Clause_26
    simp [ql_spec_l4Clause_26]
  | succ k ih =>
    intro i hi
    apply el_spec_l4Clause_26
    have h1 : i < a.length := by omega
    simp only [ql_spec_l4Clause_26]
    rw [if_pos (by simpa using h1), idx_lt h1, inc_nat (by omega)]
    simp only [Option.bind_some, sign_eta, lit_eta, p_l4Lit s hg a[i] (hx _ (List.getElem_mem h1)), ih (i + 1) (by omega)]
    rw [List.drop_eq_getElem_cons h1, List.all_cons]
    generalize litOK s.1 a[i] = b
    cases b <;> rfl

theorem p_l4Clause (s : TSign) (hg : gS s.1 = true) (a : List TLit) (ha : a.length ≤ 1048576) (hx : ∀ x ∈ a, smL x) : c_spec_l4Clause M s a = some ((clOK s.1 a, ()), ()) := by
  apply e_spec_l4Clause
  simp only [q_spec_l4Clause, sign_eta]
  have := p_l4Clause_loop s hg a ha hx a.length 0 (by omega)
  rw [show ((0 : Nat) : Int) = 0 from rfl] at this
  rw [this, List.drop_zero, clOK]
  cases a.all (litOK s.1)
  · simp
  · simp; omega

theorem p_isClause1 (s : TSign) (hg : gS s.1 = true) (x : TLit) : c_impl_Sign_isClause_1 M x s = some ((!litOK s.1 x, ()), ()) := by
  apply e_impl_Sign_isClause_1
  simp only [q_impl_Sign_isClause_1, sign_eta, lit_eta, p_isLit s hg x, Option.bind_some]

theorem p_clIdx_loop (s : TSign) (hg : gS s.1 = true) (a : List TLit) (ha : a.length ≤ 1048576) : ∀ k i : Nat, i + k = a.length → ∃ r, l_slices_IndexFunc_impl_Lit_impl_Lit__impl_Sign_isClause_1_26 M a (s, ()) a.length i = some r ∧ (match r with | .inl _ => (a.drop i).all (litOK s.1) = true | .inr r => 0 ≤ r.1.1 ∧ (a.drop i).all (litOK s.1) = false) := by
  intro k
  induction k with
  | zero =>
    intro i hi
    obtain rfl : i = a.length := by omega
    refine ⟨.inl (), el_slices_IndexFunc_impl_Lit_impl_Lit__impl_Sign_isClause_1_26 _ _ _ _ (by simp [ql_slices_IndexFunc_impl_Lit_impl_Lit__impl_Sign_isClause_1_26]), by simp⟩
  | succ k ih =>
    intro i hi
    have h1 : i < a.length := by omega
    obtain ⟨r, hr, hm⟩ := ih (i + 1) (by omega)
    rw [List.drop_eq_getElem_cons h1, List.all_cons]
    by_cases hp : litOK s.1 a[i] = true
    · refine ⟨r, el_slices_IndexFunc_impl_Lit_impl_Lit__impl_Sign_isClause_1_26 _ _ _ _ ?_, by rw [hp, Bool.true_and]; exact hm⟩
      simp only [ql_slices_IndexFunc_impl_Lit_impl_Lit__impl_Sign_isClause_1_26]
      rw [if_pos (by simpa using h1), idx_lt h1, inc_nat (by omega)]
      simp only [Option.bind_some, lit_eta, p_isClause1 s hg, hp, Bool.not_true, Bool.false_eq_true, if_false]
      exact hr
    · rw [Bool.not_eq_true] at hp
      refine ⟨.inr (((i : Int), ()), ()), el_slices_IndexFunc_impl_Lit_impl_Lit__impl_Sign_isClause_1_26 _ _ _ _ ?_, Int.natCast_nonneg i, by rw [hp, Bool.false_and]⟩
      simp only [ql_slices_IndexFunc_impl_Lit_impl_Lit__impl_Sign_isClause_1_26]
      rw [if_pos (by simpa using h1), idx_lt h1]
      simp only [Option.bind_some, lit_eta, p_isClause1 s hg, hp, Bool.not_false, if_true]

theorem p_clContains (s : TSign) (hg : gS s.1 = true) (a : List TLit) (ha : a.length ≤ 1048576) : c_slices_ContainsFunc_impl_Lit_impl_Lit__impl_Sign_isClause_1 M a (s, ()) = some ((!(a.all (litOK s.1)), ()), ()) := by
  apply e_slices_ContainsFunc_impl_Lit_impl_Lit__impl_Sign_isClause_1
  simp only [q_slices_ContainsFunc_impl_Lit_impl_Lit__impl_Sign_isClause_1]
  obtain ⟨r, hr, hm⟩ := p_clIdx_loop s hg a ha a.length 0 (by omega)
  rw [show ((0 : Nat) : Int) = 0 from rfl] at hr
  rw [List.drop_zero] at hm
  cases r with
  | inl r =>
    rw [e_slices_IndexFunc_impl_Lit_impl_Lit__impl_Sign_isClause_1 a (s, ()) (r := ((-1, ()), ())) (by simp only [q_slices_IndexFunc_impl_Lit_impl_Lit__impl_Sign_isClause_1, hr, Option.bind_some, Sum.elim_inl])]
    simp only at hm
    simp [hm]
  | inr r =>
    rw [e_slices_IndexFunc_impl_Lit_impl_Lit__impl_Sign_isClause_1 a (s, ()) (r := r) (by simp only [q_slices_IndexFunc_impl_Lit_impl_Lit__impl_Sign_isClause_1, hr, Option.bind_some, Sum.elim_inr])]
    simp only at hm
    simp [hm]

theorem p_isClause (s : TSign) (hg : gS s.1 = true) (a : List TLit) (ha : a.length ≤ 1048576) : c_impl_Sign_isClause M s a = some ((clOK s.1 a, ()), ()) := by
  apply e_impl_Sign_isClause
  simp only [q_impl_Sign_isClause, sign_eta, p_clContains s hg a ha, Option.bind_some, clOK]
  by_cases h : a.length ≤ 8
  · rw [if_pos (by simp; omega)]; simp [h]
  · rw [if_neg (by simp; omega)]; simp [h]

end Go.Proofs.YtkdceefdipljaaaGreatFwo.Ev

/- Plain laws: the terms of a clause, as the program lists them. No condition but sizes. -/
namespace Go.Proofs.YtkdceefdipljaaaGreatFwo.Ev
open Go
set_option autoImplicit false
set_option linter.unusedVariables false
set_option linter.unusedSimpArgs false

/-- The terms of a clause, literal by literal. -/
def tms (c : List TLit) : List (List Int) := c.flatMap fun x => [x.2.1, x.2.2.1]
theorem tms_len (c : List TLit) : (tms c).length = 2 * c.length := by
  induction c with
  | nil => rfl
  | cons x r ih =>
    have : tms (x :: r) = [x.2.1, x.2.2.1] ++ tms r := rfl
    rw [this, List.length_append, ih]; simp; omega
theorem mem_tms {c : List TLit} {t : List Int} : t ∈ tms c ↔ ∃ x ∈ c, t = x.2.1 ∨ t = x.2.2.1 := by
  simp [tms]
theorem p_termsOf_loop (c : List TLit) (hc : c.length ≤ 1048576) : ∀ k i : Nat, i + k = c.length → ∀ o : List (List Int), o.length ≤ 2 * i → l_impl_termsOf_58 M o c c.length i = some (.inl (o ++ tms (c.drop i), ())) := by
  intro k
  induction k with
  | zero =>
    intro i hi o ho
    obtain rfl : i = c.length := by omega
    exact el_impl_termsOf_58 _ _ _ _ (by simp [ql_impl_termsOf_58, tms])
  | succ k ih =>
    intro i hi o ho
    have h1 : i < c.length := by omega
    apply el_impl_termsOf_58
    simp only [ql_impl_termsOf_58]
    rw [if_pos (by simpa using h1), idx_lt h1]
    simp only [Option.bind_some]
    rw [if_pos (by simp; omega), inc_nat (by omega), ih (i + 1) (by omega) _ (by simp; omega), List.drop_eq_getElem_cons h1]
    have : tms (c[i] :: c.drop (i + 1)) = [c[i].2.1, c[i].2.2.1] ++ tms (c.drop (i + 1)) := rfl
    rw [this, List.append_assoc]
theorem p_termsOf (c : List TLit) (hc : c.length ≤ 1048576) : c_impl_termsOf M c = some ((tms c, ()), ()) := by
  apply e_impl_termsOf
  have := p_termsOf_loop c hc c.length 0 (by omega) [] (by simp)
  rw [show ((0 : Nat) : Int) = 0 from rfl] at this
  simp only [q_impl_termsOf, this, Option.bind_some, Sum.elim_inl, List.nil_append, List.drop_zero]

end Go.Proofs.YtkdceefdipljaaaGreatFwo.Ev

/- Plain laws: the variables of a clause, by both programs. No condition but sizes. -/
namespace Go.Proofs.YtkdceefdipljaaaGreatFwo.Ev
open Go
set_option autoImplicit false
set_option linter.unusedVariables false
set_option linter.unusedSimpArgs false

/-! ### The variables of a clause, by the reference -/
def negs (t : List Int) : List Int := (t.filter fun n => decide (n < 0)).map fun n => -1 - n
theorem negs_neg {x : Int} (h : x < 0) (r : List Int) : negs (x :: r) = (-1 - x) :: negs r := by simp [negs, h]
theorem negs_pos {x : Int} (h : ¬ x < 0) (r : List Int) : negs (x :: r) = negs r := by simp [negs, h]
theorem negs_len (t : List Int) : (negs t).length ≤ t.length := by simp only [negs, List.length_map]; exact List.length_filter_le _ _
theorem mem_negs {t : List Int} {v : Int} : v ∈ negs t ↔ 0 ≤ v ∧ -1 - v ∈ t := by
  simp only [negs, List.mem_map, List.mem_filter, decide_eq_true_eq]
  constructor
  · rintro ⟨n, ⟨h1, h2⟩, rfl⟩
    exact ⟨by omega, by rw [show -1 - (-1 - n) = n by omega]; exact h1⟩
  · rintro ⟨h1, h2⟩
    exact ⟨-1 - v, ⟨h2, by omega⟩, by omega⟩
theorem p_l1VarsN_loop (t : List Int) (ht : t.length ≤ 400) (hw : ∀ n ∈ t, -1000 ≤ n) : ∀ k i : Nat, i + k = t.length → ∀ o : List Int, o.length ≤ i → l_spec_l1Vars_58 M o t t.length i = some (.inl ((negs (t.drop i)).foldl putN o, ())) := by
  intro k
  induction k with
  | zero =>
    intro i hi o ho
    obtain rfl : i = t.length := by omega
    exact el_spec_l1Vars_58 _ _ _ _ (by simp [ql_spec_l1Vars_58, negs])
  | succ k ih =>
    intro i hi o ho
    have h1 : i < t.length := by omega
    have hn := hw _ (List.getElem_mem h1)
    apply el_spec_l1Vars_58
    simp only [ql_spec_l1Vars_58]
    rw [if_pos (by simpa using h1), idx_lt h1, List.drop_eq_getElem_cons h1]
    simp only [Option.bind_some]
    by_cases hx : t[i] < 0
    · have hl := putN_len o (-1 - t[i])
      rw [if_pos (by simpa using hx), w64 (x := -1 - t[i]) (by omega) (by omega), p_putN o (by omega)]
      simp only [Option.bind_some, Sum.elim_inl]
      rw [inc_nat (by omega), ih (i + 1) (by omega) _ (by omega)]
      rw [negs_neg hx]
      rfl
    · rw [if_neg (by simpa using hx)]
      simp only [Option.bind_some, Sum.elim_inl]
      rw [inc_nat (by omega), ih (i + 1) (by omega) _ (by omega)]
      rw [negs_pos hx]
theorem p_l1VarsN (t : List Int) (ht : t.length ≤ 400) (hw : ∀ n ∈ t, -1000 ≤ n) : c_spec_l1Vars M t = some (((negs t).foldl putN [], ()), ()) := by
  apply e_spec_l1Vars
  have := p_l1VarsN_loop t ht hw t.length 0 (by omega) [] (by simp)
  rw [show ((0 : Nat) : Int) = 0 from rfl] at this
  simp only [q_spec_l1Vars, this, Option.bind_some, Sum.elim_inl, List.drop_zero]

/-- What is put for one literal. -/
def lvs (x : TLit) : List Int := (negs x.2.1).foldl putN [] ++ (negs x.2.2.1).foldl putN []
theorem mem_lvs {x : TLit} {v : Int} : v ∈ lvs x ↔ 0 ≤ v ∧ (-1 - v ∈ x.2.1 ∨ -1 - v ∈ x.2.2.1) := by
  simp only [lvs, List.mem_append, mem_foldPut, List.not_mem_nil, false_or, mem_negs]
  constructor
  · rintro (⟨h1, h2⟩ | ⟨h1, h2⟩)
    · exact ⟨h1, .inl h2⟩
    · exact ⟨h1, .inr h2⟩
  · rintro ⟨h1, h2 | h2⟩
    · exact .inl ⟨h1, h2⟩
    · exact .inr ⟨h1, h2⟩
theorem p_l4Vars_in (c : List TLit) (n j : Int) (vs : List Int) (hl : vs.length ≤ 500) : ∀ k i : Nat, i + k = vs.length → ∀ o : List Int, o.length ≤ 400 + i → l_spec_l4Vars_14950 M o c n j vs vs.length i = some (.inl ((vs.drop i).foldl putN o, c, n, j, ())) := by
  intro k
  induction k with
  | zero =>
    intro i hi o ho
    obtain rfl : i = vs.length := by omega
    exact el_spec_l4Vars_14950 _ _ _ _ _ _ _ (by simp [ql_spec_l4Vars_14950])
  | succ k ih =>
    intro i hi o ho
    have h1 : i < vs.length := by omega
    apply el_spec_l4Vars_14950
    simp only [ql_spec_l4Vars_14950]
    rw [if_pos (by simpa using h1), if_pos (by omega), Int.toNat_natCast, List.getElem?_eq_getElem h1]
    simp only [Option.bind_some, p_putN o (by omega)]
    have := putN_len o vs[i]
    rw [inc_nat (by omega), ih (i + 1) (by omega) _ (by omega), List.drop_eq_getElem_cons h1]
    rfl
/-- A literal whose terms are short and whose variables are few. -/
def liV (x : TLit) : Prop := x.2.1.length ≤ 40 ∧ x.2.2.1.length ≤ 40 ∧ (∀ n ∈ x.2.1, -12 ≤ n) ∧ ∀ n ∈ x.2.2.1, -12 ≤ n
theorem foldv (c : List TLit) (hc : ∀ x ∈ c, liV x) : ∀ o : List Int, Up o → (∀ v ∈ o, 0 ≤ v ∧ v ≤ 11) → Up (c.foldl (fun o x => (lvs x).foldl putN o) o) ∧ (∀ v ∈ c.foldl (fun o x => (lvs x).foldl putN o) o, 0 ≤ v ∧ v ≤ 11) ∧ ∀ v, v ∈ c.foldl (fun o x => (lvs x).foldl putN o) o ↔ v ∈ o ∨ ∃ x ∈ c, v ∈ lvs x := by
  induction c with
  | nil => intro o h1 h2; exact ⟨h1, h2, by simp⟩
  | cons x r ih =>
    intro o h1 h2
    have hx := hc x (by simp)
    have hb : ∀ v ∈ (lvs x).foldl putN o, 0 ≤ v ∧ v ≤ 11 := by
      intro v hv
      rcases (mem_foldPut _ _ _).1 hv with h | h
      · exact h2 v h
      · obtain ⟨a1, a2⟩ := mem_lvs.1 h
        rcases a2 with a2 | a2
        · have := hx.2.2.1 _ a2; omega
        · have := hx.2.2.2 _ a2; omega
    obtain ⟨g1, g2, g3⟩ := ih (fun y hy => hc y (by simp [hy])) _ (up_foldPut (lvs x) o h1) hb
    refine ⟨g1, g2, fun v => ?_⟩
    rw [List.foldl_cons, g3 v, mem_foldPut]
    simp only [List.mem_cons, exists_eq_or_imp, or_assoc]
theorem p_l4Vars_loop (c : List TLit) (hl : c.length ≤ 1000) (hc : ∀ x ∈ c, liV x) : ∀ k i : Nat, i + k = c.length → ∀ o : List Int, Up o → (∀ v ∈ o, 0 ≤ v ∧ v ≤ 11) → l_spec_l4Vars_58 M o c c.length i = some (.inl ((c.drop i).foldl (fun o x => (lvs x).foldl putN o) o, ())) := by
  intro k
  induction k with
  | zero =>
    intro i hi o ho hb
    obtain rfl : i = c.length := by omega
    exact el_spec_l4Vars_58 _ _ _ _ (by simp [ql_spec_l4Vars_58])
  | succ k ih =>
    intro i hi o ho hb
    have h1 : i < c.length := by omega
    have hx := hc _ (List.getElem_mem h1)
    have l1 := negs_len c[i].2.1
    have l2 := negs_len c[i].2.2.1
    have l3 := foldPut_len (negs c[i].2.1) []
    have l4 := foldPut_len (negs c[i].2.2.1) []
    have x1 := hx.1
    have x2 := hx.2.1
    simp only [List.length_nil] at l3 l4
    have ol := ho.len12 hb
    have step := foldv [c[i]] (by intro y hy; simp at hy; subst hy; exact hx) o ho hb
    simp only [List.foldl_cons, List.foldl_nil] at step
    apply el_spec_l4Vars_58
    simp only [ql_spec_l4Vars_58]
    rw [if_pos (by simpa using h1), idx_lt h1]
    simp only [Option.bind_some]
    rw [p_l1VarsN _ (by omega) (fun n hn => by have := hx.2.2.1 n hn; omega)]
    simp only [Option.bind_some]
    rw [p_l1VarsN _ (by omega) (fun n hn => by have := hx.2.2.2 n hn; omega)]
    simp only [Option.bind_some]
    rw [if_pos (by omega)]
    have hin := p_l4Vars_in c c.length i (lvs c[i]) (by simp only [lvs, List.length_append]; omega) (lvs c[i]).length 0 (by omega) o (by omega)
    rw [show ((0 : Nat) : Int) = 0 from rfl, List.drop_zero] at hin
    have hin' : l_spec_l4Vars_14950 M o c c.length i ((negs c[i].2.1).foldl putN [] ++ (negs c[i].2.2.1).foldl putN []) ((negs c[i].2.1).foldl putN [] ++ (negs c[i].2.2.1).foldl putN []).length 0 = some (.inl ((lvs c[i]).foldl putN o, c, c.length, i, ())) := hin
    rw [hin']
    simp only [Option.bind_some, Sum.elim_inl]
    rw [inc_nat (by omega), ih (i + 1) (by omega) _ step.1 step.2.1, List.drop_eq_getElem_cons h1]
    rfl
/-- The variables of a clause are the same by both programs. -/
theorem p_l4Vars (c : List TLit) (hl : c.length ≤ 1000) (hc : ∀ x ∈ c, liV x) : c_spec_l4Vars M c = some ((upTo (inV (tms c)), ()), ()) := by
  apply e_spec_l4Vars
  have := p_l4Vars_loop c hl hc c.length 0 (by omega) [] List.Pairwise.nil (by simp)
  rw [show ((0 : Nat) : Int) = 0 from rfl] at this
  simp only [q_spec_l4Vars, this, Option.bind_some, Sum.elim_inl, List.drop_zero]
  obtain ⟨g1, g2, g3⟩ := foldv c hc [] List.Pairwise.nil (by simp)
  congr 3
  refine Up.ext g1 (upTo_up _) fun v => ?_
  rw [g3 v, mem_upTo]
  simp only [List.not_mem_nil, false_or, mem_lvs, inV, List.any_eq_true, decide_eq_true_eq]
  constructor
  · rintro ⟨x, hx, h0, h⟩
    have hh := hc x hx
    refine ⟨h0, ?_, ?_⟩
    · rcases h with h | h
      · have := hh.2.2.1 _ h; omega
      · have := hh.2.2.2 _ h; omega
    · rcases h with h | h
      · exact ⟨_, mem_tms.2 ⟨x, hx, .inl rfl⟩, h⟩
      · exact ⟨_, mem_tms.2 ⟨x, hx, .inr rfl⟩, h⟩
  · rintro ⟨h0, _, t, ht, h⟩
    obtain ⟨x, hx, h1⟩ := mem_tms.1 ht
    rcases h1 with rfl | rfl
    · exact ⟨x, hx, h0, .inl h⟩
    · exact ⟨x, hx, h0, .inr h⟩

theorem clOK_liV {a : List Int} {c : List TLit} (h : clOK a c = true) : c.length ≤ 8 ∧ ∀ x ∈ c, liV x := by
  simp only [clOK, Bool.and_eq_true, decide_eq_true_eq] at h
  refine ⟨h.1, fun x hx => ?_⟩
  have := (List.all_eq_true.1 h.2) x hx
  simp only [litOK, Bool.and_eq_true] at this
  obtain ⟨l1, l2⟩ := isT_rng this.1
  obtain ⟨r1, r2⟩ := isT_rng this.2
  exact ⟨l1, r1, fun n hn => (l2 n hn).1, fun n hn => (r2 n hn).1⟩
end Go.Proofs.YtkdceefdipljaaaGreatFwo.Ev

/- Plain laws: whether a clause holds with an assignment, by both programs; the least assignment with which it does not. No condition but sizes. -/
namespace Go.Proofs.YtkdceefdipljaaaGreatFwo.Ev
open Go
set_option autoImplicit false
set_option linter.unusedVariables false
set_option linter.unusedSimpArgs false

theorem lit_etaW (x : TLit) : (x.1, x.2.1, x.2.2.1, ()) = x := rfl
/-- The value of a term. -/
noncomputable def val (s : TSign) (w : TWorld) (env u : List Int) : Int := match c_impl_Sign_value M s w u env with
  | some r => r.1.1
  | none => 0
noncomputable def lh (s : TSign) (w : TWorld) (env : List Int) (x : TLit) : Bool := (val s w env x.2.1 == val s w env x.2.2.1) == x.1
/-- Whether a clause holds. -/
noncomputable def hl (s : TSign) (w : TWorld) (c : List TLit) (env : List Int) : Bool := c.any (lh s w env)
section
variable (s : TSign) (hg : gS s.1 = true) (w : TWorld) (hw : wOK s.1 w = true)
include hg hw
theorem p_val (env : List Int) (he : envOK w.1 env = true) (u : List Int) (hu : isT s.1 u = true) : c_impl_Sign_value M s w u env = some ((val s w env u, ()), ()) ∧ c_spec_l5Eval M s w u 0 env = some ((val s w env u, ()), ()) := by
  obtain ⟨v, h1, h2⟩ := p_evals s hg w hw env he u hu
  have : val s w env u = v := by unfold val; rw [h1]
  rw [this]; exact ⟨h1, h2⟩
theorem p_ha1 (env : List Int) (he : envOK w.1 env = true) (x : TLit) (hx : litOK s.1 x = true) : c_impl_Sign_holdsAt_1 M x s w env = some ((lh s w env x, ()), ()) := by
  simp only [litOK, Bool.and_eq_true] at hx
  apply e_impl_Sign_holdsAt_1
  simp only [q_impl_Sign_holdsAt_1, sign_eta', world_eta, (p_val s hg w hw env he _ hx.1).1, (p_val s hg w hw env he _ hx.2).1, Option.bind_some, lh]
end
theorem p_haIdx_loop (s : TSign) (hg : gS s.1 = true) (w : TWorld) (hw : wOK s.1 w = true) (env : List Int) (he : envOK w.1 env = true) (a : List TLit) (ha : a.length ≤ 17592186044416) (hx : ∀ x ∈ a, litOK s.1 x = true) : ∀ k i : Nat, i + k = a.length → ∃ r, l_slices_IndexFunc_impl_Lit_impl_Lit__impl_Sign_holdsAt_1_26 M a (s, w, env, ()) a.length i = some r ∧ (match r with | .inl _ => (a.drop i).any (lh s w env) = false | .inr r => 0 ≤ r.1.1 ∧ (a.drop i).any (lh s w env) = true) := by
  intro k
  induction k with
  | zero =>
    intro i hi
    obtain rfl : i = a.length := by omega
    refine ⟨.inl (), el_slices_IndexFunc_impl_Lit_impl_Lit__impl_Sign_holdsAt_1_26 _ _ _ _ (by simp [ql_slices_IndexFunc_impl_Lit_impl_Lit__impl_Sign_holdsAt_1_26]), by simp⟩
  | succ k ih =>
    intro i hi
    have h1 : i < a.length := by omega
    have hox := hx _ (List.getElem_mem h1)
    obtain ⟨r, hr, hm⟩ := ih (i + 1) (by omega)
    rw [List.drop_eq_getElem_cons h1, List.any_cons]
    by_cases hp : (lh s w env) a[i] = true
    · refine ⟨.inr (((i : Int), ()), ()), el_slices_IndexFunc_impl_Lit_impl_Lit__impl_Sign_holdsAt_1_26 _ _ _ _ ?_, Int.natCast_nonneg i, by rw [hp, Bool.true_or]⟩
      simp only [ql_slices_IndexFunc_impl_Lit_impl_Lit__impl_Sign_holdsAt_1_26]
      rw [if_pos (by simpa using h1), idx_lt h1]
      simp only [Option.bind_some, lit_etaW, p_ha1 s hg w hw env he _ hox, hp, if_true]
    · rw [Bool.not_eq_true] at hp
      refine ⟨r, el_slices_IndexFunc_impl_Lit_impl_Lit__impl_Sign_holdsAt_1_26 _ _ _ _ ?_, by rw [hp, Bool.false_or]; exact hm⟩
      simp only [ql_slices_IndexFunc_impl_Lit_impl_Lit__impl_Sign_holdsAt_1_26]
      rw [if_pos (by simpa using h1), idx_lt h1, inc_nat (by omega)]
      simp only [Option.bind_some, lit_etaW, p_ha1 s hg w hw env he _ hox, hp, Bool.false_eq_true, if_false]
      exact hr
theorem p_haContains (s : TSign) (hg : gS s.1 = true) (w : TWorld) (hw : wOK s.1 w = true) (env : List Int) (he : envOK w.1 env = true) (a : List TLit) (ha : a.length ≤ 17592186044416) (hx : ∀ x ∈ a, litOK s.1 x = true) : c_slices_ContainsFunc_impl_Lit_impl_Lit__impl_Sign_holdsAt_1 M a (s, w, env, ()) = some ((a.any (lh s w env), ()), ()) := by
  apply e_slices_ContainsFunc_impl_Lit_impl_Lit__impl_Sign_holdsAt_1
  simp only [q_slices_ContainsFunc_impl_Lit_impl_Lit__impl_Sign_holdsAt_1]
  obtain ⟨r, hr, hm⟩ := p_haIdx_loop s hg w hw env he a ha hx a.length 0 (by omega)
  rw [show ((0 : Nat) : Int) = 0 from rfl] at hr
  rw [List.drop_zero] at hm
  cases r with
  | inl r =>
    rw [e_slices_IndexFunc_impl_Lit_impl_Lit__impl_Sign_holdsAt_1 a (s, w, env, ()) (r := ((-1, ()), ())) (by simp only [q_slices_IndexFunc_impl_Lit_impl_Lit__impl_Sign_holdsAt_1, hr, Option.bind_some, Sum.elim_inl])]
    simp only at hm
    simp [hm]
  | inr r =>
    rw [e_slices_IndexFunc_impl_Lit_impl_Lit__impl_Sign_holdsAt_1 a (s, w, env, ()) (r := r) (by simp only [q_slices_IndexFunc_impl_Lit_impl_Lit__impl_Sign_holdsAt_1, hr, Option.bind_some, Sum.elim_inr])]
    simp only at hm
    simp [hm]

section
variable (s : TSign) (hg : gS s.1 = true) (w : TWorld) (hw : wOK s.1 w = true) (c : List TLit) (hc : clOK s.1 c = true)
include hg hw hc
omit hg hw in
theorem clOK_parts : c.length ≤ 8 ∧ ∀ x ∈ c, litOK s.1 x = true := by
  simp only [clOK, Bool.and_eq_true, decide_eq_true_eq] at hc
  exact ⟨hc.1, fun x hx => (List.all_eq_true.1 hc.2) x hx⟩
theorem p_holdsAt (env : List Int) (he : envOK w.1 env = true) : c_impl_Sign_holdsAt M s w c env = some ((hl s w c env, ()), ()) := by
  obtain ⟨c8, hx⟩ := clOK_parts s c hc
  apply e_impl_Sign_holdsAt
  simp only [q_impl_Sign_holdsAt, sign_eta', world_eta, p_haContains s hg w hw env he c (by omega) hx, Option.bind_some, hl]
theorem p_l5At_loop (env : List Int) (he : envOK w.1 env = true) : ∀ k i : Nat, i + k = c.length → l_spec_l5At_26 M env s w c c.length i = some (if (c.drop i).any (lh s w env) = true then .inr ((true, ()), ()) else .inl ()) := by
  obtain ⟨c8, hx⟩ := clOK_parts s c hc
  intro k
  induction k with
  | zero =>
    intro i hi
    obtain rfl : i = c.length := by omega
    exact el_spec_l5At_26 _ _ _ _ _ _ (by simp [ql_spec_l5At_26])
  | succ k ih =>
    intro i hi
    have h1 : i < c.length := by omega
    have hox := hx _ (List.getElem_mem h1)
    simp only [litOK, Bool.and_eq_true] at hox
    apply el_spec_l5At_26
    simp only [ql_spec_l5At_26]
    rw [if_pos (by simpa using h1), idx_lt h1, inc_nat (by omega), List.drop_eq_getElem_cons h1, List.any_cons]
    simp only [Option.bind_some, sign_eta', world_eta, (p_val s hg w hw env he _ hox.1).2, (p_val s hg w hw env he _ hox.2).2]
    by_cases hp : lh s w env c[i] = true
    · have hp' : ((val s w env c[i].2.1 == val s w env c[i].2.2.1) == c[i].1) = true := hp
      rw [if_pos hp', hp, Bool.true_or, if_pos rfl]
    · have hp' : ¬ ((val s w env c[i].2.1 == val s w env c[i].2.2.1) == c[i].1) = true := hp
      rw [if_neg hp', ih (i + 1) (by omega)]
      rw [Bool.not_eq_true] at hp
      rw [hp, Bool.false_or]
theorem p_l5At (env : List Int) (he : envOK w.1 env = true) : c_spec_l5At M s w c env = some ((hl s w c env, ()), ()) := by
  apply e_spec_l5At
  have := p_l5At_loop s hg w hw c hc env he c.length 0 (by omega)
  rw [show ((0 : Nat) : Int) = 0 from rfl, List.drop_zero] at this
  simp only [q_spec_l5At, sign_eta', world_eta, this, Option.bind_some, hl]
  by_cases h : c.any (lh s w env) = true
  · rw [if_pos h, h]; rfl
  · rw [if_neg h]; rw [Bool.not_eq_true] at h; rw [h]; rfl
end

/-! ### The search -/
def srchN (f : Int → Option (List Int)) : Nat → Int → Option (List Int)
  | 0, _ => none
  | k + 1, n => match f n with
    | some e => some e
    | none => srchN f k (n + 1)
def srch (S : Nat) (H : List Int → Bool) : List Int → List Int → Option (List Int)
  | [], env => if H env = true then none else some env
  | v :: r, env => srchN (fun n => srch S H r (env.set v.toNat n)) S 0
theorem srchN_some {f : Int → Option (List Int)} {e : List Int} : ∀ (k : Nat) (n : Int), srchN f k n = some e → ∃ m, n ≤ m ∧ m < n + k ∧ f m = some e := by
  intro k
  induction k with
  | zero => intro n h; cases h
  | succ k ih =>
    intro n h
    simp only [srchN] at h
    cases hf : f n with
    | some e' =>
      rw [hf] at h
      exact ⟨n, by omega, by omega, by rw [hf]; exact h⟩
    | none =>
      rw [hf] at h
      obtain ⟨m, m1, m2, m3⟩ := ih (n + 1) h
      exact ⟨m, by omega, by omega, m3⟩
theorem srch_ok {S : Int} {H : List Int → Bool} (hS : 1 ≤ S) {e : List Int} : ∀ (vs env : List Int), envOK S env = true → srch S.toNat H vs env = some e → envOK S e = true ∧ H e = false := by
  intro vs
  induction vs with
  | nil =>
    intro env he h
    simp only [srch] at h
    split at h
    · cases h
    · rename_i hH
      simp only [Option.some.injEq] at h
      subst h
      exact ⟨he, by simpa using hH⟩
  | cons v r ih =>
    intro env he h
    simp only [srch] at h
    obtain ⟨m, m1, m2, m3⟩ := srchN_some _ _ h
    exact ih _ (envOK_set he _ _ m1 (by omega)) m3
theorem set_same {l : List Int} {i : Nat} {x : Int} (h : l[i]? = some x) : l.set i x = l := by
  obtain ⟨hi, rfl⟩ := List.getElem?_eq_some_iff.1 h
  exact List.set_getElem_self hi
theorem envOK_len {S : Int} {e : List Int} (h : envOK S e = true) : e.length = 12 := by
  simp only [envOK, Bool.and_eq_true, decide_eq_true_eq] at h; exact h.1
theorem idx0 (v : Int) (r : List Int) : idx (v :: r) 0 = some v := by
  exact idx_lt (xs := v :: r) (i := 0) (by simp)
/-- The places that are tried. -/
def Vs (vs : List Int) : Prop := (∀ v ∈ vs, 0 ≤ v ∧ v ≤ 11) ∧ vs.Pairwise (· < ·)
theorem Vs.tail {v : Int} {r : List Int} (h : Vs (v :: r)) : (0 ≤ v ∧ v ≤ 11) ∧ Vs r ∧ ∀ u ∈ r, v.toNat ≠ u.toNat := by
  obtain ⟨h1, h2⟩ := h
  rw [List.pairwise_cons] at h2
  have hv := h1 v (by simp)
  refine ⟨hv, ⟨fun u hu => h1 u (by simp [hu]), h2.2⟩, fun u hu => ?_⟩
  have := h2.1 u hu
  omega
def Zr (vs env : List Int) : Prop := ∀ v ∈ vs, env[v.toNat]? = some 0
theorem Zr.set {v n : Int} {r env : List Int} (h : Zr (v :: r) env) (hv : Vs (v :: r)) : Zr r (env.set v.toNat n) := by
  intro u hu
  rw [List.getElem?_set_ne (hv.tail.2.2 u hu)]
  exact h u (by simp [hu])
section
variable (s : TSign) (hg : gS s.1 = true) (w : TWorld) (hw : wOK s.1 w = true) (c : List TLit) (hc : clOK s.1 c = true)
include hg hw hc
theorem p_l5False : ∀ (vs env : List Int), Vs vs → envOK w.1 env = true → Zr vs env → ∃ (o env' : List Int) (b : Bool), c_spec_l5False M s w c vs env = some ((o, b, ()), (env', ())) ∧ (match srch w.1.toNat (hl s w c) vs env with | some e => b = true ∧ o = e | none => b = false ∧ env' = env) := by
  obtain ⟨w1, w3, _, _⟩ := wOK_parts hw
  intro vs
  induction vs with
  | nil =>
    intro env _ he _
    have := envOK_len he
    refine ⟨env, env, !hl s w c env, e_spec_l5False _ _ _ _ _ ?_, ?_⟩
    · simp only [q_spec_l5False, sign_eta', world_eta, p_own env (by omega), p_l5At s hg w hw c hc env he, Option.bind_some]
      rw [if_pos (by simp)]
    · simp only [srch]
      cases hl s w c env <;> simp
  | cons v r ih =>
    intro env hv he hz
    have h12 := envOK_len he
    obtain ⟨v0, hr, hne⟩ := hv.tail
    have hvz := hz v (by simp)
    have hvn : v.toNat < 12 := by omega
    have loop : ∀ (k n : Nat) (x : Int), n + k = w.1.toNat → ∃ y, l_spec_l5False_58 M c (v :: r) (env.set v.toNat x) s w n = some y ∧ (match srchN (fun n => srch w.1.toNat (hl s w c) r (env.set v.toNat n)) k n with | some e => ∃ env', y = .inr ((e, true, ()), (env', ())) | none => ∃ x', y = .inl (v :: r, env.set v.toNat x', ())) := by
      intro k
      induction k with
      | zero =>
        intro n x hn
        refine ⟨.inl (v :: r, env.set v.toNat x, ()), el_spec_l5False_58 _ _ _ _ _ _ ?_, x, rfl⟩
        simp only [ql_spec_l5False_58]
        rw [if_neg (by simp; omega)]
      | succ k ihk =>
        intro n x hn
        have hset : envOK w.1 (env.set v.toNat (n : Int)) = true := envOK_set he _ _ (by omega) (by omega)
        obtain ⟨o, env', b, i1, i2⟩ := ih (env.set v.toNat (n : Int)) hr hset (hz.set hv)
        have hx : (env.set v.toNat x)[v.toNat]? = some x := by rw [List.getElem?_set_self (by omega)]
        have step : ∀ y, (if b = true then (some (.inr ((o, true, ()), (env', ())))) else l_spec_l5False_58 M c (v :: r) env' s w ((n + 1 : Nat) : Int)) = some y → l_spec_l5False_58 M c (v :: r) (env.set v.toNat x) s w n = some y := by
          intro y hy
          apply el_spec_l5False_58
          simp only [ql_spec_l5False_58]
          rw [if_pos (by simp; omega), idx0]
          simp only [Option.bind_some]
          rw [if_pos (by simp; omega), hx]
          simp only [Option.bind_some]
          rw [if_pos (by simp; omega), show List.drop (Int.toNat 1) (List.take (Int.toNat ((v :: r).length : Int)) (v :: r)) = r by simp, List.set_set, sign_eta', world_eta, i1]
          simp only [Option.bind_some]
          rw [inc_nat (by omega)]
          exact hy
        simp only [srchN]
        cases hs : srch w.1.toNat (hl s w c) r (env.set v.toNat (n : Int)) with
        | some e =>
          rw [hs] at i2
          obtain ⟨rfl, rfl⟩ := i2
          exact ⟨_, step _ (by rw [if_pos rfl]), env', rfl⟩
        | none =>
          rw [hs] at i2
          obtain ⟨rfl, rfl⟩ := i2
          obtain ⟨y, y1, y2⟩ := ihk (n + 1) (n : Int) (by omega)
          refine ⟨y, step y ?_, ?_⟩
          · rw [if_neg (by simp)]; exact y1
          · exact y2
    obtain ⟨y, y1, y2⟩ := loop w.1.toNat 0 0 (by omega)
    rw [set_same hvz] at y1
    rw [show ((0 : Nat) : Int) = 0 from rfl] at y1 y2
    simp only [srch]
    cases hs : srchN (fun n => srch w.1.toNat (hl s w c) r (env.set v.toNat n)) w.1.toNat 0 with
    | some e =>
      rw [hs] at y2
      obtain ⟨env', rfl⟩ := y2
      refine ⟨e, env', true, e_spec_l5False _ _ _ _ _ ?_, rfl, rfl⟩
      simp only [q_spec_l5False, sign_eta', world_eta, y1, Option.bind_some, Sum.elim_inr]
      rw [if_neg (by simp; omega)]
    | none =>
      rw [hs] at y2
      obtain ⟨x', rfl⟩ := y2
      refine ⟨[], env, false, e_spec_l5False _ _ _ _ _ ?_, rfl, rfl⟩
      simp only [q_spec_l5False, sign_eta', world_eta, y1, Option.bind_some, Sum.elim_inl]
      rw [if_neg (by simp; omega), idx0]
      simp only [Option.bind_some]
      rw [if_pos (by simp; omega), List.getElem?_set_self (by omega)]
      simp only [Option.bind_some]
      rw [List.set_set, set_same hvz]
end
end Go.Proofs.YtkdceefdipljaaaGreatFwo.Ev

/- Plain laws: the least assignment with which a clause does not hold, by both programs; clauses that hold. No condition but sizes. -/
namespace Go.Proofs.YtkdceefdipljaaaGreatFwo.Ev
open Go
set_option autoImplicit false
set_option linter.unusedVariables false
set_option linter.unusedSimpArgs false

/-- What follows when the counting up has stopped. -/
noncomputable def fK : ((List TLit × TSign × TWorld × List Int × List Int × Int × Unit) ⊕ (((List Int) × Bool × Unit) × (Unit))) → Option ((Unit) ⊕ (((List Int) × Bool × Unit) × (Unit))) :=
  Sum.elim (fun y2 => (if (decide (y2.2.2.2.2.2.1 < (0 : Int))) = true then (some (.inr (([], false, ()), ()))) else (if 0 ≤ y2.2.2.2.2.2.1 ∧ y2.2.2.2.2.2.1 < (List.length y2.2.2.2.1 : Int) then ((y2.2.2.2.1[(Int.toNat y2.2.2.2.2.2.1)]?).bind fun x4 => (if 0 ≤ x4 ∧ x4 < (List.length y2.2.2.2.2.1 : Int) then ((y2.2.2.2.2.1[(Int.toNat x4)]?).bind fun x5 => (if 0 ≤ x4 ∧ x4 < (List.length y2.2.2.2.2.1 : Int) then ((y2.2.2.2.2.1[(Int.toNat x4)]?).bind fun x6 => (l_impl_Sign_falseAt_30 M y2.1 (y2.2.1.1, ()) (y2.2.2.1.1, y2.2.2.1.2.1, ()) y2.2.2.2.1 (y2.2.2.2.2.1.set (Int.toNat x4) (IntKind.i64.wrap (x5 + (1 : Int)))))) else none)) else none)) else none))) (fun r3 => (some (.inr r3)))
/-- Counting up goes on like this from a place. -/
def NX (s : TSign) (w : TWorld) (c : List TLit) (V p env : List Int) (R : List Int × Bool) : Prop := ∃ y, l_impl_Sign_falseAt_1932 M c s w V env ((p.length : Int) - 1) = some y ∧ fK y = some (.inr ((R.1, R.2, ()), ()))
section
variable (s : TSign) (hg : gS s.1 = true) (w : TWorld) (hw : wOK s.1 w = true) (c : List TLit) (hc : clOK s.1 c = true)
include hg hw hc
theorem p_falseAt_loop (V : List Int) (hV : Vs V) (hVl : V.length ≤ 12) : ∀ (vs p : List Int), V = p ++ vs → ∀ (env : List Int) (R : List Int × Bool), envOK w.1 env = true → Zr vs env → (match srch w.1.toNat (hl s w c) vs env with | some e => R = (e, true) | none => NX s w c V p env R) → l_impl_Sign_falseAt_30 M c s w V env = some (.inr ((R.1, R.2, ()), ())) := by
  obtain ⟨w1, w3, _, _⟩ := wOK_parts hw
  intro vs
  induction vs with
  | nil =>
    intro p hp env R he _ h
    rw [List.append_nil] at hp
    subst hp
    simp only [srch] at h
    apply el_impl_Sign_falseAt_30
    simp only [ql_impl_Sign_falseAt_30, sign_eta', world_eta, p_holdsAt s hg w hw c hc env he, Option.bind_some]
    cases hh : hl s w c env with
    | false =>
      rw [hh] at h
      simp only [Bool.false_eq_true, if_false] at h
      rw [h]; rfl
    | true =>
      rw [hh] at h
      simp only [if_true] at h
      obtain ⟨y, y1, y2⟩ := h
      rw [if_neg (by simp), w64 (by omega) (by omega), y1]
      simp only [Option.bind_some]
      exact y2
  | cons v r ih =>
    intro p hp env R he hz h
    have hvs : Vs (v :: r) := by
      rw [hp] at hV
      exact ⟨fun u hu => hV.1 u (List.mem_append.2 (.inr hu)), (List.pairwise_append.1 hV.2).2.1⟩
    have h12 := envOK_len he
    obtain ⟨v0, hr, hne⟩ := hvs.tail
    have hvz := hz v (by simp)
    have hpl : p.length < V.length := by rw [hp]; simp
    have hVp : V[p.length]? = some v := by rw [hp]; simp
    simp only [srch] at h
    have key : ∀ (k n : Nat), n + k = w.1.toNat → 0 < k → (match srchN (fun n => srch w.1.toNat (hl s w c) r (env.set v.toNat n)) k n with | some e => R = (e, true) | none => NX s w c V p env R) → l_impl_Sign_falseAt_30 M c s w V (env.set v.toNat (n : Int)) = some (.inr ((R.1, R.2, ()), ())) := by
      intro k
      induction k with
      | zero => intro n _ h0 _; omega
      | succ k ihk =>
        intro n hn _ hk
        have hset : envOK w.1 (env.set v.toNat (n : Int)) = true := envOK_set he _ _ (by omega) (by omega)
        have hx : (env.set v.toNat (n : Int))[v.toNat]? = some (n : Int) := by rw [List.getElem?_set_self (by omega)]
        have hwr : IntKind.i64.wrap (w.1 - 1) = w.1 - 1 := w64 (by omega) (by omega)
        refine ih (p ++ [v]) (by simp [hp]) _ R hset (hz.set hvs) ?_
        simp only [srchN] at hk
        cases hs : srch w.1.toNat (hl s w c) r (env.set v.toNat (n : Int)) with
        | some e => rw [hs] at hk; exact hk
        | none =>
          rw [hs] at hk
          show NX s w c V (p ++ [v]) (env.set v.toNat (n : Int)) R
          have hlen : (((p ++ [v]).length : Nat) : Int) - 1 = (p.length : Int) := by simp
          have h0k : 0 ≤ (p.length : Int) ∧ (p.length : Int) < (V.length : Int) := by omega
          have hvr : 0 ≤ v ∧ v < ((env.set v.toNat (n : Int)).length : Int) := by rw [List.length_set]; omega
          unfold NX
          rw [hlen]
          cases k with
          | zero =>
            have hk : NX s w c V p env R := hk
            obtain ⟨y, y1, y2⟩ := hk
            refine ⟨y, el_impl_Sign_falseAt_1932 _ _ _ _ _ _ ?_, y2⟩
            simp only [ql_impl_Sign_falseAt_1932]
            rw [if_pos (by simp), if_pos h0k, Int.toNat_natCast, hVp]
            simp only [Option.bind_some]
            rw [if_pos hvr, hx]
            simp only [Option.bind_some]
            rw [hwr, if_pos (by simp; omega)]
            try rw [if_pos h0k]
            try simp only [Option.bind_some]
            try rw [if_pos hvr]
            simp only [Option.bind_some, sign_eta', world_eta]
            rw [List.set_set, set_same hvz, w64 (by omega) (by omega)]
            exact y1
          | succ k =>
            refine ⟨.inl (c, s, w, V, env.set v.toNat (n : Int), (p.length : Int), ()), el_impl_Sign_falseAt_1932 _ _ _ _ _ _ ?_, ?_⟩
            · simp only [ql_impl_Sign_falseAt_1932]
              rw [if_pos (by simp), if_pos h0k, Int.toNat_natCast, hVp]
              simp only [Option.bind_some]
              rw [if_pos hvr, hx]
              simp only [Option.bind_some]
              rw [hwr, if_neg (by simp; omega)]
            · simp only [fK, Sum.elim_inl]
              rw [if_neg (by simp), if_pos h0k, Int.toNat_natCast, hVp]
              simp only [Option.bind_some]
              rw [if_pos hvr, hx]
              simp only [Option.bind_some, sign_eta', world_eta]
              rw [if_pos hvr, List.set_set, inc_nat (by omega)]
              exact ihk (n + 1) (by omega) (by omega) hk
    have := key w.1.toNat 0 (by omega) (by omega) h
    rw [show ((0 : Nat) : Int) = 0 from rfl, set_same hvz] at this
    exact this
end

/-- The variables of a clause. -/
def cv (c : List TLit) : List Int := upTo (inV (tms c))
theorem cv_Vs (c : List TLit) : Vs (cv c) := ⟨fun v hv => by have := mem_upTo.1 hv; omega, upTo_up _⟩
theorem cv_len (c : List TLit) : (cv c).length ≤ 12 := upTo_len _
def env0 : List Int := List.replicate 12 0
theorem env0_ok {S : Int} (h : 1 ≤ S) : envOK S env0 = true := by
  simp only [envOK, elOK, env0, Bool.and_eq_true, decide_eq_true_eq, List.all_eq_true, List.length_replicate, List.mem_replicate, true_and]
  rintro x ⟨_, rfl⟩; omega
theorem env0_Zr {vs : List Int} (h : Vs vs) : Zr vs env0 := by
  intro v hv
  have := h.1 v hv
  simp only [env0]
  rw [List.getElem?_replicate, if_pos (by omega)]
/-- The least assignment with which a clause does not hold. -/
noncomputable def FA (s : TSign) (w : TWorld) (c : List TLit) : List Int × Bool := match srch w.1.toNat (hl s w c) (cv c) env0 with
  | some e => (e, true)
  | none => ([], false)
/-- Whether there is one. -/
noncomputable def FAb (s : TSign) (w : TWorld) (c : List TLit) : Bool := (FA s w c).2
theorem FA_ok (s : TSign) (w : TWorld) (hS : 1 ≤ w.1) (c : List TLit) (h : (FA s w c).2 = true) : envOK w.1 (FA s w c).1 = true ∧ hl s w c (FA s w c).1 = false := by
  unfold FA at h ⊢
  cases hs : srch w.1.toNat (hl s w c) (cv c) env0 with
  | some e => exact srch_ok hS _ _ (env0_ok hS) hs
  | none => rw [hs] at h; cases h
theorem FA_len (s : TSign) (w : TWorld) (hS : 1 ≤ w.1) (c : List TLit) : (FA s w c).1.length ≤ 12 := by
  by_cases h : (FA s w c).2 = true
  · have := envOK_len (FA_ok s w hS c h).1; omega
  · unfold FA at h ⊢
    cases hs : srch w.1.toNat (hl s w c) (cv c) env0 with
    | some e => rw [hs] at h; simp at h
    | none => simp
theorem tms_len40 {a : List Int} {c : List TLit} (hc : clOK a c = true) : (tms c).length ≤ 16 ∧ ∀ t ∈ tms c, t.length ≤ 40 := by
  obtain ⟨h8, hx⟩ := clOK_liV hc
  refine ⟨by rw [tms_len]; omega, fun t ht => ?_⟩
  obtain ⟨x, hx1, h⟩ := mem_tms.1 ht
  have := hx x hx1
  rcases h with rfl | rfl
  · exact this.1
  · exact this.2.1
theorem p_cv {a : List Int} {c : List TLit} (hc : clOK a c = true) : c_impl_termsOf M c = some ((tms c, ()), ()) ∧ c_impl_varsIn M (tms c) = some ((cv c, ()), ()) ∧ c_spec_l4Vars M c = some ((cv c, ()), ()) := by
  obtain ⟨h8, hx⟩ := clOK_liV hc
  obtain ⟨t1, t2⟩ := tms_len40 hc
  exact ⟨p_termsOf c (by omega), p_varsIn _ (by omega) (fun t ht => by have := t2 t ht; omega), p_l4Vars c (by omega) hx⟩
section
variable (s : TSign) (hg : gS s.1 = true) (w : TWorld) (hw : wOK s.1 w = true) (c : List TLit) (hc : clOK s.1 c = true)
include hg hw hc
theorem p_falseAt : c_impl_Sign_falseAt M s w c = some (((FA s w c).1, (FA s w c).2, ()), ()) := by
  obtain ⟨w1, w3, _, _⟩ := wOK_parts hw
  obtain ⟨t1, t2, _⟩ := p_cv hc
  apply e_impl_Sign_falseAt
  simp only [q_impl_Sign_falseAt, sign_eta', world_eta, t1, t2, Option.bind_some]
  rw [if_pos (by decide)]
  have := p_falseAt_loop s hg w hw c hc (cv c) (cv_Vs c) (cv_len c) (cv c) [] rfl env0 (FA s w c) (env0_ok w1) (env0_Zr (cv_Vs c)) (by
    unfold FA
    cases hs : srch w.1.toNat (hl s w c) (cv c) env0 with
    | some e => rfl
    | none =>
      refine ⟨.inl (c, s, w, cv c, env0, -1, ()), el_impl_Sign_falseAt_1932 _ _ _ _ _ _ ?_, ?_⟩
      · simp only [ql_impl_Sign_falseAt_1932]
        rw [if_neg (by simp)]
        rfl
      · simp only [fK, Sum.elim_inl]
        rw [if_pos (by simp)])
  rw [show List.replicate (Int.toNat 12) (0 : Int) = env0 from rfl, this]
  rfl
theorem p_l5FalseAt : c_spec_l5FalseAt M s w c = some (((FA s w c).1, (FA s w c).2, ()), ()) := by
  obtain ⟨w1, w3, _, _⟩ := wOK_parts hw
  obtain ⟨_, _, t3⟩ := p_cv hc
  apply e_spec_l5FalseAt
  simp only [q_spec_l5FalseAt, sign_eta', world_eta, t3, Option.bind_some]
  rw [if_pos (by decide), show List.replicate (Int.toNat 12) (0 : Int) = env0 from rfl]
  obtain ⟨o, env', b, i1, i2⟩ := p_l5False s hg w hw c hc (cv c) env0 (cv_Vs c) (env0_ok w1) (env0_Zr (cv_Vs c))
  rw [i1]
  simp only [Option.bind_some]
  unfold FA
  cases hs : srch w.1.toNat (hl s w c) (cv c) env0 with
  | some e =>
    rw [hs] at i2
    obtain ⟨rfl, rfl⟩ := i2
    rw [if_neg (by simp)]
  | none =>
    rw [hs] at i2
    obtain ⟨rfl, rfl⟩ := i2
    rw [if_pos (by simp)]
theorem p_l5Holds : c_spec_l5Holds M s w c = some ((!(FA s w c).2, ()), ()) := by
  apply e_spec_l5Holds
  simp only [q_spec_l5Holds, sign_eta', world_eta, p_l5FalseAt s hg w hw c hc, Option.bind_some]
theorem p_ah1 : c_impl_Sign_allHold_1 M c s w = some ((FAb s w c, ()), ()) := by
  apply e_impl_Sign_allHold_1
  simp only [q_impl_Sign_allHold_1, sign_eta', world_eta, p_falseAt s hg w hw c hc, Option.bind_some, FAb]
end
/-- Whether a clause is asked of all assignments. -/
def ask (a : List Int) (c : List TLit) : Bool := clOK a c && decide ((cv c).length ≤ 6)
def nask (a : List Int) (c : List TLit) : Bool := !ask a c
theorem p_few {a : List Int} {c : List TLit} (hc : clOK a c = true) : c_spec_l5Few M c = some ((decide ((cv c).length ≤ 6), ()), ()) := by
  apply e_spec_l5Few
  simp only [q_spec_l5Few, (p_cv hc).2.2, Option.bind_some]
  congr 3
  exact decide_eq_decide.2 (by omega)
theorem p_isAsked (s : TSign) (hg : gS s.1 = true) (c : List TLit) (hl : c.length ≤ 1048576) : c_impl_Sign_isAsked M s c = some ((ask s.1 c, ()), ()) := by
  apply e_impl_Sign_isAsked
  simp only [q_impl_Sign_isAsked, sign_eta', p_isClause s hg c hl, Option.bind_some, ask]
  cases hc : clOK s.1 c with
  | false => simp
  | true =>
    obtain ⟨t1, t2, _⟩ := p_cv hc
    rw [if_pos rfl, t1]
    simp only [Option.bind_some, t2, Bool.true_and]
    congr 3
    exact decide_eq_decide.2 (by omega)
theorem p_aa1 (s : TSign) (hg : gS s.1 = true) (c : List TLit) (hl : c.length ≤ 1048576) : c_impl_Sign_areAsked_1 M c s = some ((nask s.1 c, ()), ()) := by
  apply e_impl_Sign_areAsked_1
  simp only [q_impl_Sign_areAsked_1, sign_eta', p_isAsked s hg c hl, Option.bind_some, nask]
theorem p_ahIdx_loop (s : TSign) (hg : gS s.1 = true) (w : TWorld) (hw : wOK s.1 w = true) (a : List (List TLit)) (ha : a.length ≤ 17592186044416) (hx : ∀ x ∈ a, clOK s.1 x = true) : ∀ k i : Nat, i + k = a.length → ∃ r, l_slices_IndexFunc_SS_impl_Lit_impl_Lit__impl_Sign_allHold_1_26 M a (s, w, ()) a.length i = some r ∧ (match r with | .inl _ => (a.drop i).any (FAb s w) = false | .inr r => 0 ≤ r.1.1 ∧ (a.drop i).any (FAb s w) = true) := by
  intro k
  induction k with
  | zero =>
    intro i hi
    obtain rfl : i = a.length := by omega
    refine ⟨.inl (), el_slices_IndexFunc_SS_impl_Lit_impl_Lit__impl_Sign_allHold_1_26 _ _ _ _ (by simp [ql_slices_IndexFunc_SS_impl_Lit_impl_Lit__impl_Sign_allHold_1_26]), by simp⟩
  | succ k ih =>
    intro i hi
    have h1 : i < a.length := by omega
    have hox := hx _ (List.getElem_mem h1)
    obtain ⟨r, hr, hm⟩ := ih (i + 1) (by omega)
    rw [List.drop_eq_getElem_cons h1, List.any_cons]
    by_cases hp : (FAb s w) a[i] = true
    · refine ⟨.inr (((i : Int), ()), ()), el_slices_IndexFunc_SS_impl_Lit_impl_Lit__impl_Sign_allHold_1_26 _ _ _ _ ?_, Int.natCast_nonneg i, by rw [hp, Bool.true_or]⟩
      simp only [ql_slices_IndexFunc_SS_impl_Lit_impl_Lit__impl_Sign_allHold_1_26]
      rw [if_pos (by simpa using h1), idx_lt h1]
      simp only [Option.bind_some,  p_ah1 s hg w hw _ hox, hp, if_true]
    · rw [Bool.not_eq_true] at hp
      refine ⟨r, el_slices_IndexFunc_SS_impl_Lit_impl_Lit__impl_Sign_allHold_1_26 _ _ _ _ ?_, by rw [hp, Bool.false_or]; exact hm⟩
      simp only [ql_slices_IndexFunc_SS_impl_Lit_impl_Lit__impl_Sign_allHold_1_26]
      rw [if_pos (by simpa using h1), idx_lt h1, inc_nat (by omega)]
      simp only [Option.bind_some,  p_ah1 s hg w hw _ hox, hp, Bool.false_eq_true, if_false]
      exact hr
theorem p_ahContains (s : TSign) (hg : gS s.1 = true) (w : TWorld) (hw : wOK s.1 w = true) (a : List (List TLit)) (ha : a.length ≤ 17592186044416) (hx : ∀ x ∈ a, clOK s.1 x = true) : c_slices_ContainsFunc_SS_impl_Lit_impl_Lit__impl_Sign_allHold_1 M a (s, w, ()) = some ((a.any (FAb s w), ()), ()) := by
  apply e_slices_ContainsFunc_SS_impl_Lit_impl_Lit__impl_Sign_allHold_1
  simp only [q_slices_ContainsFunc_SS_impl_Lit_impl_Lit__impl_Sign_allHold_1]
  obtain ⟨r, hr, hm⟩ := p_ahIdx_loop s hg w hw a ha hx a.length 0 (by omega)
  rw [show ((0 : Nat) : Int) = 0 from rfl] at hr
  rw [List.drop_zero] at hm
  cases r with
  | inl r =>
    rw [e_slices_IndexFunc_SS_impl_Lit_impl_Lit__impl_Sign_allHold_1 a (s, w, ()) (r := ((-1, ()), ())) (by simp only [q_slices_IndexFunc_SS_impl_Lit_impl_Lit__impl_Sign_allHold_1, hr, Option.bind_some, Sum.elim_inl])]
    simp only at hm
    simp [hm]
  | inr r =>
    rw [e_slices_IndexFunc_SS_impl_Lit_impl_Lit__impl_Sign_allHold_1 a (s, w, ()) (r := r) (by simp only [q_slices_IndexFunc_SS_impl_Lit_impl_Lit__impl_Sign_allHold_1, hr, Option.bind_some, Sum.elim_inr])]
    simp only at hm
    simp [hm]
theorem p_aaIdx_loop (s : TSign) (hg : gS s.1 = true) (a : List (List TLit)) (ha : a.length ≤ 17592186044416) (hx : ∀ x ∈ a, x.length ≤ 1048576) : ∀ k i : Nat, i + k = a.length → ∃ r, l_slices_IndexFunc_SS_impl_Lit_impl_Lit__impl_Sign_areAsked_1_26 M a (s, ()) a.length i = some r ∧ (match r with | .inl _ => (a.drop i).any (nask s.1) = false | .inr r => 0 ≤ r.1.1 ∧ (a.drop i).any (nask s.1) = true) := by
  intro k
  induction k with
  | zero =>
    intro i hi
    obtain rfl : i = a.length := by omega
    refine ⟨.inl (), el_slices_IndexFunc_SS_impl_Lit_impl_Lit__impl_Sign_areAsked_1_26 _ _ _ _ (by simp [ql_slices_IndexFunc_SS_impl_Lit_impl_Lit__impl_Sign_areAsked_1_26]), by simp⟩
  | succ k ih =>
    intro i hi
    have h1 : i < a.length := by omega
    have hox := hx _ (List.getElem_mem h1)
    obtain ⟨r, hr, hm⟩ := ih (i + 1) (by omega)
    rw [List.drop_eq_getElem_cons h1, List.any_cons]
    by_cases hp : (nask s.1) a[i] = true
    · refine ⟨.inr (((i : Int), ()), ()), el_slices_IndexFunc_SS_impl_Lit_impl_Lit__impl_Sign_areAsked_1_26 _ _ _ _ ?_, Int.natCast_nonneg i, by rw [hp, Bool.true_or]⟩
      simp only [ql_slices_IndexFunc_SS_impl_Lit_impl_Lit__impl_Sign_areAsked_1_26]
      rw [if_pos (by simpa using h1), idx_lt h1]
      simp only [Option.bind_some,  p_aa1 s hg _ hox, hp, if_true]
    · rw [Bool.not_eq_true] at hp
      refine ⟨r, el_slices_IndexFunc_SS_impl_Lit_impl_Lit__impl_Sign_areAsked_1_26 _ _ _ _ ?_, by rw [hp, Bool.false_or]; exact hm⟩
      simp only [ql_slices_IndexFunc_SS_impl_Lit_impl_Lit__impl_Sign_areAsked_1_26]
      rw [if_pos (by simpa using h1), idx_lt h1, inc_nat (by omega)]
      simp only [Option.bind_some,  p_aa1 s hg _ hox, hp, Bool.false_eq_true, if_false]
      exact hr
theorem p_aaContains (s : TSign) (hg : gS s.1 = true) (a : List (List TLit)) (ha : a.length ≤ 17592186044416) (hx : ∀ x ∈ a, x.length ≤ 1048576) : c_slices_ContainsFunc_SS_impl_Lit_impl_Lit__impl_Sign_areAsked_1 M a (s, ()) = some ((a.any (nask s.1), ()), ()) := by
  apply e_slices_ContainsFunc_SS_impl_Lit_impl_Lit__impl_Sign_areAsked_1
  simp only [q_slices_ContainsFunc_SS_impl_Lit_impl_Lit__impl_Sign_areAsked_1]
  obtain ⟨r, hr, hm⟩ := p_aaIdx_loop s hg a ha hx a.length 0 (by omega)
  rw [show ((0 : Nat) : Int) = 0 from rfl] at hr
  rw [List.drop_zero] at hm
  cases r with
  | inl r =>
    rw [e_slices_IndexFunc_SS_impl_Lit_impl_Lit__impl_Sign_areAsked_1 a (s, ()) (r := ((-1, ()), ())) (by simp only [q_slices_IndexFunc_SS_impl_Lit_impl_Lit__impl_Sign_areAsked_1, hr, Option.bind_some, Sum.elim_inl])]
    simp only at hm
    simp [hm]
  | inr r =>
    rw [e_slices_IndexFunc_SS_impl_Lit_impl_Lit__impl_Sign_areAsked_1 a (s, ()) (r := r) (by simp only [q_slices_IndexFunc_SS_impl_Lit_impl_Lit__impl_Sign_areAsked_1, hr, Option.bind_some, Sum.elim_inr])]
    simp only at hm
    simp [hm]

/-- Clauses that may be asked; clauses that hold. -/
def asks (a : List Int) (l : List (List TLit)) : Bool := decide (l.length ≤ 40) && l.all (ask a)
noncomputable def AH (s : TSign) (w : TWorld) (l : List (List TLit)) : Bool := l.all fun c => !FAb s w c
def smC (c : List TLit) : Prop := c.length ≤ 1048576 ∧ ∀ x ∈ c, smL x
theorem any_not {α : Type} (f : α → Bool) (l : List α) : (l.any fun x => !f x) = !l.all f := by
  induction l with
  | nil => rfl
  | cons x r ih => rw [List.any_cons, ih, List.all_cons]; cases f x <;> rfl
theorem not_any {α : Type} (f : α → Bool) (l : List α) : (!l.any f) = l.all fun x => !f x := by
  induction l with
  | nil => rfl
  | cons x r ih => rw [List.any_cons, List.all_cons, ← ih]; cases f x <;> rfl
theorem p_areAsked (s : TSign) (hg : gS s.1 = true) (l : List (List TLit)) (hl : l.length ≤ 1048576) (hx : ∀ c ∈ l, smC c) : c_impl_Sign_areAsked M s l = some ((asks s.1 l, ()), ()) := by
  apply e_impl_Sign_areAsked
  simp only [q_impl_Sign_areAsked, sign_eta', asks]
  by_cases h : l.length ≤ 40
  · rw [if_pos (by simp; omega), p_aaContains s hg l (by omega) (fun c hc => (hx c hc).1)]
    simp only [Option.bind_some, decide_eq_true h, Bool.true_and]
    rw [show l.any (nask s.1) = !l.all (ask s.1) from any_not _ _, Bool.not_not]
  · rw [if_neg (by simp; omega), decide_eq_false h]; rfl
theorem p_l5Clauses_loop (s : TSign) (hg : gS s.1 = true) (l : List (List TLit)) (hl : l.length ≤ 1048576) (hx : ∀ c ∈ l, smC c) : ∀ k i : Nat, i + k = l.length → l_spec_l5Clauses_26 M l s l l.length i = some (if (l.drop i).all (ask s.1) = true then .inl (l, ()) else .inr ((false, ()), ())) := by
  intro k
  induction k with
  | zero =>
    intro i hi
    obtain rfl : i = l.length := by omega
    exact el_spec_l5Clauses_26 _ _ _ _ _ (by simp [ql_spec_l5Clauses_26])
  | succ k ih =>
    intro i hi
    have h1 : i < l.length := by omega
    have hox := hx _ (List.getElem_mem h1)
    apply el_spec_l5Clauses_26
    simp only [ql_spec_l5Clauses_26]
    rw [if_pos (by simpa using h1), idx_lt h1, inc_nat (by omega), List.drop_eq_getElem_cons h1, List.all_cons]
    simp only [Option.bind_some, sign_eta', p_l4Clause s hg _ hox.1 hox.2]
    by_cases hc : clOK s.1 l[i] = true
    · have ha : ask s.1 l[i] = decide ((cv l[i]).length ≤ 6) := by simp [ask, hc]
      rw [ha, if_neg (by simp [hc]), p_few hc]
      simp only [Option.bind_some]
      by_cases h6 : (cv l[i]).length ≤ 6
      · rw [if_neg (by simp [h6]), ih (i + 1) (by omega), decide_eq_true h6, Bool.true_and]
      · rw [if_pos (by simp [h6]), decide_eq_false h6, Bool.false_and, if_neg (by simp)]
    · rw [Bool.not_eq_true] at hc
      have ha : ask s.1 l[i] = false := by simp [ask, hc]
      rw [ha, if_pos (by simp [hc]), Bool.false_and, if_neg (by simp)]
theorem p_l5Clauses (s : TSign) (hg : gS s.1 = true) (l : List (List TLit)) (hl : l.length ≤ 1048576) (hx : ∀ c ∈ l, smC c) : c_spec_l5Clauses M s l = some ((asks s.1 l, ()), ()) := by
  apply e_spec_l5Clauses
  have := p_l5Clauses_loop s hg l hl hx l.length 0 (by omega)
  rw [show ((0 : Nat) : Int) = 0 from rfl, List.drop_zero] at this
  simp only [q_spec_l5Clauses, sign_eta', this, Option.bind_some, asks]
  by_cases h : l.all (ask s.1) = true
  · rw [if_pos h, h]
    simp only [Sum.elim_inl, Bool.and_true]
    congr 3
    exact decide_eq_decide.2 (by omega)
  · rw [if_neg h]; rw [Bool.not_eq_true] at h; rw [h, Bool.and_false]; rfl
theorem asks_cl {a : List Int} {l : List (List TLit)} (h : asks a l = true) : l.length ≤ 40 ∧ ∀ c ∈ l, clOK a c = true := by
  simp only [asks, Bool.and_eq_true, decide_eq_true_eq, List.all_eq_true, ask] at h
  exact ⟨h.1, fun c hc => (h.2 c hc).1⟩
section
variable (s : TSign) (hg : gS s.1 = true) (w : TWorld) (hw : wOK s.1 w = true) (l : List (List TLit)) (hl : asks s.1 l = true)
include hg hw hl
theorem p_allHold : c_impl_Sign_allHold M s w l = some ((AH s w l, ()), ()) := by
  obtain ⟨l40, lc⟩ := asks_cl hl
  apply e_impl_Sign_allHold
  simp only [q_impl_Sign_allHold, sign_eta', world_eta, p_ahContains s hg w hw l (by omega) lc, Option.bind_some, AH, not_any]
theorem p_l5All_loop : ∀ k i : Nat, i + k = l.length → l_spec_l5All_26 M s w l l.length i = some (if (l.drop i).all (fun c => !FAb s w c) = true then .inl () else .inr ((false, ()), ())) := by
  obtain ⟨l40, lc⟩ := asks_cl hl
  intro k
  induction k with
  | zero =>
    intro i hi
    obtain rfl : i = l.length := by omega
    exact el_spec_l5All_26 _ _ _ _ _ (by simp [ql_spec_l5All_26])
  | succ k ih =>
    intro i hi
    have h1 : i < l.length := by omega
    have hox := lc _ (List.getElem_mem h1)
    apply el_spec_l5All_26
    simp only [ql_spec_l5All_26]
    rw [if_pos (by simpa using h1), idx_lt h1, inc_nat (by omega), List.drop_eq_getElem_cons h1, List.all_cons]
    simp only [Option.bind_some, sign_eta', world_eta, p_l5Holds s hg w hw _ hox]
    show (if (!!FAb s w l[i]) = true then _ else _) = _
    cases hb : FAb s w l[i] with
    | true => simp
    | false =>
      rw [if_neg (by simp), ih (i + 1) (by omega)]
      rfl
theorem p_l5All : c_spec_l5All M s w l = some ((AH s w l, ()), ()) := by
  apply e_spec_l5All
  have := p_l5All_loop s hg w hw l hl l.length 0 (by omega)
  rw [show ((0 : Nat) : Int) = 0 from rfl, List.drop_zero] at this
  simp only [q_spec_l5All, sign_eta', world_eta, this, Option.bind_some, AH]
  by_cases h : l.all (fun c => !FAb s w c) = true
  · rw [if_pos h, h]; rfl
  · rw [if_neg h]; rw [Bool.not_eq_true] at h; rw [h]; rfl
end
end Go.Proofs.YtkdceefdipljaaaGreatFwo.Ev

/- Plain laws: how many worlds there are, and the world with a number, by both programs. No condition but sizes. -/
namespace Go.Proofs.YtkdceefdipljaaaGreatFwo.Ev
open Go
set_option autoImplicit false
set_option linter.unusedVariables false
set_option linter.unusedSimpArgs false

/-! ### How many -/
def mn (n : Int) : Int := if (10000 : Int) < n then 10000 else n
def cI (S : Int) : Nat → Int → Int
  | 0, n => n
  | k + 1, n => cI S k (mn (n * S))
def cS (S : Int) : Nat → Int → Int
  | 0, n => n
  | k + 1, n => if n < 10000 then cS S k (n * S) else n
theorem mul_bd {S n B : Int} (h1 : 1 ≤ S) (h3 : S ≤ 3) (n1 : 1 ≤ n) (nB : n ≤ B) : n ≤ n * S ∧ n * S ≤ 3 * B := by
  have a1 : n * 1 ≤ n * S := Int.mul_le_mul_of_nonneg_left h1 (by omega)
  have a2 : n * S ≤ n * 3 := Int.mul_le_mul_of_nonneg_left h3 (by omega)
  omega
theorem mn_bd {n : Int} (h : 1 ≤ n) : 1 ≤ mn n ∧ mn n ≤ 10000 := by unfold mn; split <;> omega
section
variable {S : Int} (h1 : 1 ≤ S) (h3 : S ≤ 3)
include h1 h3
theorem cI_bd : ∀ (k : Nat) (n : Int), 1 ≤ n → n ≤ 10000 → 1 ≤ cI S k n ∧ cI S k n ≤ 10000 := by
  intro k
  induction k with
  | zero => intro n a b; exact ⟨a, b⟩
  | succ k ih =>
    intro n a b
    have := mul_bd h1 h3 a b
    have := mn_bd (n := n * S) (by omega)
    exact ih _ this.1 this.2
theorem cS_bd : ∀ (k : Nat) (n : Int), 1 ≤ n → n ≤ 30000 → 1 ≤ cS S k n ∧ cS S k n ≤ 30000 := by
  intro k
  induction k with
  | zero => intro n a b; exact ⟨a, b⟩
  | succ k ih =>
    intro n a b
    simp only [cS]
    split
    · have := mul_bd h1 h3 a (B := 9999) (by omega)
      exact ih _ (by omega) (by omega)
    · exact ⟨a, b⟩
theorem cI_top : ∀ k : Nat, cI S k 10000 = 10000 := by
  intro k
  induction k with
  | zero => rfl
  | succ k ih =>
    have := mul_bd h1 h3 (n := 10000) (B := 10000) (by omega) (by omega)
    have : mn (10000 * S) = 10000 := by unfold mn; split <;> omega
    simp only [cI, this, ih]
theorem cI_cS : ∀ (k : Nat) (n : Int), 1 ≤ n → mn (cS S k n) = cI S k (mn n) := by
  intro k
  induction k with
  | zero => intro n _; rfl
  | succ k ih =>
    intro n a
    simp only [cS]
    have hm := mul_bd h1 h3 a (Int.le_refl n)
    by_cases h : n < 10000
    · rw [if_pos h, ih _ (by omega)]
      simp only [cI]
      rw [show mn n = n by unfold mn; rw [if_neg (by omega)]]
    · rw [if_neg h]
      have : mn n = 10000 := by unfold mn; split <;> omega
      rw [this, cI_top h1 h3]
theorem p_cwIn (ar : List Int) (L i : Int) (E : Nat) (hE : E ≤ 1000) : ∀ (k j : Nat) (n : Int), j + k = E → 1 ≤ n → n ≤ 10000 → l_impl_Sign_countWorlds_14950 M S n ar L i E j = some (.inl (S, cI S k n, ar, L, i, ())) := by
  intro k
  induction k with
  | zero =>
    intro j n hj _ _
    apply el_impl_Sign_countWorlds_14950
    simp only [ql_impl_Sign_countWorlds_14950]
    rw [if_neg (by simp; omega)]
    rfl
  | succ k ih =>
    intro j n hj a b
    have hm := mul_bd h1 h3 a b
    have hb := mn_bd (n := n * S) (by omega)
    apply el_impl_Sign_countWorlds_14950
    simp only [ql_impl_Sign_countWorlds_14950]
    rw [if_pos (by simp <;> omega), inc_nat (by omega), w64 (x := n * S) (by omega) (by omega)]
    exact ih (j + 1) (mn (n * S)) (by omega) hb.1 hb.2
theorem p_l5wIn (ar : List Int) (L i : Int) : ∀ (k : Nat) (n : Int), k ≤ 1000 → 1 ≤ n → n ≤ 30000 → l_spec_l5Worlds_14950 M S n k ar L i = some (.inl (S, cS S k n, ar, L, i, ())) := by
  intro k
  induction k with
  | zero =>
    intro n _ _ _
    apply el_spec_l5Worlds_14950
    simp only [ql_spec_l5Worlds_14950]
    rw [if_neg (by simp)]
    rfl
  | succ k ih =>
    intro n hk a b
    apply el_spec_l5Worlds_14950
    simp only [ql_spec_l5Worlds_14950, cS]
    rw [if_pos (by simp <;> omega)]
    by_cases h : n < 10000
    · have hm := mul_bd h1 h3 a (B := 9999) (by omega)
      rw [if_pos (by simpa using h), if_pos h, w64 (x := n * S) (by omega) (by omega), w64 (x := ((k + 1 : Nat) : Int) - 1) (by omega) (by omega), show ((k + 1 : Nat) : Int) - 1 = (k : Int) by omega]
      exact ih (n * S) (by omega) (by omega) (by omega)
    · rw [if_neg (by simpa using h), if_neg h]
end
/-- How many entries a table has. -/
def en (S x : Int) : Nat := (pw S x.toNat).toNat
theorem en_ok {S x : Int} (h1 : 1 ≤ S) (h3 : S ≤ 3) (x0 : 0 ≤ x) (x3 : x ≤ 3) : ((en S x : Nat) : Int) = pw S x.toNat ∧ 1 ≤ en S x ∧ en S x ≤ 27 := by
  have a := pw_pos h1 x.toNat
  have b := pw_le h1 h3 (k := x.toNat) (by omega)
  unfold en
  omega
def CW (S : Int) (a : List Int) (n : Int) : Int := a.foldl (fun n x => cI S (en S x) n) n
def CWs (S : Int) (a : List Int) (n : Int) : Int := a.foldl (fun n x => cS S (en S x) n) n
section
variable {S : Int} (h1 : 1 ≤ S) (h3 : S ≤ 3)
include h1 h3
theorem CW_bd : ∀ (a : List Int) (n : Int), 1 ≤ n → n ≤ 10000 → 1 ≤ CW S a n ∧ CW S a n ≤ 10000 := by
  intro a
  induction a with
  | nil => intro n b c; exact ⟨b, c⟩
  | cons x r ih =>
    intro n b c
    have := cI_bd h1 h3 (en S x) n b c
    exact ih _ this.1 this.2
theorem CWs_mn : ∀ (a : List Int) (n : Int), 1 ≤ n → n ≤ 30000 → mn (CWs S a n) = CW S a (mn n) ∧ 1 ≤ CWs S a n ∧ CWs S a n ≤ 30000 := by
  intro a
  induction a with
  | nil => intro n b c; exact ⟨rfl, b, c⟩
  | cons x r ih =>
    intro n b c
    have hb := cS_bd h1 h3 (en S x) n b c
    obtain ⟨g1, g2, g3⟩ := ih (cS S (en S x) n) hb.1 hb.2
    refine ⟨?_, g2, g3⟩
    show mn (CWs S r (cS S (en S x) n)) = CW S r (cI S (en S x) (mn n))
    rw [g1, cI_cS h1 h3 _ _ b]
variable (s : TSign) (hg : gS s.1 = true)
include hg
theorem p_cw_loop : ∀ (k i : Nat) (n : Int), i + k = s.1.length → 1 ≤ n → n ≤ 10000 → l_impl_Sign_countWorlds_58 M S n s.1 s.1.length i = some (.inl (CW S (s.1.drop i) n, ())) := by
  obtain ⟨s10, sx⟩ := gS_all hg
  intro k
  induction k with
  | zero =>
    intro i n hi _ _
    obtain rfl : i = s.1.length := by omega
    exact el_impl_Sign_countWorlds_58 _ _ _ _ _ (by simp [ql_impl_Sign_countWorlds_58, CW])
  | succ k ih =>
    intro i n hi a b
    have hi1 : i < s.1.length := by omega
    have hx := sx _ (List.getElem_mem hi1)
    obtain ⟨e1, e2, e3⟩ := en_ok h1 h3 hx.1 hx.2
    have hb := cI_bd h1 h3 (en S s.1[i]) n a b
    have hin := p_cwIn h1 h3 s.1 s.1.length i (en S s.1[i]) (by omega) (en S s.1[i]) 0 n (by omega) a b
    rw [show ((0 : Nat) : Int) = 0 from rfl] at hin
    apply el_impl_Sign_countWorlds_58
    simp only [ql_impl_Sign_countWorlds_58]
    rw [if_pos (by simpa using hi1), idx_lt hi1, List.drop_eq_getElem_cons hi1]
    simp only [Option.bind_some, p_entries S h1 h3 _ hx.1 hx.2]
    rw [← e1, hin]
    simp only [Option.bind_some, Sum.elim_inl]
    rw [inc_nat (by omega), ih (i + 1) _ (by omega) hb.1 hb.2]
    rfl
theorem p_l5w_loop : ∀ (k i : Nat) (n : Int), i + k = s.1.length → 1 ≤ n → n ≤ 30000 → l_spec_l5Worlds_58 M S n s.1 s.1.length i = some (.inl (CWs S (s.1.drop i) n, ())) := by
  obtain ⟨s10, sx⟩ := gS_all hg
  intro k
  induction k with
  | zero =>
    intro i n hi _ _
    obtain rfl : i = s.1.length := by omega
    exact el_spec_l5Worlds_58 _ _ _ _ _ (by simp [ql_spec_l5Worlds_58, CWs])
  | succ k ih =>
    intro i n hi a b
    have hi1 : i < s.1.length := by omega
    have hx := sx _ (List.getElem_mem hi1)
    obtain ⟨e1, e2, e3⟩ := en_ok h1 h3 hx.1 hx.2
    have hb := cS_bd h1 h3 (en S s.1[i]) n a b
    have hin := p_l5wIn h1 h3 s.1 s.1.length i (en S s.1[i]) n (by omega) a b
    apply el_spec_l5Worlds_58
    simp only [ql_spec_l5Worlds_58]
    rw [if_pos (by simpa using hi1), idx_lt hi1, List.drop_eq_getElem_cons hi1]
    simp only [Option.bind_some, p_l5Long S h1 h3 _ hx.1 hx.2]
    rw [← e1, hin]
    simp only [Option.bind_some, Sum.elim_inl]
    rw [inc_nat (by omega), ih (i + 1) _ (by omega) hb.1 hb.2]
    rfl
theorem p_countWorlds : c_impl_Sign_countWorlds M s S = some ((CW S s.1 1, ()), ()) := by
  apply e_impl_Sign_countWorlds
  have := p_cw_loop h1 h3 s hg s.1.length 0 1 (by omega) (by omega) (by omega)
  rw [show ((0 : Nat) : Int) = 0 from rfl, List.drop_zero] at this
  simp only [q_impl_Sign_countWorlds, this, Option.bind_some, Sum.elim_inl]
theorem p_l5Worlds : c_spec_l5Worlds M s S = some ((CW S s.1 1, ()), ()) := by
  apply e_spec_l5Worlds
  have := p_l5w_loop h1 h3 s hg s.1.length 0 1 (by omega) (by omega) (by omega)
  rw [show ((0 : Nat) : Int) = 0 from rfl, List.drop_zero] at this
  obtain ⟨g1, g2, g3⟩ := CWs_mn h1 h3 s.1 1 (by omega) (by omega)
  have hl : c_spec_l1Least M (CWs S s.1 1) 10000 = some ((mn (CWs S s.1 1), ()), ()) := by
    apply e_spec_l1Least
    simp only [q_spec_l1Least, mn]
    by_cases h : CWs S s.1 1 < 10000
    · rw [if_pos (by simpa using h), if_neg (by omega)]
    · rw [if_neg (by simpa using h)]
      by_cases h' : 10000 < CWs S s.1 1
      · rw [if_pos h']
      · rw [if_neg h', show CWs S s.1 1 = 10000 by omega]
  simp only [q_spec_l5Worlds, this, Option.bind_some, Sum.elim_inl, hl]
  rw [g1]
  rfl
end

/-! ### The world with a number -/
def dg (S : Int) : Nat → Int → List Int
  | 0, _ => []
  | k + 1, no => Int.tmod no S :: dg S k (Int.tdiv no S)
def nr (S : Int) : Nat → Int → Int
  | 0, no => no
  | k + 1, no => nr S k (Int.tdiv no S)
theorem dg_len (S : Int) : ∀ (k : Nat) (no : Int), (dg S k no).length = k := by
  intro k
  induction k with
  | zero => intro no; rfl
  | succ k ih => intro no; simp [dg, ih]
theorem tdiv_bd {S no : Int} (h1 : 1 ≤ S) (n0 : 0 ≤ no) : 0 ≤ Int.tdiv no S ∧ Int.tdiv no S ≤ no ∧ 0 ≤ Int.tmod no S ∧ Int.tmod no S < S := by
  refine ⟨Int.tdiv_nonneg n0 (by omega), ?_, Int.tmod_nonneg _ n0, Int.tmod_lt_of_pos _ (by omega)⟩
  rw [Int.tdiv_eq_ediv_of_nonneg n0]
  exact Int.ediv_le_self _ n0
theorem dg_el {S : Int} (h1 : 1 ≤ S) : ∀ (k : Nat) (no : Int), 0 ≤ no → elOK S (dg S k no) = true := by
  intro k
  induction k with
  | zero => intro no _; rfl
  | succ k ih =>
    intro no n0
    have := tdiv_bd h1 n0
    have hi := ih (Int.tdiv no S) this.1
    simp only [elOK, dg, List.all_cons, Bool.and_eq_true, decide_eq_true_eq] at hi ⊢
    exact ⟨⟨this.2.2.1, this.2.2.2⟩, hi⟩
theorem nr_bd {S : Int} (h1 : 1 ≤ S) : ∀ (k : Nat) (no : Int), 0 ≤ no → 0 ≤ nr S k no ∧ nr S k no ≤ no := by
  intro k
  induction k with
  | zero => intro no h; exact ⟨h, Int.le_refl _⟩
  | succ k ih =>
    intro no n0
    have := tdiv_bd h1 n0
    have hi := ih (Int.tdiv no S) this.1
    exact ⟨hi.1, by have : nr S (k + 1) no = nr S k (Int.tdiv no S) := rfl; omega⟩
def wa (S : Int) : List Int → Int → List (List Int)
  | [], _ => []
  | x :: r, no => dg S (en S x) no :: wa S r (nr S (en S x) no)
theorem wa_len (S : Int) : ∀ (a : List Int) (no : Int), (wa S a no).length = a.length := by
  intro a
  induction a with
  | nil => intro no; rfl
  | cons x r ih => intro no; simp [wa, ih]
/-- The world with a number. -/
def WW (S : Int) (a : List Int) (no : Int) : TWorld := (S, wa S a no, ())
theorem wa_tab {S : Int} (h1 : 1 ≤ S) (h3 : S ≤ 3) : ∀ (a : List Int) (no : Int), (∀ x ∈ a, 0 ≤ x ∧ x ≤ 3) → 0 ≤ no → tabOK S a (wa S a no) = true ∧ ∀ y ∈ wa S a no, smS y := by
  intro a
  induction a with
  | nil => intro no _ _; exact ⟨rfl, by simp [wa]⟩
  | cons x r ih =>
    intro no hx n0
    have hx0 := hx x (by simp)
    obtain ⟨e1, e2, e3⟩ := en_ok h1 h3 hx0.1 hx0.2
    obtain ⟨g1, g2⟩ := ih (nr S (en S x) no) (fun y hy => hx y (by simp [hy])) (nr_bd h1 _ _ n0).1
    refine ⟨?_, ?_⟩
    · simp only [wa, tabOK, Bool.and_eq_true, decide_eq_true_eq]
      exact ⟨by rw [dg_len]; exact e1, dg_el h1 _ _ n0, g1⟩
    · intro y hy
      simp only [wa, List.mem_cons] at hy
      rcases hy with rfl | hy
      · unfold smS; rw [dg_len]; omega
      · exact g2 y hy
theorem WW_ok {S : Int} (h1 : 1 ≤ S) (h3 : S ≤ 3) {a : List Int} (hg : gS a = true) {no : Int} (n0 : 0 ≤ no) : wOK a (WW S a no) = true ∧ (WW S a no).2.1.length ≤ 10 ∧ ∀ y ∈ (WW S a no).2.1, smS y := by
  obtain ⟨a10, ax⟩ := gS_all hg
  obtain ⟨g1, g2⟩ := wa_tab h1 h3 a no ax n0
  refine ⟨?_, ?_, g2⟩
  · simp only [wOK, WW, Bool.and_eq_true, decide_eq_true_eq]
    exact ⟨decide_eq_true h1, decide_eq_true h3, decide_eq_true (wa_len S a no), g1⟩
  · simp only [WW]; rw [wa_len]; omega
section
variable {S : Int} (h1 : 1 ≤ S) (h3 : S ≤ 3)
include h1 h3
theorem p_waIn (w0 w1 : TWorld) (ar : List Int) (L i : Int) (E : Nat) (hE : E ≤ 1000) : ∀ (k j : Nat) (o : List Int) (no : Int), o.length = j → j + k = E → 0 ≤ no → no ≤ 1000000 → l_impl_Sign_worldAt_59802 M S no w0 w1 (o ++ List.replicate k 0) ar L i E j = some (.inl (S, nr S k no, w0, w1, o ++ dg S k no, ar, L, i, ())) := by
  intro k
  induction k with
  | zero =>
    intro j o no ho hj _ _
    apply el_impl_Sign_worldAt_59802
    simp only [ql_impl_Sign_worldAt_59802]
    rw [if_neg (by simp; omega)]
    rfl
  | succ k ih =>
    intro j o no ho hj a b
    have hd := tdiv_bd h1 a
    apply el_impl_Sign_worldAt_59802
    simp only [ql_impl_Sign_worldAt_59802]
    rw [if_pos (by simp <;> omega), if_neg (by omega), if_pos (by simp <;> omega), Int.toNat_natCast]
    have hset : (o ++ List.replicate (k + 1) (0 : Int)).set j (Int.tmod no S) = (o ++ [Int.tmod no S]) ++ List.replicate k 0 := by
      rw [List.replicate_succ, List.set_append_right _ _ (by omega), ho, Nat.sub_self, List.set_cons_zero, List.append_assoc]
      rfl
    have hget : (o ++ List.replicate (k + 1) (0 : Int))[j]? = some 0 := by
      rw [List.getElem?_append_right (by omega), ho, Nat.sub_self]
      rfl
    rw [hget]
    simp only [Option.bind_some]
    rw [if_neg (by omega), hset, inc_nat (by omega), w64 (x := Int.tdiv no S) (by omega) (by omega)]
    have := ih (j + 1) (o ++ [Int.tmod no S]) (Int.tdiv no S) (by simp [ho]) (by omega) hd.1 (by omega)
    simp only [world_eta]
    rw [this, List.append_assoc]
    rfl
theorem p_l5waIn (w0 w1 : TWorld) (ar : List Int) (L i : Int) : ∀ (k : Nat) (o : List Int) (no : Int), o.length + k ≤ 1000 → 0 ≤ no → no ≤ 1000000 → l_spec_l5WorldAt_59802 M S no w0 w1 o k ar L i = some (.inl (S, nr S k no, w0, w1, o ++ dg S k no, ar, L, i, ())) := by
  intro k
  induction k with
  | zero =>
    intro o no ho _ _
    apply el_spec_l5WorldAt_59802
    simp only [ql_spec_l5WorldAt_59802]
    rw [if_neg (by simp)]
    simp [dg, nr, world_eta]
  | succ k ih =>
    intro o no ho a b
    have hd := tdiv_bd h1 a
    apply el_spec_l5WorldAt_59802
    simp only [ql_spec_l5WorldAt_59802]
    rw [if_pos (by simp <;> omega), if_neg (by omega), if_pos (by simp <;> omega), if_neg (by omega), w64 (x := Int.tdiv no S) (by omega) (by omega), w64 (x := ((k + 1 : Nat) : Int) - 1) (by omega) (by omega), show ((k + 1 : Nat) : Int) - 1 = (k : Int) by omega]
    have := ih (o ++ [Int.tmod no S]) (Int.tdiv no S) (by simp; omega) hd.1 (by omega)
    simp only [world_eta]
    rw [this, List.append_assoc]
    rfl
variable (s : TSign) (hg : gS s.1 = true)
include hg
theorem p_wa_loop (w0 : TWorld) : ∀ (k i : Nat) (no : Int) (o : List (List Int)), i + k = s.1.length → o.length = i → 0 ≤ no → no ≤ 1000000 → l_impl_Sign_worldAt_58 M S no w0 (S, o, ()) s.1 s.1.length i = some (.inl (w0, (S, o ++ wa S (s.1.drop i) no, ()), ())) := by
  obtain ⟨s10, sx⟩ := gS_all hg
  intro k
  induction k with
  | zero =>
    intro i no o hi _ _ _
    obtain rfl : i = s.1.length := by omega
    exact el_impl_Sign_worldAt_58 _ _ _ _ _ _ _ (by simp [ql_impl_Sign_worldAt_58, wa, world_eta])
  | succ k ih =>
    intro i no o hi ho a b
    have hi1 : i < s.1.length := by omega
    have hx := sx _ (List.getElem_mem hi1)
    obtain ⟨e1, e2, e3⟩ := en_ok h1 h3 hx.1 hx.2
    have hb := nr_bd h1 (en S s.1[i]) no a
    have hin := p_waIn h1 h3 w0 (S, o, ()) s.1 s.1.length i (en S s.1[i]) (by omega) (en S s.1[i]) 0 [] no rfl (by omega) a b
    rw [show ((0 : Nat) : Int) = 0 from rfl, List.nil_append, List.nil_append] at hin
    apply el_impl_Sign_worldAt_58
    simp only [ql_impl_Sign_worldAt_58]
    rw [if_pos (by simpa using hi1), idx_lt hi1, List.drop_eq_getElem_cons hi1]
    simp only [Option.bind_some, p_entries S h1 h3 _ hx.1 hx.2, world_eta]
    rw [← e1, if_pos ⟨Int.natCast_nonneg _, by have : ((8 : Nat) : Int) = 8 := rfl; omega, trivial⟩, Int.toNat_natCast, List.length_replicate, hin]
    simp only [Option.bind_some, Sum.elim_inl]
    rw [if_pos (by simp <;> omega), inc_nat (by omega), ih (i + 1) _ _ (by omega) (by simp [ho]) hb.1 (by omega), List.append_assoc]
    rfl
theorem p_l5wa_loop (w0 : TWorld) : ∀ (k i : Nat) (no : Int) (o : List (List Int)), i + k = s.1.length → o.length = i → 0 ≤ no → no ≤ 1000000 → l_spec_l5WorldAt_58 M S no w0 (S, o, ()) s.1 s.1.length i = some (.inl (w0, (S, o ++ wa S (s.1.drop i) no, ()), ())) := by
  obtain ⟨s10, sx⟩ := gS_all hg
  intro k
  induction k with
  | zero =>
    intro i no o hi _ _ _
    obtain rfl : i = s.1.length := by omega
    exact el_spec_l5WorldAt_58 _ _ _ _ _ _ _ (by simp [ql_spec_l5WorldAt_58, wa, world_eta])
  | succ k ih =>
    intro i no o hi ho a b
    have hi1 : i < s.1.length := by omega
    have hx := sx _ (List.getElem_mem hi1)
    obtain ⟨e1, e2, e3⟩ := en_ok h1 h3 hx.1 hx.2
    have hb := nr_bd h1 (en S s.1[i]) no a
    have hin := p_l5waIn h1 h3 w0 (S, o, ()) s.1 s.1.length i (en S s.1[i]) [] no (by simp; omega) a b
    rw [List.nil_append] at hin
    apply el_spec_l5WorldAt_58
    simp only [ql_spec_l5WorldAt_58]
    rw [if_pos (by simpa using hi1), idx_lt hi1, List.drop_eq_getElem_cons hi1]
    simp only [Option.bind_some, p_l5Long S h1 h3 _ hx.1 hx.2, world_eta]
    rw [← e1, hin]
    simp only [Option.bind_some, Sum.elim_inl]
    rw [if_pos (by simp <;> omega), inc_nat (by omega), ih (i + 1) _ _ (by omega) (by simp [ho]) hb.1 (by omega), List.append_assoc]
    rfl
theorem p_worldAts (no : Int) (n0 : 0 ≤ no) (nB : no ≤ 1000000) : c_impl_Sign_worldAt M s S no = some ((WW S s.1 no, ()), ()) ∧ c_spec_l5WorldAt M s S no = some ((WW S s.1 no, ()), ()) := by
  have a := p_wa_loop h1 h3 s hg (0, [], ()) s.1.length 0 no [] (by omega) rfl n0 nB
  have b := p_l5wa_loop h1 h3 s hg (0, [], ()) s.1.length 0 no [] (by omega) rfl n0 nB
  rw [show ((0 : Nat) : Int) = 0 from rfl, List.drop_zero, List.nil_append] at a b
  refine ⟨e_impl_Sign_worldAt _ _ _ ?_, e_spec_l5WorldAt _ _ _ ?_⟩
  · simp only [q_impl_Sign_worldAt, a, Option.bind_some, Sum.elim_inl]; rfl
  · simp only [q_spec_l5WorldAt, b, Option.bind_some, Sum.elim_inl]; rfl
end
end Go.Proofs.YtkdceefdipljaaaGreatFwo.Ev
