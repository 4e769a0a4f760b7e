/- Plain laws: rows of rows and worlds, as the laws copy, compare and count them. No condition but sizes. -/
import Derived.Test.YtejklhcalinhpaaOwPBa
import Derived.Test.YtejklhcalinhpaaOwPA
namespace Go.Proofs.YtejklhcalinhpaaOw.Ev
open Go
set_option autoImplicit false
set_option linter.unusedVariables false
set_option linter.unusedSimpArgs false

/-- A list of no more than 2^20 numbers. -/
def smS (x : List Int) : Prop := x.length ≤ 1048576
theorem p_toIntSS_loop (a : List (List Int)) (ha : a.length ≤ 1048576) (hx : ∀ x ∈ a, smS x) : ∀ k i : Nat, i + k = a.length → ∀ o : List (List Int), o.length = a.length → l_laws_toIntSS_58 M a o i = some (.inl (o.take i ++ a.drop i, ())) := by
  intro k
  induction k with
  | zero =>
    intro i hi o ho
    obtain rfl : i = a.length := by omega
    apply el_laws_toIntSS_58
    simp only [ql_laws_toIntSS_58, Int.lt_irrefl, decide_false, Bool.false_eq_true, if_false, List.drop_length, List.append_nil]
    rw [← ho, List.take_length]
  | succ k ih =>
    intro i hi o ho
    apply el_laws_toIntSS_58
    have h1 : i < a.length := by omega
    have h2 : i < o.length := by omega
    simp only [ql_laws_toIntSS_58]
    rw [if_pos (by simpa using h1), idx_lt h1, inc_nat (by omega)]
    simp only [Option.bind_some, p_toIntS a[i] (by have := hx _ (List.getElem_mem h1); unfold smS at this; omega)]
    rw [if_pos (by omega)]
    simp only [Option.bind_some, Int.toNat_natCast, List.getElem?_eq_getElem h2]
    rw [ih (i + 1) (by omega) _ (by simpa using ho)]
    rw [List.take_set, List.take_succ_eq_append_getElem h2, List.set_append_right _ _ (by simp; omega), List.drop_eq_getElem_cons h1]
    simp [Nat.min_eq_left (Nat.le_of_lt h2)]

theorem p_toIntSS (a : List (List Int)) (ha : a.length ≤ 1048576) (hx : ∀ x ∈ a, smS x) : c_laws_toIntSS M a = some ((a, ()), ()) := by
  apply e_laws_toIntSS
  simp only [q_laws_toIntSS]
  rw [if_pos (by refine ⟨by omega, by omega, trivial⟩)]
  have := p_toIntSS_loop a ha hx a.length 0 (by omega) (List.replicate a.length []) (by simp)
  simp only [Int.toNat_natCast]
  rw [show ((0 : Nat) : Int) = 0 from rfl] at this
  rw [this]
  simp

theorem p_eqIntSS_loop (a : List (List Int)) (ha : a.length ≤ 1048576) (hx : ∀ x ∈ a, smS x) : ∀ k i : Nat, i + k = a.length → l_laws_eqIntSS_58 M a a i = some (.inl ()) := by
  intro k
  induction k with
  | zero =>
    intro i hi
    obtain rfl : i = a.length := by omega
    apply el_laws_eqIntSS_58
    simp only [ql_laws_eqIntSS_58, Int.lt_irrefl, decide_false, Bool.false_eq_true, if_false]
  | succ k ih =>
    intro i hi
    apply el_laws_eqIntSS_58
    have h1 : i < a.length := by omega
    simp only [ql_laws_eqIntSS_58]
    rw [if_pos (by simpa using h1), idx_lt h1, inc_nat (by omega)]
    simp only [Option.bind_some, p_eqIntS a[i] (by have := hx _ (List.getElem_mem h1); unfold smS at this; omega), Bool.not_true, Bool.false_eq_true, if_false]
    exact ih (i + 1) (by omega)
theorem p_eqIntSS (a : List (List Int)) (ha : a.length ≤ 1048576) (hx : ∀ x ∈ a, smS x) : c_laws_eqIntSS M a a = some ((true, ()), ()) := by
  apply e_laws_eqIntSS
  simp only [q_laws_eqIntSS, bne_self_eq_false, Bool.false_eq_true, if_false]
  have := p_eqIntSS_loop a ha hx a.length 0 (by omega)
  rw [show ((0 : Nat) : Int) = 0 from rfl] at this
  rw [this]
  rfl

def wlS (x : List Int) : Prop := x.length ≤ 9223372036854775807
theorem p_szRow (x : List Int) (n : Int) (hn : 0 ≤ n) (hn' : n ≤ 1048576) (hx : wlS x) : ∃ r : Int, c_laws_szIntS M x n = some ((r, ()), ()) ∧ r ≤ n ∧ (0 ≤ r → smS x) :=
  ⟨_, p_szIntS x n hn hn' hx, by split <;> omega, by unfold smS; split <;> omega⟩
theorem p_szIntSS_loop (a : List (List Int)) (ha : a.length ≤ 1048576) (hx : ∀ x ∈ a, wlS x) : ∀ (k i : Nat) (n : Int), i + k = a.length → 0 ≤ n → n ≤ 1048576 → (∀ x ∈ a.take i, smS x) →
    ∃ r, l_laws_szIntSS_122 M a n i = some r ∧ (match r with | .inl y => 0 ≤ y.1 ∧ y.1 ≤ n ∧ ∀ x ∈ a, smS x | .inr y => y.1.1 = -1) := by
  intro k
  induction k with
  | zero =>
    intro i n hi h0 hn hs
    obtain rfl : i = a.length := by omega
    refine ⟨.inl (n, ()), el_laws_szIntSS_122 _ _ _ (by simp [ql_laws_szIntSS_122]), h0, Int.le_refl _, by simpa using hs⟩
  | succ k ih =>
    intro i n hi h0 hn hs
    have h1 : i < a.length := by omega
    obtain ⟨m, hm, hm1, hm2⟩ := p_szRow a[i] n h0 hn (hx _ (List.getElem_mem h1))
    by_cases hneg : m < 0
    · refine ⟨.inr ((-1, ()), ()), el_laws_szIntSS_122 _ _ _ ?_, rfl⟩
      simp only [ql_laws_szIntSS_122]
      rw [if_pos (by simpa using h1), idx_lt h1]
      simp only [Option.bind_some, hm]
      rw [if_pos (by simpa using hneg)]
    · obtain ⟨r, hr, hp⟩ := ih (i + 1) m (by omega) (by omega) (by omega) (by
        intro x hx'
        rw [List.take_succ_eq_append_getElem h1] at hx'
        rcases List.mem_append.1 hx' with h | h
        · exact hs x h
        · rw [List.mem_singleton.1 h]; exact hm2 (by omega))
      refine ⟨r, el_laws_szIntSS_122 _ _ _ ?_, ?_⟩
      · simp only [ql_laws_szIntSS_122]
        rw [if_pos (by simpa using h1), idx_lt h1, inc_nat (by omega)]
        simp only [Option.bind_some, hm]
        rw [if_neg (by simpa using hneg)]
        exact hr
      · cases r with
        | inl y => exact ⟨hp.1, by have := hp.2.1; omega, hp.2.2⟩
        | inr y => exact hp
theorem p_szIntSS (a : List (List Int)) (n : Int) (hn : 0 ≤ n) (hn' : n ≤ 1048576) (ha : a.length ≤ 9223372036854775807) (hx : ∀ x ∈ a, wlS x) : ∃ r : Int, c_laws_szIntSS M a n = some ((r, ()), ()) ∧ r ≤ n ∧ (0 ≤ r → a.length ≤ 1048576 ∧ ∀ x ∈ a, smS x) := by
  have hw : IntKind.i64.wrap (n - a.length) = n - a.length := w64 (by omega) (by omega)
  by_cases h1 : n - a.length < 0
  · refine ⟨-1, e_laws_szIntSS _ _ ?_, by omega, by omega⟩
    simp only [q_laws_szIntSS, hw]
    rw [if_pos (by simpa using h1)]
  · obtain ⟨r, hr, hp⟩ := p_szIntSS_loop a (by omega) hx a.length 0 (n - a.length) (by omega) (by omega) (by omega) (by simp)
    rw [show ((0 : Nat) : Int) = 0 from rfl] at hr
    cases r with
    | inl y =>
      refine ⟨y.1, e_laws_szIntSS _ _ ?_, by have := hp.2.1; omega, fun _ => ⟨by omega, hp.2.2⟩⟩
      simp only [q_laws_szIntSS, hw]
      rw [if_neg (by simpa using h1), hr]
      rfl
    | inr y =>
      obtain ⟨⟨y, _⟩, _⟩ := y
      simp only at hp
      subst hp
      refine ⟨-1, e_laws_szIntSS _ _ ?_, by omega, by omega⟩
      simp only [q_laws_szIntSS, hw]
      rw [if_neg (by simpa using h1), hr]
      rfl


abbrev TWorld := Int × List (List Int) × Unit
theorem world_eta (x : TWorld) : (x.1, x.2.1, ()) = x := rfl
theorem p_toWorld (x : TWorld) (h : x.2.1.length ≤ 1048576) (hx : ∀ y ∈ x.2.1, smS y) : c_laws_toWorld M x = some ((x, ()), ()) := by
  apply e_laws_toWorld
  simp only [q_laws_toWorld, p_toIntSS x.2.1 h hx, Option.bind_some]
theorem p_eqWorld (x : TWorld) (h : x.2.1.length ≤ 1048576) (hx : ∀ y ∈ x.2.1, smS y) : c_laws_eqWorld M x x = some ((true, ()), ()) := by
  apply e_laws_eqWorld
  simp only [q_laws_eqWorld, p_eqIntSS x.2.1 h hx, Option.bind_some]
  simp
theorem p_szWorld (x : TWorld) (n : Int) (hn : 0 ≤ n) (hn' : n ≤ 1048576) (hl : x.2.1.length ≤ 9223372036854775807) (hx : ∀ y ∈ x.2.1, wlS y) : ∃ r : Int, c_laws_szWorld M x n = some ((r, ()), ()) ∧ r ≤ n ∧ (0 ≤ r → x.2.1.length ≤ 1048576 ∧ ∀ y ∈ x.2.1, smS y) := by
  obtain ⟨r, h1, h2, h3⟩ := p_szIntSS x.2.1 n hn hn' hl hx
  by_cases h : r < 0
  · refine ⟨-1, e_laws_szWorld _ _ ?_, by omega, by omega⟩
    simp only [q_laws_szWorld, h1, Option.bind_some]
    rw [if_pos (by simpa using h)]
  · refine ⟨r, e_laws_szWorld _ _ ?_, h2, h3⟩
    simp only [q_laws_szWorld, h1, Option.bind_some]
    rw [if_neg (by simpa using h)]

/-! ### Powers, elements, worlds -/
def pw (s : Int) : Nat → Int
  | 0 => 1
  | k + 1 => s * pw s k
theorem pw_pos {s : Int} (hs : 1 ≤ s) : ∀ k, 1 ≤ pw s k
  | 0 => Int.le_refl _
  | k + 1 => by
    have h := pw_pos hs k
    have : 1 * 1 ≤ s * pw s k := Int.mul_le_mul hs h (by omega) (by omega)
    simpa [pw] using this
theorem pw_le {s : Int} (h1 : 1 ≤ s) (h3 : s ≤ 3) {k : Nat} (hk : k ≤ 3) : pw s k ≤ 27 := by
  have hs : s = 1 ∨ s = 2 ∨ s = 3 := by omega
  have hk' : k = 0 ∨ k = 1 ∨ k = 2 ∨ k = 3 := by omega
  rcases hs with rfl | rfl | rfl <;> rcases hk' with rfl | rfl | rfl | rfl <;> decide

theorem mul_step {s n : Int} {k : Nat} (h1 : 1 ≤ s) (hn : 0 ≤ n) (hb : n * pw s (k + 1) ≤ 1000000) : 0 ≤ n * s ∧ n * s ≤ 1000000 ∧ (n * s) * pw s k ≤ 1000000 := by
  have hp := pw_pos h1 k
  have h0 : 0 ≤ n * s := Int.mul_nonneg hn (by omega)
  have e : (n * s) * pw s k = n * pw s (k + 1) := by rw [Int.mul_assoc]; rfl
  have : (n * s) * 1 ≤ (n * s) * pw s k := Int.mul_le_mul_of_nonneg_left hp h0
  rw [Int.mul_one] at this
  exact ⟨h0, by omega, by omega⟩

theorem p_l5Long_loop (s : Int) (h1 : 1 ≤ s) : ∀ (k : Nat) (n : Int), 0 ≤ n → n * pw s k ≤ 1000000 → k ≤ 1000 → l_spec_l5Long_28 M s k n = some (.inl (n * pw s k, ())) := by
  intro k
  induction k with
  | zero =>
    intro n _ _ _
    apply el_spec_l5Long_28
    simp [ql_spec_l5Long_28, pw]
  | succ k ih =>
    intro n hn hb hk
    obtain ⟨g0, g1, g2⟩ := mul_step h1 hn hb
    apply el_spec_l5Long_28
    simp only [ql_spec_l5Long_28]
    rw [if_pos (by simp <;> omega), w64 (x := n * s) (by omega) (by omega), w64 (by omega) (by omega), show ((k + 1 : Nat) : Int) - 1 = (k : Int) by omega, ih (n * s) g0 g2 (by omega), Int.mul_assoc]
    rfl
theorem p_l5Long (s : Int) (h1 : 1 ≤ s) (h3 : s ≤ 3) (k : Int) (k0 : 0 ≤ k) (k3 : k ≤ 3) : c_spec_l5Long M s k = some ((pw s k.toNat, ()), ()) := by
  apply e_spec_l5Long
  have := p_l5Long_loop s h1 k.toNat 1 (by omega) (by have := pw_le h1 h3 (k := k.toNat) (by omega); omega) (by omega)
  rw [show ((k.toNat : Nat) : Int) = k by omega, Int.one_mul] at this
  simp only [q_spec_l5Long, this, Option.bind_some, Sum.elim_inl]

theorem p_entries_loop (s : Int) (h1 : 1 ≤ s) (m : Nat) (hm : m ≤ 1000) : ∀ (k i : Nat) (n : Int), i + k = m → 0 ≤ n → n * pw s k ≤ 1000000 → l_impl_entries_58 M s n m i = some (.inl (n * pw s k, ())) := by
  intro k
  induction k with
  | zero =>
    intro i n hi _ _
    obtain rfl : i = m := by omega
    apply el_impl_entries_58
    simp [ql_impl_entries_58, pw]
  | succ k ih =>
    intro i n hi hn hb
    obtain ⟨g0, g1, g2⟩ := mul_step h1 hn hb
    apply el_impl_entries_58
    simp only [ql_impl_entries_58]
    rw [if_pos (by simp <;> omega), w64 (x := n * s) (by omega) (by omega), inc_nat (by omega), ih (i + 1) (n * s) (by omega) g0 g2, Int.mul_assoc]
    rfl
theorem p_entries (s : Int) (h1 : 1 ≤ s) (h3 : s ≤ 3) (k : Int) (k0 : 0 ≤ k) (k3 : k ≤ 3) : c_impl_entries M s k = some ((pw s k.toNat, ()), ()) := by
  apply e_impl_entries
  have := p_entries_loop s h1 k.toNat (by omega) k.toNat 0 1 (by omega) (by omega) (by have := pw_le h1 h3 (k := k.toNat) (by omega); omega)
  rw [show ((k.toNat : Nat) : Int) = k by omega, Int.one_mul, show ((0 : Nat) : Int) = 0 from rfl] at this
  simp only [q_impl_entries, this, Option.bind_some, Sum.elim_inl]

/-- Numbers of elements. -/
def elOK (s : Int) (l : List Int) : Bool := l.all fun x => decide (0 ≤ x) && decide (x < s)
theorem p_ae1 (x s : Int) : c_impl_areElements_1 M x s = some ((!(decide (0 ≤ x) && decide (x < s)), ()), ()) := by
  apply e_impl_areElements_1
  simp only [q_impl_areElements_1, decide_eq_true_eq]
  by_cases h : x < 0
  · rw [if_pos h]; simp; omega
  · rw [if_neg h]
    have h0 : 0 ≤ x := by omega
    rw [decide_eq_true h0, Bool.true_and]
    by_cases h3 : x < s
    · rw [decide_eq_true h3, decide_eq_false (by omega)]; rfl
    · rw [decide_eq_false h3, decide_eq_true (by omega)]; rfl
theorem p_aeIdx_loop (s : Int) (a : List Int) (ha : a.length ≤ 17592186044416) : ∀ k i : Nat, i + k = a.length → ∃ r, l_slices_IndexFunc_int_int__impl_areElements_1_26 M a (s, ()) a.length i = some r ∧ (match r with | .inl _ => (a.drop i).all (fun x => decide (0 ≤ x) && decide (x < s)) = true | .inr r => 0 ≤ r.1.1 ∧ (a.drop i).all (fun x => decide (0 ≤ x) && decide (x < s)) = false) := by
  intro k
  induction k with
  | zero =>
    intro i hi
    obtain rfl : i = a.length := by omega
    refine ⟨.inl (), el_slices_IndexFunc_int_int__impl_areElements_1_26 _ _ _ _ (by simp [ql_slices_IndexFunc_int_int__impl_areElements_1_26]), by simp⟩
  | succ k ih =>
    intro i hi
    have h1 : i < a.length := by omega
    obtain ⟨r, hr, hm⟩ := ih (i + 1) (by omega)
    rw [List.drop_eq_getElem_cons h1, List.all_cons]
    by_cases hp : (decide (0 ≤ a[i]) && decide (a[i] < s)) = true
    · refine ⟨r, el_slices_IndexFunc_int_int__impl_areElements_1_26 _ _ _ _ ?_, by rw [hp, Bool.true_and]; exact hm⟩
      simp only [ql_slices_IndexFunc_int_int__impl_areElements_1_26]
      rw [if_pos (by simpa using h1), idx_lt h1, inc_nat (by omega)]
      simp only [Option.bind_some, p_ae1, hp, Bool.not_true, Bool.false_eq_true, if_false]
      exact hr
    · rw [Bool.not_eq_true] at hp
      refine ⟨.inr (((i : Int), ()), ()), el_slices_IndexFunc_int_int__impl_areElements_1_26 _ _ _ _ ?_, Int.natCast_nonneg i, by rw [hp, Bool.false_and]⟩
      simp only [ql_slices_IndexFunc_int_int__impl_areElements_1_26]
      rw [if_pos (by simpa using h1), idx_lt h1]
      simp only [Option.bind_some, p_ae1, hp, Bool.not_false, if_true]

theorem p_aeContains (s : Int) (a : List Int) (ha : a.length ≤ 17592186044416) : c_slices_ContainsFunc_int_int__impl_areElements_1 M a (s, ()) = some ((!(a.all (fun x => decide (0 ≤ x) && decide (x < s))), ()), ()) := by
  apply e_slices_ContainsFunc_int_int__impl_areElements_1
  simp only [q_slices_ContainsFunc_int_int__impl_areElements_1]
  obtain ⟨r, hr, hm⟩ := p_aeIdx_loop s a ha a.length 0 (by omega)
  rw [show ((0 : Nat) : Int) = 0 from rfl] at hr
  rw [List.drop_zero] at hm
  cases r with
  | inl r =>
    rw [e_slices_IndexFunc_int_int__impl_areElements_1 a (s, ()) (r := ((-1, ()), ())) (by simp only [q_slices_IndexFunc_int_int__impl_areElements_1, hr, Option.bind_some, Sum.elim_inl])]
    simp only at hm
    simp [hm]
  | inr r =>
    rw [e_slices_IndexFunc_int_int__impl_areElements_1 a (s, ()) (r := r) (by simp only [q_slices_IndexFunc_int_int__impl_areElements_1, hr, Option.bind_some, Sum.elim_inr])]
    simp only at hm
    simp [hm]


theorem p_areElements (s : Int) (l : List Int) (hl : l.length ≤ 17592186044416) : c_impl_areElements M s l = some ((elOK s l, ()), ()) := by
  apply e_impl_areElements
  simp only [q_impl_areElements, p_aeContains s l hl, Option.bind_some, Bool.not_not, elOK]
theorem p_elAll (s : Int) (l : List Int) (hl : l.length ≤ 17592186044416) (h1 : 1 ≤ s) (h3 : s ≤ 3) : c_spec_l1All M l 0 (IntKind.i64.wrap (s - 1)) = some ((elOK s l, ()), ()) := by
  rw [w64 (by omega) (by omega), p_l1All l 0 (s - 1) hl]
  simp only [elOK, Option.some.injEq, Prod.mk.injEq, and_true]
  congr 1
  funext x
  rw [show decide (x ≤ s - 1) = decide (x < s) by rw [decide_eq_decide]; omega]

def tabOK (s : Int) : List Int → List (List Int) → Bool
  | k :: ks, t :: ts => decide ((t.length : Int) = pw s k.toNat) && (elOK s t && tabOK s ks ts)
  | _, _ => true
/-- A world that fits a signature. -/
def wOK (a : List Int) (w : TWorld) : Bool := decide (1 ≤ w.1) && (decide (w.1 ≤ 3) && (decide (w.2.1.length = a.length) && tabOK w.1 a w.2.1))

theorem gS_all {a : List Int} (hg : gS a = true) : a.length ≤ 10 ∧ ∀ x ∈ a, 0 ≤ x ∧ x ≤ 3 := by
  simp only [gS, Bool.and_eq_true, List.all_eq_true, decide_eq_true_eq] at hg
  exact ⟨hg.2.1, fun x hx => by simpa using hg.2.2.1 x hx⟩

theorem p_l5World_loop (s : TSign) (hg : gS s.1 = true) (w : TWorld) (h1 : 1 ≤ w.1) (h3 : w.1 ≤ 3) (hl : w.2.1.length = s.1.length) (hx : ∀ y ∈ w.2.1, smS y) : ∀ k i : Nat, i + k = w.2.1.length → l_spec_l5World_58 M s w w.2.1 w.2.1.length i = some (if tabOK w.1 (s.1.drop i) (w.2.1.drop i) = true then .inl () else .inr ((false, ()), ())) := by
  obtain ⟨g1, g2⟩ := gS_all hg
  intro k
  induction k with
  | zero =>
    intro i hi
    obtain rfl : i = w.2.1.length := by omega
    apply el_spec_l5World_58
    simp [ql_spec_l5World_58, tabOK]
  | succ k ih =>
    intro i hi
    have h0 : i < w.2.1.length := by omega
    have h0' : i < s.1.length := by omega
    have ha := g2 _ (List.getElem_mem h0')
    have hy := hx _ (List.getElem_mem h0)
    unfold smS at hy
    apply el_spec_l5World_58
    rw [List.drop_eq_getElem_cons h0, List.drop_eq_getElem_cons h0']
    simp only [ql_spec_l5World_58]
    rw [if_pos (by simpa using h0), idx_lt h0, idx_lt h0', inc_nat (by omega)]
    simp only [Option.bind_some, p_l5Long w.1 h1 h3 _ ha.1 ha.2, p_elAll w.1 _ (show (w.2.1[i]).length ≤ 17592186044416 by omega) h1 h3, sign_eta', world_eta, ih (i + 1) (by omega)]
    by_cases e : ((w.2.1[i]).length : Int) = pw w.1 (s.1[i]).toNat
    · rw [if_neg (by simpa using e)]
      cases hE : elOK w.1 w.2.1[i] <;> simp [tabOK, e, hE]
    · rw [if_pos (by simpa using e)]; simp [tabOK, e]
theorem p_isWorld_loop (s : TSign) (hg : gS s.1 = true) (w : TWorld) (h1 : 1 ≤ w.1) (h3 : w.1 ≤ 3) (hl : w.2.1.length = s.1.length) (hx : ∀ y ∈ w.2.1, smS y) : ∀ k i : Nat, i + k = w.2.1.length → l_impl_Sign_isWorld_58 M s w w.2.1 w.2.1.length i = some (if tabOK w.1 (s.1.drop i) (w.2.1.drop i) = true then .inl () else .inr ((false, ()), ())) := by
  obtain ⟨g1, g2⟩ := gS_all hg
  intro k
  induction k with
  | zero =>
    intro i hi
    obtain rfl : i = w.2.1.length := by omega
    apply el_impl_Sign_isWorld_58
    simp [ql_impl_Sign_isWorld_58, tabOK]
  | succ k ih =>
    intro i hi
    have h0 : i < w.2.1.length := by omega
    have h0' : i < s.1.length := by omega
    have ha := g2 _ (List.getElem_mem h0')
    have hy := hx _ (List.getElem_mem h0)
    unfold smS at hy
    apply el_impl_Sign_isWorld_58
    rw [List.drop_eq_getElem_cons h0, List.drop_eq_getElem_cons h0']
    simp only [ql_impl_Sign_isWorld_58]
    rw [if_pos (by simpa using h0), idx_lt h0, idx_lt h0', inc_nat (by omega)]
    simp only [Option.bind_some, p_entries w.1 h1 h3 _ ha.1 ha.2, p_areElements w.1 _ (show (w.2.1[i]).length ≤ 17592186044416 by omega), sign_eta', world_eta, ih (i + 1) (by omega)]
    by_cases e : ((w.2.1[i]).length : Int) = pw w.1 (s.1[i]).toNat
    · rw [if_neg (by simpa using e)]
      cases hE : elOK w.1 w.2.1[i] <;> simp [tabOK, e, hE]
    · rw [if_pos (by simpa using e)]; simp [tabOK, e]

theorem p_l5World (s : TSign) (hg : gS s.1 = true) (w : TWorld) (hl : w.2.1.length ≤ 1048576) (hx : ∀ y ∈ w.2.1, smS y) : c_spec_l5World M s w = some ((wOK s.1 w, ()), ()) := by
  apply e_spec_l5World
  simp only [q_spec_l5World, p_l1In, Option.bind_some, sign_eta', world_eta, wOK]
  by_cases h1 : 1 ≤ w.1
  · by_cases h3 : w.1 ≤ 3
    · rw [if_neg (by simp [h1, h3])]
      by_cases he : w.2.1.length = s.1.length
      · have := p_l5World_loop s hg w h1 h3 he hx w.2.1.length 0 (by omega)
        rw [show ((0 : Nat) : Int) = 0 from rfl, List.drop_zero, List.drop_zero] at this
        rw [if_neg (by simp; omega), this]
        cases tabOK w.1 s.1 w.2.1 <;> simp [h1, h3, he]
      · rw [if_pos (by simp; omega)]; simp [he]
    · rw [if_pos (by simp [h3])]; simp [h3]
  · rw [if_pos (by simp [h1])]; simp [h1]
theorem p_isWorld (s : TSign) (hg : gS s.1 = true) (w : TWorld) (hl : w.2.1.length ≤ 1048576) (hx : ∀ y ∈ w.2.1, smS y) : c_impl_Sign_isWorld M s w = some ((wOK s.1 w, ()), ()) := by
  have hsz : c_impl_isSize M w.1 = some ((decide (1 ≤ w.1) && decide (w.1 ≤ 3), ()), ()) := by
    apply e_impl_isSize
    simp only [q_impl_isSize, decide_eq_true_eq]
    by_cases h : w.1 ≥ 1
    · rw [if_pos h, decide_eq_true h]; simp
    · rw [if_neg h, decide_eq_false (by omega)]; rfl
  apply e_impl_Sign_isWorld
  simp only [q_impl_Sign_isWorld, hsz, Option.bind_some, sign_eta', world_eta, wOK]
  by_cases h1 : 1 ≤ w.1
  · by_cases h3 : w.1 ≤ 3
    · rw [if_neg (by simp [h1, h3])]
      by_cases he : w.2.1.length = s.1.length
      · have := p_isWorld_loop s hg w h1 h3 he hx w.2.1.length 0 (by omega)
        rw [show ((0 : Nat) : Int) = 0 from rfl, List.drop_zero, List.drop_zero] at this
        rw [if_neg (by simp; omega), this]
        cases tabOK w.1 s.1 w.2.1 <;> simp [h1, h3, he]
      · rw [if_pos (by simp; omega)]; simp [he]
    · rw [if_pos (by simp [h3])]; simp [h3]
  · rw [if_pos (by simp [h1])]; simp [h1]
theorem p_spec_GoodWorld (s : TSign) (hs : s.1.length ≤ 1048576) (w : TWorld) (hl : w.2.1.length ≤ 1048576) (hx : ∀ y ∈ w.2.1, smS y) : c_spec_GoodWorld M s w = some ((gS s.1 && wOK s.1 w, ()), ()) := by
  apply e_spec_GoodWorld
  simp only [q_spec_GoodWorld, sign_eta', world_eta, p_spec_GoodSign s (by omega), Option.bind_some]
  cases hg : gS s.1 with
  | false => rfl
  | true => rw [if_pos rfl, p_l5World s hg w hl hx]; rfl

theorem tabOK_get {s : Int} : ∀ {a : List Int} {ts : List (List Int)} (i : Nat) (h : i < a.length) (h' : i < ts.length), tabOK s a ts = true → (ts[i].length : Int) = pw s (a[i]).toNat ∧ elOK s ts[i] = true
  | k :: ks, t :: ts, 0, _, _, ht => by
    simp only [tabOK, Bool.and_eq_true, decide_eq_true_eq] at ht
    exact ⟨ht.1, ht.2.1⟩
  | k :: ks, t :: ts, i + 1, h, h', ht => by
    simp only [tabOK, Bool.and_eq_true, decide_eq_true_eq] at ht
    exact tabOK_get i (by simpa using h) (by simpa using h') ht.2.2

end Go.Proofs.YtejklhcalinhpaaOw.Ev
