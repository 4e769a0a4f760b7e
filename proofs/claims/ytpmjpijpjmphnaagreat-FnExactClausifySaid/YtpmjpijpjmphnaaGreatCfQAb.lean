/- Texts laid together: PAa, PBa, QD, QE, PB, PFd, PG, PJ, PO, QAa, PGs, QF, QA, VAa, TAa, TAb, TAc, QAb; no condition but those that each theorem names. -/
import Derived.Test.YtpmjpijpjmphnaaGreatCfEq
/- Plain laws: numbers and rows. No condition but sizes. -/
namespace Go.Proofs.YtpmjpijpjmphnaaGreatCf.Ev
open Go
set_option autoImplicit false
set_option linter.unusedVariables false
set_option linter.unusedSimpArgs false

theorem w64 {x : Int} (h : -9223372036854775808 ≤ x) (k : x < 9223372036854775808) : IntKind.i64.wrap x = x := by
  rw [IntKind.wrap_i64]
  omega
theorem w8 {x : Int} (h : 0 ≤ x) (k : x < 256) : IntKind.u8.wrap x = x := by
  simp only [IntKind.wrap, IntKind.bits, IntKind.signed, Bool.false_and, Bool.false_eq_true, if_false]
  omega
theorem idx_nat {α : Type} (xs : List α) (i : Nat) : idx xs (i : Int) = xs[i]? := by simp [idx]
theorem idx_zero {α : Type} (xs : List α) : idx xs 0 = xs[0]? := by simp [idx]
theorem idx_lt {α : Type} {xs : List α} {i : Nat} (h : i < xs.length) : idx xs (i : Int) = some xs[i] := by simp [idx, h]
theorem inc_nat {i : Nat} (h : i < 4611686018427387904) : IntKind.i64.wrap ((i : Int) + 1) = ((i + 1 : Nat) : Int) := by
  rw [w64 (by omega) (by omega)]; rfl

abbrev TSign := List Int × Unit
abbrev TLit := Bool × List Int × List Int × Unit

/-- Lists of no more than 2^20 numbers. -/
def smL (x : TLit) : Prop := x.2.1.length ≤ 1048576 ∧ x.2.2.1.length ≤ 1048576

end Go.Proofs.YtpmjpijpjmphnaaGreatCf.Ev

/- Plain laws: good signatures. No condition but sizes. -/
namespace Go.Proofs.YtpmjpijpjmphnaaGreatCf.Ev
open Go
set_option autoImplicit false
set_option linter.unusedVariables false
set_option linter.unusedSimpArgs false

theorem p_l1In (x lo hi : Int) : c_spec_l1In M x lo hi = some ((decide (lo ≤ x) && decide (x ≤ hi), ()), ()) := by
  apply e_spec_l1In
  simp only [q_spec_l1In, decide_eq_true_eq]
  by_cases h : x ≥ lo
  · rw [if_pos h]; simp [h]
  · rw [if_neg h]; simp; omega

theorem p_l1All_loop (a : List Int) (lo up : Int) (ha : a.length ≤ 17592186044416) : ∀ k i : Nat, i + k = a.length → l_spec_l1All_26 M lo up a a.length i = some (if (a.drop i).all (fun x => decide (lo ≤ x) && decide (x ≤ up)) = true then .inl () else .inr ((false, ()), ())) := by
  intro k
  induction k with
  | zero =>
    intro i hi
    obtain rfl : i = a.length := by omega
    apply el_spec_l1All_26
    simp [ql_spec_l1All_26]
  | succ k ih =>
    intro i hi
    apply el_spec_l1All_26
    have h1 : i < a.length := by omega
    simp only [ql_spec_l1All_26]
    rw [if_pos (by simpa using h1), idx_lt h1, inc_nat (by omega)]
    simp only [Option.bind_some, p_l1In, ih (i + 1) (by omega)]
    rw [List.drop_eq_getElem_cons h1, List.all_cons]
    generalize (decide (lo ≤ a[i]) && decide (a[i] ≤ up)) = b
    cases b <;> rfl

theorem p_l1All (a : List Int) (lo hi : Int) (ha : a.length ≤ 17592186044416) : c_spec_l1All M a lo hi = some ((a.all (fun x => decide (lo ≤ x) && decide (x ≤ hi)), ()), ()) := by
  apply e_spec_l1All
  simp only [q_spec_l1All]
  have := p_l1All_loop a lo hi ha a.length 0 (by omega)
  rw [show ((0 : Nat) : Int) = 0 from rfl] at this
  rw [this, List.drop_zero]
  cases a.all (fun x => decide (lo ≤ x) && decide (x ≤ hi)) <;> simp

/-- A signature that is good. -/
def gS (a : List Int) : Bool := decide (1 ≤ a.length) && (decide (a.length ≤ 10) && (a.all (fun x => decide (0 ≤ x) && decide (x ≤ 3)) && decide (a[0]? = some 0)))

theorem p_spec_GoodSign (s : TSign) (ha : s.1.length ≤ 17592186044416) : c_spec_GoodSign M s = some ((gS s.1, ()), ()) := by
  apply e_spec_GoodSign
  simp only [q_spec_GoodSign, p_l1In, p_l1All s.1 0 3 ha, Option.bind_some, gS]
  rcases hs : s.1 with _ | ⟨x, r⟩
  · simp
  · rw [idx_zero]
    simp only [List.length_cons, List.getElem?_cons_zero, Option.bind_some]
    by_cases h : r.length + 1 ≤ 10
    · rw [if_pos (by simp; omega)]
      cases (x :: r).all (fun x => decide (0 ≤ x) && decide (x ≤ 3)) <;> simp [h]
      rw [Bool.eq_iff_iff]; simp
    · rw [if_neg (by simp; omega)]
      simp [h]

theorem p_gs1 (x : Int) : c_impl_GoodSign_1 M x = some ((!(decide (0 ≤ x) && decide (x ≤ 3)), ()), ()) := by
  apply e_impl_GoodSign_1
  simp only [q_impl_GoodSign_1, decide_eq_true_eq]
  by_cases h : x < 0
  · rw [if_pos h]; simp; omega
  · rw [if_neg h]
    have h0 : 0 ≤ x := by omega
    rw [decide_eq_true h0, Bool.true_and]
    by_cases h3 : x ≤ 3
    · rw [decide_eq_true h3, decide_eq_false (by omega)]; rfl
    · rw [decide_eq_false h3, decide_eq_true (by omega)]; rfl

theorem p_gsIdx_loop (a : List Int) (ha : a.length ≤ 17592186044416) : ∀ k i : Nat, i + k = a.length → ∃ r, l_slices_IndexFunc_int_int__impl_GoodSign_1_26 M a () a.length i = some r ∧ (match r with | .inl _ => (a.drop i).all (fun x => decide (0 ≤ x) && decide (x ≤ 3)) = true | .inr r => 0 ≤ r.1.1 ∧ (a.drop i).all (fun x => decide (0 ≤ x) && decide (x ≤ 3)) = false) := by
  intro k
  induction k with
  | zero =>
    intro i hi
    obtain rfl : i = a.length := by omega
    refine ⟨.inl (), el_slices_IndexFunc_int_int__impl_GoodSign_1_26 _ _ _ _ (by simp [ql_slices_IndexFunc_int_int__impl_GoodSign_1_26]), by simp⟩
  | succ k ih =>
    intro i hi
    have h1 : i < a.length := by omega
    obtain ⟨r, hr, hm⟩ := ih (i + 1) (by omega)
    rw [List.drop_eq_getElem_cons h1, List.all_cons]
    by_cases hp : (decide (0 ≤ a[i]) && decide (a[i] ≤ 3)) = true
    · refine ⟨r, el_slices_IndexFunc_int_int__impl_GoodSign_1_26 _ _ _ _ ?_, by rw [hp, Bool.true_and]; exact hm⟩
      simp only [ql_slices_IndexFunc_int_int__impl_GoodSign_1_26]
      rw [if_pos (by simpa using h1), idx_lt h1, inc_nat (by omega)]
      simp only [Option.bind_some, p_gs1, hp, Bool.not_true, Bool.false_eq_true, if_false]
      exact hr
    · rw [Bool.not_eq_true] at hp
      refine ⟨.inr (((i : Int), ()), ()), el_slices_IndexFunc_int_int__impl_GoodSign_1_26 _ _ _ _ ?_, Int.natCast_nonneg i, by rw [hp, Bool.false_and]⟩
      simp only [ql_slices_IndexFunc_int_int__impl_GoodSign_1_26]
      rw [if_pos (by simpa using h1), idx_lt h1]
      simp only [Option.bind_some, p_gs1, hp, Bool.not_false, if_true]

theorem p_gsContains (a : List Int) (ha : a.length ≤ 17592186044416) : c_slices_ContainsFunc_int_int__impl_GoodSign_1 M a () = some ((!(a.all (fun x => decide (0 ≤ x) && decide (x ≤ 3))), ()), ()) := by
  apply e_slices_ContainsFunc_int_int__impl_GoodSign_1
  simp only [q_slices_ContainsFunc_int_int__impl_GoodSign_1]
  obtain ⟨r, hr, hm⟩ := p_gsIdx_loop a ha a.length 0 (by omega)
  rw [show ((0 : Nat) : Int) = 0 from rfl] at hr
  rw [List.drop_zero] at hm
  cases r with
  | inl r =>
    rw [e_slices_IndexFunc_int_int__impl_GoodSign_1 a () (r := ((-1, ()), ())) (by simp only [q_slices_IndexFunc_int_int__impl_GoodSign_1, hr, Option.bind_some, Sum.elim_inl])]
    simp only at hm
    simp [hm]
  | inr r =>
    rw [e_slices_IndexFunc_int_int__impl_GoodSign_1 a () (r := r) (by simp only [q_slices_IndexFunc_int_int__impl_GoodSign_1, hr, Option.bind_some, Sum.elim_inr])]
    simp only at hm
    simp [hm]

theorem p_impl_GoodSign (s : TSign) (ha : s.1.length ≤ 17592186044416) : c_impl_GoodSign M s = some ((gS s.1, ()), ()) := by
  apply e_impl_GoodSign
  simp only [q_impl_GoodSign, p_gsContains s.1 ha, Option.bind_some, gS, decide_eq_true_eq]
  rcases hs : s.1 with _ | ⟨x, r⟩
  · simp
  · rw [idx_zero]
    simp only [List.length_cons, List.getElem?_cons_zero, Option.bind_some]
    rw [if_neg (by omega)]
    by_cases h : r.length + 1 ≤ 10
    · rw [if_neg (by omega)]
      by_cases hx : x = 0
      · subst hx; simp [h]
      · rw [if_pos (by simpa using hx)]; simp [hx]
    · rw [if_pos (by omega)]
      simp [h]

theorem sign_eta (x : TSign) : (x.1, ()) = x := rfl
theorem lit_eta (x : TLit) : (x.1, x.2.1, x.2.2.1, ()) = x := rfl
theorem sign_eta' (x : TSign) : (x.1, ()) = x := rfl

end Go.Proofs.YtpmjpijpjmphnaaGreatCf.Ev

/- Plain laws: rows that are searched; rows that rise; variables of terms in rising order. No condition but sizes. -/
namespace Go.Proofs.YtpmjpijpjmphnaaGreatCf.Ev
open Go
set_option autoImplicit false
set_option linter.unusedVariables false
set_option linter.unusedSimpArgs false

theorem p_Index_loop (a : List Int) (x : Int) (ha : a.length ≤ 17592186044416) : ∀ k i : Nat, i + k = a.length → ∃ r, l_slices_Index_int_int_26 M a x a.length i = some r ∧ (match r with | .inl _ => x ∉ a.drop i | .inr r => 0 ≤ r.1.1 ∧ x ∈ a.drop i) := by
  intro k
  induction k with
  | zero =>
    intro i hi
    obtain rfl : i = a.length := by omega
    exact ⟨.inl (), el_slices_Index_int_int_26 _ _ _ _ (by simp [ql_slices_Index_int_int_26]), by simp⟩
  | succ k ih =>
    intro i hi
    have h1 : i < a.length := by omega
    obtain ⟨r, hr, hm⟩ := ih (i + 1) (by omega)
    rw [List.drop_eq_getElem_cons h1]
    by_cases hx : x = a[i]
    · refine ⟨.inr (((i : Int), ()), ()), el_slices_Index_int_int_26 _ _ _ _ ?_, Int.natCast_nonneg i, hx ▸ List.mem_cons_self⟩
      simp only [ql_slices_Index_int_int_26]
      rw [if_pos (by simpa using h1), idx_lt h1]
      simp only [Option.bind_some]
      rw [if_pos (by simpa using hx)]
    · refine ⟨r, el_slices_Index_int_int_26 _ _ _ _ ?_, ?_⟩
      · simp only [ql_slices_Index_int_int_26]
        rw [if_pos (by simpa using h1), idx_lt h1]
        simp only [Option.bind_some]
        rw [if_neg (by simpa using hx), inc_nat (by omega)]
        exact hr
      · cases r with
        | inl r => simp only [List.mem_cons, not_or]; exact ⟨hx, hm⟩
        | inr r => exact ⟨hm.1, List.mem_cons_of_mem _ hm.2⟩
theorem p_Contains (a : List Int) (x : Int) (ha : a.length ≤ 17592186044416) : c_slices_Contains_int_int M a x = some ((decide (x ∈ a), ()), ()) := by
  obtain ⟨r, hr, hm⟩ := p_Index_loop a x ha a.length 0 (by omega)
  rw [show ((0 : Nat) : Int) = 0 from rfl] at hr
  rw [List.drop_zero] at hm
  apply e_slices_Contains_int_int
  cases r with
  | inl r =>
    rw [q_slices_Contains_int_int, e_slices_Index_int_int a x (r := ((-1, ()), ())) (by simp only [q_slices_Index_int_int, hr, Option.bind_some, Sum.elim_inl])]
    have : decide (x ∈ a) = false := by simpa using hm
    rw [this]; rfl
  | inr r =>
    rw [q_slices_Contains_int_int, e_slices_Index_int_int a x (r := r) (by simp only [q_slices_Index_int_int, hr, Option.bind_some, Sum.elim_inr])]
    have : decide (x ∈ a) = true := by simpa using hm.2
    rw [this]
    simp [hm.1]

/-- A row that rises. -/
def Up (l : List Int) : Prop := l.Pairwise (· < ·)
theorem Up.ext {l k : List Int} (hl : Up l) (hk : Up k) (h : ∀ x, x ∈ l ↔ x ∈ k) : l = k := by
  induction l generalizing k with
  | nil =>
    cases k with
    | nil => rfl
    | cons y k => exact absurd ((h y).2 (by simp)) (by simp)
  | cons x l ih =>
    cases k with
    | nil => exact absurd ((h x).1 (by simp)) (by simp)
    | cons y k =>
      have hl' := List.pairwise_cons.1 hl
      have hk' := List.pairwise_cons.1 hk
      have hxy : x = y := by
        have a1 := (h x).1 (by simp)
        have a2 := (h y).2 (by simp)
        rcases List.mem_cons.1 a1 with a1 | a1
        · exact a1
        · rcases List.mem_cons.1 a2 with a2 | a2
          · exact a2.symm
          · have := hl'.1 _ a2; have := hk'.1 _ a1; omega
      subst hxy
      rw [ih hl'.2 hk'.2 fun z => ?_]
      constructor
      · intro hz
        rcases List.mem_cons.1 ((h z).1 (by simp [hz])) with e | e
        · have := hl'.1 _ hz; omega
        · exact e
      · intro hz
        rcases List.mem_cons.1 ((h z).2 (by simp [hz])) with e | e
        · have := hk'.1 _ hz; omega
        · exact e
/-- Some of the numbers from 0 to 11, rising. -/
def upTo (p : Int → Bool) : List Int := ((List.range 12).map Int.ofNat).filter p
theorem upTo_up (p : Int → Bool) : Up (upTo p) := by
  unfold Up upTo
  exact List.Pairwise.filter _ (by decide)
theorem mem_upTo {p : Int → Bool} {v : Int} : v ∈ upTo p ↔ 0 ≤ v ∧ v ≤ 11 ∧ p v = true := by
  simp only [upTo, List.mem_filter, List.mem_map, List.mem_range]
  constructor
  · rintro ⟨⟨n, h, rfl⟩, hp⟩
    exact ⟨Int.natCast_nonneg n, by simp only [Int.ofNat_eq_natCast]; omega, hp⟩
  · rintro ⟨h1, h2, hp⟩
    exact ⟨⟨v.toNat, by omega, by simp only [Int.ofNat_eq_natCast]; omega⟩, hp⟩
theorem upTo_len (p : Int → Bool) : (upTo p).length ≤ 12 := by
  unfold upTo
  exact Nat.le_trans (List.length_filter_le _ _) (by simp)
/-- The loop that gathers them. -/
theorem upTo_part (p : Int → Bool) (i : Nat) (hi : i ≤ 12) : ∀ o, o = (((List.range i).map Int.ofNat).filter p) → (i < 12 → ((((List.range (i + 1)).map Int.ofNat).filter p) = if p i = true then o ++ [(i : Int)] else o)) := by
  intro o ho _
  subst ho
  rw [List.range_succ, List.map_append, List.filter_append]
  simp only [List.map_cons, List.map_nil, Int.ofNat_eq_natCast]
  cases h : p i <;> simp [h]

/-- A number put into a rising row. -/
def putN : List Int → Int → List Int
  | [], n => [n]
  | x :: r, n => if x < n then x :: putN r n else if x = n then x :: r else n :: x :: r
theorem mem_putN {l : List Int} {n x : Int} : x ∈ putN l n ↔ x ∈ l ∨ x = n := by
  induction l with
  | nil => simp [putN]
  | cons y r ih =>
    simp only [putN]
    split
    · simp only [List.mem_cons, ih, or_assoc]
    · split
      · rename_i h; subst h
        simp only [List.mem_cons]
        constructor
        · intro h; exact .inl h
        · rintro (h | rfl)
          · exact h
          · exact .inl rfl
      · simp only [List.mem_cons]
        constructor
        · rintro (h | h)
          · exact .inr h
          · exact .inl h
        · rintro (h | h)
          · exact .inr h
          · exact .inl h
theorem up_putN {l : List Int} (h : Up l) (n : Int) : Up (putN l n) := by
  induction l with
  | nil => simp [putN, Up]
  | cons y r ih =>
    have h' := List.pairwise_cons.1 h
    simp only [putN]
    split
    · refine List.pairwise_cons.2 ⟨fun z hz => ?_, ih h'.2⟩
      rcases mem_putN.1 hz with hz | rfl
      · exact h'.1 _ hz
      · assumption
    · split
      · exact h
      · refine List.pairwise_cons.2 ⟨fun z hz => ?_, h⟩
        rcases List.mem_cons.1 hz with rfl | hz
        · omega
        · have := h'.1 _ hz; omega
theorem putN_len (l : List Int) (n : Int) : (putN l n).length ≤ l.length + 1 := by
  induction l with
  | nil => simp [putN]
  | cons y r ih =>
    simp only [putN]
    split
    · simp only [List.length_cons]; omega
    · split <;> simp
theorem putN_split (n : Int) : ∀ (P R : List Int), (∀ x ∈ P, x < n) → (∀ y, R.head? = some y → n ≤ y) → putN (P ++ R) n = if R.head? = some n then P ++ R else P ++ n :: R
  | [], [], _, _ => by simp [putN]
  | [], y :: R, _, h => by
    have := h y rfl
    simp only [List.nil_append, putN, List.head?_cons, Option.some.injEq]
    rw [if_neg (by omega)]
  | x :: P, R, h, h' => by
    have ih := putN_split n P R (fun y hy => h y (by simp [hy])) h'
    simp only [List.cons_append, putN]
    rw [if_pos (h x (by simp)), ih]
    split <;> rfl

theorem p_l1Put_at (l : List Int) (hl : l.length ≤ 1000) (n : Int) : ∀ k i : Nat, i + k = l.length → (∀ x ∈ l.take i, x < n) → ∃ j : Nat, j ≤ l.length ∧ l_spec_l1Put_28 M l n i = some (.inl (l, n, j, ())) ∧ (∀ x ∈ l.take j, x < n) ∧ (∀ y, (l.drop j).head? = some y → n ≤ y) := by
  intro k
  induction k with
  | zero =>
    intro i hi h
    obtain rfl : i = l.length := by omega
    exact ⟨l.length, Nat.le_refl _, el_spec_l1Put_28 _ _ _ (by simp [ql_spec_l1Put_28]), h, by simp⟩
  | succ k ih =>
    intro i hi h
    have h1 : i < l.length := by omega
    by_cases hx : l[i] < n
    · obtain ⟨j, g2, g3, g4⟩ := ih (i + 1) (by omega) (by
        intro x hx'
        rw [List.take_succ_eq_append_getElem h1, List.mem_append] at hx'
        rcases hx' with hx' | hx'
        · exact h x hx'
        · simp at hx'; omega)
      refine ⟨j, g2, el_spec_l1Put_28 _ _ _ ?_, g4⟩
      simp only [ql_spec_l1Put_28]
      rw [if_pos (by simpa using h1), if_pos (by omega), Int.toNat_natCast, List.getElem?_eq_getElem h1]
      simp only [Option.bind_some]
      rw [if_pos (by simpa using hx), inc_nat (by omega)]
      exact g3
    · refine ⟨i, by omega, el_spec_l1Put_28 _ _ _ ?_, h, ?_⟩
      · simp only [ql_spec_l1Put_28]
        rw [if_pos (by simpa using h1), if_pos (by omega), Int.toNat_natCast, List.getElem?_eq_getElem h1]
        simp only [Option.bind_some]
        rw [if_neg (by simpa using hx)]
      · intro y hy
        rw [List.drop_eq_getElem_cons h1] at hy
        simp only [List.head?_cons, Option.some.injEq] at hy; omega
theorem p_putN (l : List Int) (hl : l.length ≤ 1000) (n : Int) : c_spec_l1Put M l n = some ((putN l n, ()), ()) := by
  obtain ⟨j, g2, g3, g4, g5⟩ := p_l1Put_at l hl n l.length 0 (by omega) (by simp)
  rw [show ((0 : Nat) : Int) = 0 from rfl] at g3
  have key := putN_split n (l.take j) (l.drop j) g4 g5
  rw [List.take_append_drop] at key
  apply e_spec_l1Put
  simp only [q_spec_l1Put, g3, Option.bind_some, Sum.elim_inl]
  by_cases h1 : j < l.length
  · have hh : (l.drop j).head? = some l[j] := by rw [List.drop_eq_getElem_cons h1]; rfl
    rw [if_pos (by simpa using h1), if_pos (by omega), Int.toNat_natCast, List.getElem?_eq_getElem h1]
    simp only [Option.bind_some, Int.toNat_natCast, Int.toNat_zero, List.drop_zero, List.nil_append, List.length_nil, List.length_append, List.length_take, List.length_drop, List.length_cons, List.take_length]
    rw [hh] at key
    by_cases h2 : l[j] = n
    · rw [if_pos (by simpa using h2), key, if_pos (by rw [h2])]
    · rw [if_neg (by simpa using h2), if_pos (by omega), if_pos (by omega), if_pos (by omega), if_pos (by omega), if_pos (by omega), key, if_neg (by simpa using h2)]
      simp
  · have hd : l.drop j = [] := List.drop_of_length_le (by omega)
    rw [hd] at key
    rw [if_neg (by simpa using h1)]
    simp only [Option.bind_some, Int.toNat_natCast, Int.toNat_zero, List.drop_zero, List.nil_append, List.length_nil, List.length_append, List.length_take, List.length_drop, List.length_cons, List.take_length]
    rw [if_pos (by omega), if_pos (by omega), if_pos (by omega), if_pos (by omega), if_pos (by omega), key, hd]
    simp
theorem Up.le12 {L : List Int} (h : Up L) (hb : ∀ v ∈ L, 0 ≤ v ∧ v ≤ 11) : L = upTo (fun v => decide (v ∈ L)) := by
  refine Up.ext h (upTo_up _) fun x => ?_
  rw [mem_upTo]
  constructor
  · intro hx; exact ⟨(hb x hx).1, (hb x hx).2, by simpa using hx⟩
  · rintro ⟨_, _, hx⟩; simpa using hx
theorem Up.len12 {L : List Int} (h : Up L) (hb : ∀ v ∈ L, 0 ≤ v ∧ v ≤ 11) : L.length ≤ 12 := by
  rw [h.le12 hb]; exact upTo_len _

theorem foldPut_len : ∀ (vs o : List Int), (vs.foldl putN o).length ≤ o.length + vs.length
  | [], o => by simp
  | v :: vs, o => by
    have h1 := foldPut_len vs (putN o v)
    have h2 := putN_len o v
    simp only [List.foldl_cons, List.length_cons]
    omega
theorem mem_foldPut : ∀ (vs o : List Int) (x : Int), x ∈ vs.foldl putN o ↔ x ∈ o ∨ x ∈ vs
  | [], o, x => by simp
  | v :: vs, o, x => by
    simp only [List.foldl_cons, mem_foldPut vs, mem_putN, List.mem_cons, or_assoc]
theorem up_foldPut : ∀ (vs o : List Int), Up o → Up (vs.foldl putN o)
  | [], o, h => h
  | v :: vs, o, h => up_foldPut vs _ (up_putN h v)
end Go.Proofs.YtpmjpijpjmphnaaGreatCf.Ev

/- Plain laws: the variables of some terms, in rising order, as the program gathers them. No condition but sizes. -/
namespace Go.Proofs.YtpmjpijpjmphnaaGreatCf.Ev
open Go
set_option autoImplicit false
set_option linter.unusedVariables false
set_option linter.unusedSimpArgs false

theorem p_vi1 (t : List Int) (v : Int) (ht : t.length ≤ 17592186044416) (h0 : -1000 ≤ v) (h1 : v ≤ 1000) : c_impl_varsIn_1 M t v = some ((decide (-1 - v ∈ t), ()), ()) := by
  apply e_impl_varsIn_1
  simp only [q_impl_varsIn_1]
  rw [w64 (x := -1 - v) (by omega) (by omega), p_Contains t _ ht]
  rfl
/-- Whether a variable is in one of some terms. -/
def inV (ts : List (List Int)) (v : Int) : Bool := ts.any fun t => decide (-1 - v ∈ t)
theorem p_viIdx_loop (ts : List (List Int)) (v : Int) (h0 : -1000 ≤ v) (h1 : v ≤ 1000) (hl : ts.length ≤ 17592186044416) (hx : ∀ t ∈ ts, t.length ≤ 17592186044416) : ∀ k i : Nat, i + k = ts.length → ∃ r, l_slices_IndexFunc_SS_int_int__impl_varsIn_1_26 M ts (v, ()) ts.length i = some r ∧ (match r with | .inl _ => inV (ts.drop i) v = false | .inr r => 0 ≤ r.1.1 ∧ inV (ts.drop i) v = true) := by
  intro k
  induction k with
  | zero =>
    intro i hi
    obtain rfl : i = ts.length := by omega
    exact ⟨.inl (), el_slices_IndexFunc_SS_int_int__impl_varsIn_1_26 _ _ _ _ (by simp [ql_slices_IndexFunc_SS_int_int__impl_varsIn_1_26]), by simp [inV]⟩
  | succ k ih =>
    intro i hi
    have h2 : i < ts.length := by omega
    obtain ⟨r, hr, hm⟩ := ih (i + 1) (by omega)
    rw [List.drop_eq_getElem_cons h2]
    have hc := p_vi1 ts[i] v (hx _ (List.getElem_mem h2)) h0 h1
    cases hp : decide (-1 - v ∈ ts[i]) with
    | false =>
      refine ⟨r, el_slices_IndexFunc_SS_int_int__impl_varsIn_1_26 _ _ _ _ ?_, ?_⟩
      · simp only [ql_slices_IndexFunc_SS_int_int__impl_varsIn_1_26]
        rw [if_pos (by simpa using h2), idx_lt h2]
        simp only [Option.bind_some, hc, hp, Bool.false_eq_true, if_false]
        rw [inc_nat (by omega)]
        exact hr
      · cases r with
        | inl r => simp only [inV, List.any_cons, hp, Bool.false_or]; exact hm
        | inr r => simp only [inV, List.any_cons, hp, Bool.false_or]; exact hm
    | true =>
      refine ⟨.inr (((i : Int), ()), ()), el_slices_IndexFunc_SS_int_int__impl_varsIn_1_26 _ _ _ _ ?_, Int.natCast_nonneg i, ?_⟩
      · simp only [ql_slices_IndexFunc_SS_int_int__impl_varsIn_1_26]
        rw [if_pos (by simpa using h2), idx_lt h2]
        simp only [Option.bind_some, hc, hp, if_true]
      · simp only [inV, List.any_cons, hp, Bool.true_or]
theorem p_viContains (ts : List (List Int)) (v : Int) (h0 : -1000 ≤ v) (h1 : v ≤ 1000) (hl : ts.length ≤ 17592186044416) (hx : ∀ t ∈ ts, t.length ≤ 17592186044416) : c_slices_ContainsFunc_SS_int_int__impl_varsIn_1 M ts (v, ()) = some ((inV ts v, ()), ()) := by
  obtain ⟨r, hr, hm⟩ := p_viIdx_loop ts v h0 h1 hl hx ts.length 0 (by omega)
  rw [show ((0 : Nat) : Int) = 0 from rfl] at hr
  rw [List.drop_zero] at hm
  apply e_slices_ContainsFunc_SS_int_int__impl_varsIn_1
  cases r with
  | inl r =>
    rw [q_slices_ContainsFunc_SS_int_int__impl_varsIn_1, e_slices_IndexFunc_SS_int_int__impl_varsIn_1 ts (v, ()) (r := ((-1, ()), ())) (by simp only [q_slices_IndexFunc_SS_int_int__impl_varsIn_1, hr, Option.bind_some, Sum.elim_inl])]
    simp only at hm
    simp [hm]
  | inr r =>
    rw [q_slices_ContainsFunc_SS_int_int__impl_varsIn_1, e_slices_IndexFunc_SS_int_int__impl_varsIn_1 ts (v, ()) (r := r) (by simp only [q_slices_IndexFunc_SS_int_int__impl_varsIn_1, hr, Option.bind_some, Sum.elim_inr])]
    simp only at hm
    simp [hm]
theorem p_varsIn_loop (ts : List (List Int)) (hl : ts.length ≤ 17592186044416) (hx : ∀ t ∈ ts, t.length ≤ 17592186044416) : ∀ k i : Nat, i + k = 12 → ∀ o : List Int, o = ((List.range i).map Int.ofNat).filter (inV ts) → l_impl_varsIn_58 M ts o i = some (.inl (upTo (inV ts), ())) := by
  intro k
  induction k with
  | zero =>
    intro i hi o ho
    obtain rfl : i = 12 := by omega
    subst ho
    exact el_impl_varsIn_58 _ _ _ (by simp [ql_impl_varsIn_58, upTo])
  | succ k ih =>
    intro i hi o ho
    have hp := upTo_part (inV ts) i (by omega) o ho (by omega)
    have hol : o.length ≤ 12 := by rw [ho]; exact Nat.le_trans (List.length_filter_le _ _) (by simp; omega)
    apply el_impl_varsIn_58
    simp only [ql_impl_varsIn_58]
    rw [if_pos (by simp; omega), p_viContains ts i (by omega) (by omega) hl hx]
    simp only [Option.bind_some]
    cases hv : inV ts (i : Int) with
    | true =>
      rw [hv, if_pos rfl] at hp
      rw [if_pos rfl, if_pos (by simp; omega)]
      simp only [Option.bind_some, Sum.elim_inl]
      rw [inc_nat (by omega)]
      exact ih (i + 1) (by omega) _ hp.symm
    | false =>
      rw [hv, if_neg (by simp)] at hp
      rw [if_neg (by simp)]
      simp only [Option.bind_some, Sum.elim_inl]
      rw [inc_nat (by omega)]
      exact ih (i + 1) (by omega) _ hp.symm
theorem p_varsIn (ts : List (List Int)) (hl : ts.length ≤ 17592186044416) (hx : ∀ t ∈ ts, t.length ≤ 17592186044416) : c_impl_varsIn M ts = some ((upTo (inV ts), ()), ()) := by
  apply e_impl_varsIn
  simp only [q_impl_varsIn]
  have := p_varsIn_loop ts hl hx 12 0 (by omega) [] (by simp)
  rw [show ((0 : Nat) : Int) = 0 from rfl] at this
  rw [this]
  rfl
end Go.Proofs.YtpmjpijpjmphnaaGreatCf.Ev

/- Plain laws: signatures and terms: both programs tell the same signatures and terms. No condition but sizes. -/
namespace Go.Proofs.YtpmjpijpjmphnaaGreatCf.Ev
open Go
set_option autoImplicit false
set_option linter.unusedVariables false
set_option linter.unusedSimpArgs false

/-! ### Terms -/
def ar (a : List Int) (n : Int) : Int := if n < 0 then 0 else (a[n.toNat]?).getD 0
def badN (a : List Int) (n : Int) : Prop := n < -12 ∨ (a.length : Int) ≤ n
instance (a : List Int) (n : Int) : Decidable (badN a n) := inferInstanceAs (Decidable (_ ∨ _))
/-- What stands behind some terms. -/
def sE (a : List Int) : Int → List Int → Option (List Int)
  | k, [] => if k ≤ 0 then some [] else none
  | k, n :: t => if k ≤ 0 then some (n :: t) else if badN a n then none else sE a (k - 1 + ar a n) t

theorem ar_ge {a : List Int} (hg : gS a = true) (n : Int) : 0 ≤ ar a n ∧ ar a n ≤ 3 := by
  unfold ar
  split
  · omega
  · cases h : a[n.toNat]? with
    | none => simp
    | some x =>
      simp only [gS, Bool.and_eq_true, List.all_eq_true, decide_eq_true_eq] at hg
      have := hg.2.2.1 x (List.mem_of_getElem? h)
      simpa using this
theorem idx_ar {a : List Int} {n : Int} (h : ¬ badN a n) (h0 : ¬ n < 0) : idx a n = some (ar a n) := by
  unfold badN at h
  have h1 : n.toNat < a.length := by omega
  unfold ar idx
  rw [if_pos (by omega), if_neg h0, List.getElem?_eq_getElem h1]
  rfl

theorem sE_zero (a : List Int) (t : List Int) : sE a 0 t = some t := by cases t <;> simp [sE]
theorem sE_app {a : List Int} (hg : gS a = true) : ∀ (u : List Int) (j k : Int) (x : List Int), 0 ≤ j → 0 ≤ k → sE a j u = some [] → sE a (j + k) (u ++ x) = sE a k x := by
  intro u
  induction u with
  | nil =>
    intro j k x hj hk h
    simp only [sE] at h
    split at h
    · obtain rfl : j = 0 := by omega
      simp
    · cases h
  | cons n u ih =>
    intro j k x hj hk h
    simp only [sE] at h
    split at h
    · cases h
    · rename_i hj'
      split at h
      · cases h
      · rename_i hb
        have hn := ar_ge hg n
        rw [List.cons_append]
        conv => lhs; unfold sE
        rw [if_neg (by omega), if_neg hb]
        have := ih (j - 1 + ar a n) k x (by omega) hk h
        rw [← this]
        congr 1; omega
theorem sE_split {a : List Int} (hg : gS a = true) : ∀ (t : List Int) (j k : Int) (r : List Int), 0 ≤ j → 0 ≤ k → sE a (j + k) t = some r → ∃ u x, t = u ++ x ∧ sE a j u = some [] ∧ sE a k x = some r := by
  intro t
  induction t with
  | nil =>
    intro j k r hj hk h
    simp only [sE] at h
    split at h
    · obtain rfl : j = 0 := by omega
      obtain rfl : k = 0 := by omega
      exact ⟨[], [], rfl, by simp [sE], by simpa [sE] using h⟩
    · cases h
  | cons n t ih =>
    intro j k r hj hk h
    by_cases h0 : j = 0
    · subst h0
      exact ⟨[], n :: t, rfl, by simp [sE], by simpa using h⟩
    · simp only [sE] at h
      split at h
      · omega
      · split at h
        · cases h
        · rename_i hb
          have hn := ar_ge hg n
          obtain ⟨u, x, rfl, h1, h2⟩ := ih (j - 1 + ar a n) k r (by omega) hk (by rw [← h]; congr 1; omega)
          refine ⟨n :: u, x, rfl, ?_, h2⟩
          unfold sE
          rw [if_neg (by omega), if_neg hb]
          exact h1
/-- A term. -/
abbrev Tm (a : List Int) (u : List Int) : Prop := sE a 1 u = some []
theorem sE_kids {a : List Int} (hg : gS a = true) : ∀ (k : Nat) (t r : List Int), sE a k t = some r → ∃ us : List (List Int), us.length = k ∧ t = us.flatten ++ r ∧ ∀ u ∈ us, Tm a u := by
  intro k
  induction k with
  | zero =>
    intro t r h
    rw [show ((0 : Nat) : Int) = 0 from rfl, sE_zero] at h
    obtain rfl := Option.some.inj h
    exact ⟨[], rfl, rfl, by simp⟩
  | succ k ih =>
    intro t r h
    obtain ⟨u, x, rfl, h1, h2⟩ := sE_split hg t 1 k r (by omega) (by omega) (by rw [← h]; congr 1; omega)
    obtain ⟨us, hl, rfl, hu⟩ := ih x r h2
    exact ⟨u :: us, by simp [hl], by simp, by simpa using ⟨h1, hu⟩⟩
theorem Tm.parts {a : List Int} (hg : gS a = true) {u : List Int} (h : Tm a u) : ∃ (n : Int) (us : List (List Int)), u = n :: us.flatten ∧ ¬ badN a n ∧ (us.length : Int) = ar a n ∧ ∀ v ∈ us, Tm a v := by
  cases u with
  | nil => simp [Tm, sE] at h
  | cons n t =>
    simp only [Tm, sE] at h
    rw [if_neg (by omega)] at h
    split at h
    · cases h
    · rename_i hb
      have hn := ar_ge hg n
      obtain ⟨us, hl, ht, hu⟩ := sE_kids hg (ar a n).toNat t [] (by rw [← h]; congr 1; omega)
      exact ⟨n, us, by rw [ht]; simp, hb, by omega, hu⟩
theorem Tm.rest {a : List Int} (hg : gS a = true) {u : List Int} (h : Tm a u) (x : List Int) : sE a 1 (u ++ x) = some x := by
  have := sE_app hg u 1 0 x (by omega) (by omega) h
  rw [sE_zero] at this
  simpa using this
theorem Tm.pos {a u : List Int} (h : Tm a u) : 0 < u.length := by
  cases u with
  | nil => simp [Tm, sE] at h
  | cons n t => simp

theorem p_l1End_loop (s : TSign) (hg : gS s.1 = true) (t : List Int) (ht : t.length ≤ 1048576) : ∀ (k i : Nat) (need : Int), i + k = t.length → 0 ≤ need → need + 3 * k ≤ 4000000 →
    l_spec_l1End_28 M t i s need = some (match sE s.1 need (t.drop i) with | none => .inr (((-1 : Int), ()), ()) | some r => .inl ((t.length : Int) - r.length, ())) := by
  have hs : s.1.length ≤ 10 := by simp only [gS, Bool.and_eq_true, decide_eq_true_eq] at hg; exact hg.2.1
  intro k
  induction k with
  | zero =>
    intro i need hi h0 hn
    obtain rfl : i = t.length := by omega
    apply el_spec_l1End_28
    simp only [ql_spec_l1End_28, List.drop_length, sE, decide_eq_true_eq]
    by_cases h : need > 0
    · rw [if_pos h, if_pos (by omega), if_neg (by omega)]
    · rw [if_neg h, if_pos (by omega)]; simp
  | succ k ih =>
    intro i need hi h0 hn
    apply el_spec_l1End_28
    have h1 : i < t.length := by omega
    rw [List.drop_eq_getElem_cons h1]
    simp only [ql_spec_l1End_28, sE, decide_eq_true_eq]
    by_cases h : need > 0
    · rw [if_pos h, if_neg (by omega), if_neg (by omega), idx_lt h1]
      simp only [Option.bind_some, p_l1In]
      rw [w64 (x := (s.1.length : Int) - 1) (by omega) (by omega)]
      by_cases hb : badN s.1 t[i]
      · rw [if_pos hb, if_pos (by unfold badN at hb; simp; omega)]
      · rw [if_neg hb, if_neg (by unfold badN at hb; simp; omega)]
        have ha := ar_ge hg t[i]
        have hw : IntKind.i64.wrap (need - 1) = need - 1 := w64 (by omega) (by omega)
        by_cases hx : t[i] ≥ 0
        · rw [if_pos hx, idx_ar hb (by omega), hw]
          simp only [Option.bind_some, Sum.elim_inl]
          rw [w64 (x := need - 1 + _) (by omega) (by omega), inc_nat (by omega)]
          exact ih (i + 1) _ (by omega) (by omega) (by omega)
        · have : ar s.1 t[i] = 0 := by unfold ar; rw [if_pos (by omega)]
          rw [if_neg hx, hw, this]
          simp only [Option.bind_some, Sum.elim_inl]
          rw [inc_nat (by omega), Int.add_zero]
          exact ih (i + 1) _ (by omega) (by omega) (by omega)
    · rw [if_neg h, if_pos (by omega)]
      simp only [List.length_cons, List.length_drop]
      congr 3
      omega

theorem p_l1End (s : TSign) (hg : gS s.1 = true) (t : List Int) (i : Nat) (hi : i ≤ t.length) (ht : t.length ≤ 1048576) :
    c_spec_l1End M s t i = some ((match sE s.1 1 (t.drop i) with | none => (-1 : Int) | some r => (t.length : Int) - r.length, ()), ()) := by
  apply e_spec_l1End
  simp only [q_spec_l1End]
  rw [p_l1End_loop s hg t ht (t.length - i) i 1 (by omega) (by omega) (by omega)]
  cases sE s.1 1 (t.drop i) <;> rfl

theorem sE_len {a : List Int} : ∀ (t : List Int) (k : Int) (r : List Int), sE a k t = some r → r.length ≤ t.length := by
  intro t
  induction t with
  | nil => intro k r h; simp only [sE] at h; split at h <;> simp_all
  | cons n t ih =>
    intro k r h
    simp only [sE] at h
    split at h
    · obtain rfl := Option.some.inj h; simp
    · split at h
      · cases h
      · have := ih _ _ h; simp; omega

/-- A term of no more than 40 numbers. -/
def isT (a t : List Int) : Bool := decide (t.length ≤ 40) && decide (Tm a t)

theorem p_l1Term (s : TSign) (hg : gS s.1 = true) (t : List Int) (ht : t.length ≤ 1048576) : c_spec_l1Term M s t = some ((isT s.1 t, ()), ()) := by
  apply e_spec_l1Term
  have := p_l1End s hg t 0 (by omega) ht
  rw [show ((0 : Nat) : Int) = 0 from rfl, List.drop_zero] at this
  simp only [q_spec_l1Term, p_l1In, Option.bind_some, this, isT]
  by_cases h0 : t = []
  · subst h0; simp [Tm, sE]
  · have : 0 < t.length := List.length_pos_iff.2 h0
    by_cases h : t.length ≤ 40
    · rw [if_pos (by simp; omega)]
      simp only [Option.some.injEq, Prod.mk.injEq, and_true]
      rw [Bool.eq_iff_iff]
      simp only [Bool.and_eq_true, decide_eq_true_eq, Tm, beq_iff_eq]
      cases hE : sE s.1 1 t with
      | none => simp
      | some r =>
        have := sE_len _ _ _ hE
        simp only [Option.some.injEq]
        constructor
        · intro h'; exact ⟨h, List.eq_nil_of_length_eq_zero (by omega)⟩
        · rintro ⟨-, rfl⟩; simp
    · rw [if_neg (by simp; omega)]
      simp [h]

theorem p_args (s : TSign) (n : Int) (h : ¬ badN s.1 n) : c_impl_Sign_args M s n = some ((ar s.1 n, ()), ()) := by
  apply e_impl_Sign_args
  simp only [q_impl_Sign_args, decide_eq_true_eq]
  by_cases hn : n < 0
  · rw [if_pos hn]; simp [ar, hn]
  · rw [if_neg hn, idx_ar h hn]; rfl

theorem p_isTerm_loop (s : TSign) (hg : gS s.1 = true) (t : List Int) (ht : t.length ≤ 40) : ∀ (k i : Nat) (left : Int), i + k = t.length → 0 ≤ left → left + 3 * k ≤ 4000000 →
    ∃ r, l_impl_Sign_isTerm_122 M s left t t.length i = some r ∧ Sum.elim (fun y => y.1 == 0) (fun r => r.1.1) r = decide (sE s.1 left (t.drop i) = some []) := by
  intro k
  induction k with
  | zero =>
    intro i left hi h0 hn
    obtain rfl : i = t.length := by omega
    refine ⟨.inl (left, ()), el_impl_Sign_isTerm_122 _ _ _ _ _ ?_, ?_⟩
    · simp [ql_impl_Sign_isTerm_122]
    · rw [List.drop_length]
      simp only [Sum.elim_inl, sE]
      rw [Bool.eq_iff_iff]; simp; omega
  | succ k ih =>
    intro i left hi h0 hn
    have h1 : i < t.length := by omega
    rw [List.drop_eq_getElem_cons h1]
    have pre : ∀ r, (if (left == 0) = true then some (.inr ((false, ()), ())) else if decide (t[i] < -12) = true then some (.inr ((false, ()), ())) else if decide (t[i] ≥ (s.1.length : Int)) = true then some (.inr ((false, ()), ())) else (c_impl_Sign_args M (s.1, ()) t[i]).bind fun r2 => l_impl_Sign_isTerm_122 M (s.1, ()) (IntKind.i64.wrap (left + IntKind.i64.wrap (r2.1.1 - 1))) t t.length (IntKind.i64.wrap ((i : Int) + 1))) = some r → l_impl_Sign_isTerm_122 M s left t t.length i = some r := by
      intro r hr
      apply el_impl_Sign_isTerm_122
      simp only [ql_impl_Sign_isTerm_122]
      rw [if_pos (by simpa using h1), idx_lt h1]
      exact hr
    by_cases hl : left = 0
    · subst hl
      refine ⟨.inr ((false, ()), ()), pre _ rfl, (decide_eq_false (by rw [sE_zero]; exact fun h => by cases h)).symm⟩
    · by_cases hb : badN s.1 t[i]
      · refine ⟨.inr ((false, ()), ()), pre _ ?_, by simp [sE, hb]; omega⟩
        rw [if_neg (by simpa using hl)]
        unfold badN at hb
        by_cases h2 : t[i] < -12
        · rw [if_pos (by simpa using h2)]
        · rw [if_neg (by simpa using h2), if_pos (by simp; omega)]
      · have ha := ar_ge hg t[i]
        obtain ⟨r, hr, hm⟩ := ih (i + 1) (left - 1 + ar s.1 t[i]) (by omega) (by omega) (by omega)
        refine ⟨r, pre _ ?_, ?_⟩
        · have hb' := hb
          unfold badN at hb'
          rw [if_neg (by simpa using hl), if_neg (by simp; omega), if_neg (by simp; omega), p_args (s.1, ()) _ hb]
          simp only [Option.bind_some]
          rw [w64 (x := ar s.1 t[i] - 1) (by omega) (by omega), w64 (by omega) (by omega), inc_nat (by omega), show left + (ar s.1 t[i] - 1) = left - 1 + ar s.1 t[i] by omega]
          exact hr
        · rw [hm]
          conv => rhs; unfold sE
          rw [if_neg (by omega), if_neg hb]

theorem p_isTerm (s : TSign) (hg : gS s.1 = true) (t : List Int) : c_impl_Sign_isTerm M s t = some ((isT s.1 t, ()), ()) := by
  apply e_impl_Sign_isTerm
  simp only [q_impl_Sign_isTerm, decide_eq_true_eq, isT]
  by_cases h : t.length ≤ 40
  · obtain ⟨r, hr, hm⟩ := p_isTerm_loop s hg t h t.length 0 1 (by omega) (by omega) (by omega)
    rw [show ((0 : Nat) : Int) = 0 from rfl] at hr
    rw [List.drop_zero] at hm
    rw [if_neg (by omega), show ((s.1, ()) : TSign) = s from rfl, hr]
    cases r with
    | inl r => simp only [Sum.elim_inl, Option.bind_some] at hm ⊢; rw [hm]; simp [h, Tm]
    | inr r => obtain ⟨⟨b, _⟩, _⟩ := r; simp only [Sum.elim_inr, Option.bind_some] at hm ⊢; rw [hm]; simp [h, Tm]
  · rw [if_pos (by omega)]; simp [h]

end Go.Proofs.YtpmjpijpjmphnaaGreatCf.Ev

/- Plain laws: nodes of formulas. Definitions. -/
namespace Go.Proofs.YtpmjpijpjmphnaaGreatCf.Ev
open Go
set_option autoImplicit false
set_option linter.unusedVariables false
set_option linter.unusedSimpArgs false

abbrev TForm := Int × Int × List Int × List Int × Unit

theorem form_eta (x : TForm) : (x.1, x.2.1, x.2.2.1, x.2.2.2.1, ()) = x := rfl

/-- Lists of no more than 2^20 numbers. -/
def smF (x : TForm) : Prop := x.2.2.1.length ≤ 1048576 ∧ x.2.2.2.1.length ≤ 1048576
end Go.Proofs.YtpmjpijpjmphnaaGreatCf.Ev

/- Plain laws: formulas: both programs tell the same formulas; the program's tree of a formula. No condition but sizes. -/
namespace Go.Proofs.YtpmjpijpjmphnaaGreatCf.Ev
open Go
set_option autoImplicit false
set_option linter.unusedVariables false
set_option linter.unusedSimpArgs false

theorem p_ib1 (x : Int) : c_impl_Sign_isBound_1 M x = some ((!decide (-6 ≤ x), ()), ()) := by
  apply e_impl_Sign_isBound_1
  simp only [q_impl_Sign_isBound_1]
  rw [show decide (x < -6) = !decide (-6 ≤ x) by
    by_cases h : x < -6
    · rw [decide_eq_true h, decide_eq_false (by omega)]; rfl
    · rw [decide_eq_false h, decide_eq_true (by omega)]; rfl]

theorem p_ibIdx_loop (a : List Int) (ha : a.length ≤ 17592186044416) : ∀ k i : Nat, i + k = a.length → ∃ r, l_slices_IndexFunc_int_int__impl_Sign_isBound_1_26 M a () a.length i = some r ∧ (match r with | .inl _ => (a.drop i).all (fun x => decide (-6 ≤ x)) = true | .inr r => 0 ≤ r.1.1 ∧ (a.drop i).all (fun x => decide (-6 ≤ x)) = false) := by
  intro k
  induction k with
  | zero =>
    intro i hi
    obtain rfl : i = a.length := by omega
    refine ⟨.inl (), el_slices_IndexFunc_int_int__impl_Sign_isBound_1_26 _ _ _ _ (by simp [ql_slices_IndexFunc_int_int__impl_Sign_isBound_1_26]), by simp⟩
  | succ k ih =>
    intro i hi
    have h1 : i < a.length := by omega
    obtain ⟨r, hr, hm⟩ := ih (i + 1) (by omega)
    rw [List.drop_eq_getElem_cons h1, List.all_cons]
    by_cases hp : decide (-6 ≤ a[i]) = true
    · refine ⟨r, el_slices_IndexFunc_int_int__impl_Sign_isBound_1_26 _ _ _ _ ?_, by rw [hp, Bool.true_and]; exact hm⟩
      simp only [ql_slices_IndexFunc_int_int__impl_Sign_isBound_1_26]
      rw [if_pos (by simpa using h1), idx_lt h1, inc_nat (by omega)]
      simp only [Option.bind_some, p_ib1, hp, Bool.not_true, Bool.false_eq_true, if_false]
      exact hr
    · rw [Bool.not_eq_true] at hp
      refine ⟨.inr (((i : Int), ()), ()), el_slices_IndexFunc_int_int__impl_Sign_isBound_1_26 _ _ _ _ ?_, Int.natCast_nonneg i, by rw [hp, Bool.false_and]⟩
      simp only [ql_slices_IndexFunc_int_int__impl_Sign_isBound_1_26]
      rw [if_pos (by simpa using h1), idx_lt h1]
      simp only [Option.bind_some, p_ib1, hp, Bool.not_false, if_true]

theorem p_ibContains (a : List Int) (ha : a.length ≤ 17592186044416) : c_slices_ContainsFunc_int_int__impl_Sign_isBound_1 M a () = some ((!(a.all (fun x => decide (-6 ≤ x))), ()), ()) := by
  apply e_slices_ContainsFunc_int_int__impl_Sign_isBound_1
  simp only [q_slices_ContainsFunc_int_int__impl_Sign_isBound_1]
  obtain ⟨r, hr, hm⟩ := p_ibIdx_loop a ha a.length 0 (by omega)
  rw [show ((0 : Nat) : Int) = 0 from rfl] at hr
  rw [List.drop_zero] at hm
  cases r with
  | inl r =>
    rw [e_slices_IndexFunc_int_int__impl_Sign_isBound_1 a () (r := ((-1, ()), ())) (by simp only [q_slices_IndexFunc_int_int__impl_Sign_isBound_1, hr, Option.bind_some, Sum.elim_inl])]
    simp only at hm
    simp [hm]
  | inr r =>
    rw [e_slices_IndexFunc_int_int__impl_Sign_isBound_1 a () (r := r) (by simp only [q_slices_IndexFunc_int_int__impl_Sign_isBound_1, hr, Option.bind_some, Sum.elim_inr])]
    simp only at hm
    simp [hm]


/-- A term whose variables are those of formulas. -/
def isB (a t : List Int) : Bool := isT a t && t.all fun x => decide (-6 ≤ x)
theorem p_isBound (s : TSign) (hg : gS s.1 = true) (t : List Int) : c_impl_Sign_isBound M s t = some ((isB s.1 t, ()), ()) := by
  apply e_impl_Sign_isBound
  simp only [q_impl_Sign_isBound, sign_eta', p_isTerm s hg t, Option.bind_some, isB]
  by_cases h : isT s.1 t = true
  · have hl : t.length ≤ 40 := by simp only [isT, Bool.and_eq_true, decide_eq_true_eq] at h; exact h.1
    rw [if_pos h, p_ibContains t (by omega), h]
    simp
  · rw [if_neg h]
    rw [Bool.not_eq_true] at h
    rw [h]; rfl

/-! ### The variables of a term -/
theorem p_l1Put_loop (l : List Int) (hl : l.length ≤ 1000) (n : Int) : ∀ k i : Nat, i + k = l.length → ∃ j : Nat, i ≤ j ∧ j ≤ l.length ∧ l_spec_l1Put_28 M l n i = some (.inl (l, n, j, ())) := by
  intro k
  induction k with
  | zero =>
    intro i hi
    obtain rfl : i = l.length := by omega
    exact ⟨l.length, Nat.le_refl _, Nat.le_refl _, el_spec_l1Put_28 _ _ _ (by simp [ql_spec_l1Put_28])⟩
  | succ k ih =>
    intro i hi
    have h1 : i < l.length := by omega
    by_cases hx : l[i] < n
    · obtain ⟨j, g1, g2, g3⟩ := ih (i + 1) (by omega)
      refine ⟨j, by omega, g2, el_spec_l1Put_28 _ _ _ ?_⟩
      simp only [ql_spec_l1Put_28]
      rw [if_pos (by simpa using h1), if_pos (by omega), Int.toNat_natCast, List.getElem?_eq_getElem h1]
      simp only [Option.bind_some]
      rw [if_pos (by simpa using hx), inc_nat (by omega)]
      exact g3
    · refine ⟨i, Nat.le_refl _, by omega, el_spec_l1Put_28 _ _ _ ?_⟩
      simp only [ql_spec_l1Put_28]
      rw [if_pos (by simpa using h1), if_pos (by omega), Int.toNat_natCast, List.getElem?_eq_getElem h1]
      simp only [Option.bind_some]
      rw [if_neg (by simpa using hx)]
theorem p_l1Put (l : List Int) (hl : l.length ≤ 1000) (n : Int) : ∃ r : List Int, c_spec_l1Put M l n = some ((r, ()), ()) ∧ r.length ≤ l.length + 1 ∧ ∀ x, x ∈ r ↔ x ∈ l ∨ x = n := by
  obtain ⟨j, _, g2, g3⟩ := p_l1Put_loop l hl n l.length 0 (by omega)
  rw [show ((0 : Nat) : Int) = 0 from rfl] at g3
  by_cases hj : j < l.length ∧ l[j]? = some n
  · refine ⟨l, e_spec_l1Put _ _ ?_, by omega, fun x => ⟨.inl, fun h => h.elim id fun e => e ▸ List.mem_of_getElem? hj.2⟩⟩
    have h1 := hj.1
    have h2 := hj.2
    rw [List.getElem?_eq_getElem h1] at h2
    simp only [q_spec_l1Put, g3, Option.bind_some, Sum.elim_inl]
    rw [if_pos (by simpa using h1), if_pos (by omega), Int.toNat_natCast, List.getElem?_eq_getElem h1]
    simp only [Option.bind_some]
    rw [if_pos (by simpa using h2)]
  · refine ⟨l.take j ++ n :: l.drop j, e_spec_l1Put _ _ ?_, by simp; omega, fun x => ?_⟩
    · simp only [q_spec_l1Put, g3, Option.bind_some, Sum.elim_inl]
      by_cases h1 : j < l.length
      · have h2 : ¬ l[j] = n := fun e => hj ⟨h1, by rw [List.getElem?_eq_getElem h1, e]⟩
        rw [if_pos (by simpa using h1), if_pos (by omega), Int.toNat_natCast, List.getElem?_eq_getElem h1]
        simp only [Option.bind_some, Int.toNat_natCast, Int.toNat_zero, List.drop_zero, List.nil_append, List.length_nil, List.length_append, List.length_take, List.length_drop, List.length_cons, List.take_length]
        rw [if_neg (by simpa using h2), if_pos (by omega), if_pos (by omega), if_pos (by omega), if_pos (by omega), if_pos (by omega)]
        simp
      · rw [if_neg (by simpa using h1)]
        simp only [Option.bind_some, Int.toNat_natCast, Int.toNat_zero, List.drop_zero, List.nil_append, List.length_nil, List.length_append, List.length_take, List.length_drop, List.length_cons, List.take_length]
        rw [if_pos (by omega), if_pos (by omega), if_pos (by omega), if_pos (by omega), if_pos (by omega)]
        simp
    · have : x ∈ l ↔ x ∈ l.take j ∨ x ∈ l.drop j := by rw [← List.mem_append, List.take_append_drop]
      rw [List.mem_append, List.mem_cons, this]
      constructor
      · rintro (h | h | h)
        · exact .inl (.inl h)
        · exact .inr h
        · exact .inl (.inr h)
      · rintro ((h | h) | h)
        · exact .inl h
        · exact .inr (.inr h)
        · exact .inr (.inl h)

theorem p_l1Vars_loop (t : List Int) (ht : t.length ≤ 400) (hw : ∀ n ∈ t, -12 ≤ n) : ∀ k i : Nat, i + k = t.length → ∀ o : List Int, o.length ≤ i → ∃ r : List Int, l_spec_l1Vars_58 M o t t.length i = some (.inl (r, ())) ∧ r.length ≤ t.length ∧ ∀ x, x ∈ r ↔ x ∈ o ∨ ∃ n ∈ t.drop i, n < 0 ∧ x = -1 - n := by
  intro k
  induction k with
  | zero =>
    intro i hi o ho
    obtain rfl : i = t.length := by omega
    exact ⟨o, el_spec_l1Vars_58 _ _ _ _ (by simp [ql_spec_l1Vars_58]), ho, by simp⟩
  | succ k ih =>
    intro i hi o ho
    have h1 : i < t.length := by omega
    have hn := hw _ (List.getElem_mem h1)
    by_cases hx : t[i] < 0
    · obtain ⟨o', e1, e2, e3⟩ := p_l1Put o (by omega) (-1 - t[i])
      obtain ⟨r, g1, g2, g3⟩ := ih (i + 1) (by omega) o' (by omega)
      refine ⟨r, el_spec_l1Vars_58 _ _ _ _ ?_, g2, fun x => ?_⟩
      · simp only [ql_spec_l1Vars_58]
        rw [if_pos (by simpa using h1), idx_lt h1]
        simp only [Option.bind_some]
        rw [if_pos (by simpa using hx), w64 (x := -1 - t[i]) (by omega) (by omega), e1]
        simp only [Option.bind_some, Sum.elim_inl]
        rw [inc_nat (by omega)]
        exact g1
      · rw [g3 x, e3 x, List.drop_eq_getElem_cons h1]
        simp only [List.mem_cons, exists_eq_or_imp]
        constructor
        · rintro ((h | h) | h)
          · exact .inl h
          · exact .inr (.inl ⟨hx, h⟩)
          · exact .inr (.inr h)
        · rintro (h | h | h)
          · exact .inl (.inl h)
          · exact .inl (.inr h.2)
          · exact .inr h
    · obtain ⟨r, g1, g2, g3⟩ := ih (i + 1) (by omega) o (by omega)
      refine ⟨r, el_spec_l1Vars_58 _ _ _ _ ?_, g2, fun x => ?_⟩
      · simp only [ql_spec_l1Vars_58]
        rw [if_pos (by simpa using h1), idx_lt h1]
        simp only [Option.bind_some]
        rw [if_neg (by simpa using hx)]
        simp only [Option.bind_some, Sum.elim_inl]
        rw [inc_nat (by omega)]
        exact g1
      · rw [g3 x, List.drop_eq_getElem_cons h1]
        simp only [List.mem_cons, exists_eq_or_imp]
        constructor
        · rintro (h | h)
          · exact .inl h
          · exact .inr (.inr h)
        · rintro (h | h | h)
          · exact .inl h
          · exact absurd h.1 hx
          · exact .inr h
theorem p_l1Vars (t : List Int) (ht : t.length ≤ 400) (hw : ∀ n ∈ t, -12 ≤ n) : ∃ r : List Int, c_spec_l1Vars M t = some ((r, ()), ()) ∧ r.length ≤ t.length ∧ ∀ x, x ∈ r ↔ ∃ n ∈ t, n < 0 ∧ x = -1 - n := by
  obtain ⟨r, g1, g2, g3⟩ := p_l1Vars_loop t ht hw t.length 0 (by omega) [] (by simp)
  rw [show ((0 : Nat) : Int) = 0 from rfl] at g1
  refine ⟨r, e_spec_l1Vars _ ?_, g2, fun x => by simpa using g3 x⟩
  simp only [q_spec_l1Vars, g1, Option.bind_some, Sum.elim_inl]

theorem sE_ge {a : List Int} : ∀ (t : List Int) (k : Int), sE a k t = some [] → ∀ n ∈ t, -12 ≤ n := by
  intro t
  induction t with
  | nil => intro k _ n hn; cases hn
  | cons m t ih =>
    intro k h n hn
    simp only [sE] at h
    split at h
    · cases h
    · split at h
      · cases h
      · rename_i hb
        unfold badN at hb
        rcases List.mem_cons.1 hn with rfl | hn
        · omega
        · exact ih _ h n hn
theorem isT_ge {a t : List Int} (h : isT a t = true) : t.length ≤ 40 ∧ ∀ n ∈ t, -12 ≤ n := by
  simp only [isT, Bool.and_eq_true, decide_eq_true_eq] at h
  exact ⟨h.1, sE_ge t 1 h.2⟩

/-! ### Nodes -/
def opn (op : Int) : Int := if op = 1 then 0 else if op = 2 ∨ op = 5 ∨ op = 6 then 1 else if op = 3 ∨ op = 4 then 2 else -1
/-- A node that is good by itself. -/
def ndOK (a : List Int) (x : TForm) : Bool :=
  if x.1 = 1 then decide (x.2.1 = 0) && (isB a x.2.2.1 && isB a x.2.2.2.1)
  else if x.2.2.1 = [] ∧ x.2.2.2.1 = [] then
    (if x.1 = 5 ∨ x.1 = 6 then decide (0 ≤ x.2.1) && decide (x.2.1 ≤ 5) else if x.1 = 2 ∨ x.1 = 3 ∨ x.1 = 4 then decide (x.2.1 = 0) else false)
  else false

theorem p_l14Arity (op : Int) : c_spec_l14Arity M op = some ((opn op, ()), ()) := by
  apply e_spec_l14Arity
  simp only [q_spec_l14Arity, beq_iff_eq, opn]
  by_cases h1 : op = 1
  · simp [h1]
  · by_cases h2 : op = 2
    · simp [h2]
    · by_cases h5 : op = 5
      · simp [h5]
      · by_cases h6 : op = 6
        · simp [h6]
        · by_cases h3 : op = 3
          · simp [h3]
          · by_cases h4 : op = 4
            · simp [h4]
            · simp [h1, h2, h3, h4, h5, h6]

theorem p_operands (a : List Int) (x : TForm) (h : ndOK a x = true) : c_impl_Form_operands M x = some ((opn x.1, ()), ()) := by
  apply e_impl_Form_operands
  simp only [q_impl_Form_operands, beq_iff_eq, opn]
  by_cases h1 : x.1 = 1
  · simp [h1]
  · by_cases h3 : x.1 = 3
    · simp [h3]
    · by_cases h4 : x.1 = 4
      · simp [h4]
      · have : x.1 = 2 ∨ x.1 = 5 ∨ x.1 = 6 := by
          unfold ndOK at h
          rw [if_neg h1] at h
          split at h
          · split at h
            · rename_i h5; rcases h5 with h5 | h5 <;> simp [h5]
            · split at h
              · rename_i h6; rcases h6 with h6 | h6 | h6
                · exact .inl h6
                · exact absurd h6 h3
                · exact absurd h6 h4
              · cases h
          · cases h
        simp [h1, h3, h4, this]

theorem p_isNode (s : TSign) (hg : gS s.1 = true) (x : TForm) : c_impl_Sign_isNode M s x = some ((ndOK s.1 x, ()), ()) := by
  apply e_impl_Sign_isNode
  simp only [q_impl_Sign_isNode, sign_eta', p_isBound s hg, Option.bind_some, beq_iff_eq, ndOK]
  obtain ⟨op, v, l, r, ⟨⟩⟩ := x
  simp only
  by_cases h1 : op = 1
  · subst h1
    by_cases hv : v = 0
    · cases isB s.1 l <;> simp [hv]
    · simp [hv]
  · rw [if_neg h1, if_neg h1]
    by_cases h5 : op = 5
    · subst h5
      by_cases ha : 0 ≤ v <;> by_cases hb : v < 6 <;> by_cases hl : l = [] <;> by_cases hr : r = [] <;> simp [ha, hb, hl, hr] <;> omega
    · by_cases h6 : op = 6
      · subst h6
        by_cases ha : 0 ≤ v <;> by_cases hb : v < 6 <;> by_cases hl : l = [] <;> by_cases hr : r = [] <;> simp [ha, hb, hl, hr] <;> omega
      · by_cases h2 : op = 2
        · subst h2
          by_cases ha : v = 0 <;> by_cases hl : l = [] <;> by_cases hr : r = [] <;> simp [ha, hl, hr]
        · by_cases h3 : op = 3
          · subst h3
            by_cases ha : v = 0 <;> by_cases hl : l = [] <;> by_cases hr : r = [] <;> simp [ha, hl, hr]
          · by_cases h4 : op = 4
            · subst h4
              by_cases ha : v = 0 <;> by_cases hl : l = [] <;> by_cases hr : r = [] <;> simp [ha, hl, hr]
            · simp [h2, h3, h4, h5, h6]

theorem p_l14Node (s : TSign) (hg : gS s.1 = true) (x : TForm) (h : smF x) : c_spec_l14Node M s x = some ((ndOK s.1 x, ()), ()) := by
  apply e_spec_l14Node
  simp only [q_spec_l14Node, sign_eta', p_l1Term s hg _ h.1, p_l1Term s hg _ h.2, Option.bind_some, beq_iff_eq, ndOK, p_l1In, p_l14Arity, decide_eq_true_eq]
  by_cases h1 : x.1 = 1
  · rw [if_pos h1, if_pos h1]
    by_cases hv : x.2.1 = 0
    · rw [if_pos hv, decide_eq_true hv]
      by_cases hl : isT s.1 x.2.2.1 = true
      · rw [if_pos hl]
        by_cases hr : isT s.1 x.2.2.2.1 = true
        · rw [if_pos hr]
          obtain ⟨l1, l2⟩ := isT_ge hl
          obtain ⟨r1, r2⟩ := isT_ge hr
          obtain ⟨vl, e1, e2, e3⟩ := p_l1Vars _ (by omega) l2
          obtain ⟨vr, f1, f2, f3⟩ := p_l1Vars _ (by omega) r2
          rw [e1]
          simp only [Option.bind_some]
          rw [f1]
          simp only [Option.bind_some]
          rw [if_pos (by omega), p_l1All _ _ _ (by simp; omega)]
          simp only [Option.bind_some, Option.some.injEq, Prod.mk.injEq, and_true]
          simp only [isB, hl, hr, Bool.true_and]
          have key : ∀ (t v : List Int), (∀ n ∈ t, -12 ≤ n) → (∀ x, x ∈ v ↔ ∃ n ∈ t, n < 0 ∧ x = -1 - n) → (v.all (fun x => decide (0 ≤ x) && decide (x ≤ 5)) = t.all fun x => decide (-6 ≤ x)) := by
            intro t v ht hv
            rw [Bool.eq_iff_iff]
            simp only [List.all_eq_true, Bool.and_eq_true, decide_eq_true_eq]
            constructor
            · intro hh n hn
              by_cases h0 : n < 0
              · have := hh (-1 - n) ((hv _).2 ⟨n, hn, h0, rfl⟩); omega
              · omega
            · intro hh y hy
              obtain ⟨n, hn, h0, rfl⟩ := (hv y).1 hy
              have := hh n hn
              omega
          rw [List.all_append, key _ _ l2 e3, key _ _ r2 f3]
        · rw [if_neg hr]; rw [Bool.not_eq_true] at hr; simp [isB, hr]
      · rw [if_neg hl]; rw [Bool.not_eq_true] at hl; simp [isB, hl]
    · rw [if_neg hv, decide_eq_false hv]; rfl
  · rw [if_neg h1, if_neg h1]
    have hw : IntKind.i64.wrap ((x.2.2.1.length : Int) + (x.2.2.2.1.length : Int)) = (x.2.2.1.length : Int) + (x.2.2.2.1.length : Int) := w64 (by omega) (by have := h.1; have := h.2; omega)
    rw [hw]
    by_cases hlr : x.2.2.1 = [] ∧ x.2.2.2.1 = []
    · rw [if_neg (by rw [hlr.1, hlr.2]; simp), if_pos hlr]
      by_cases h5 : x.1 = 5
      · simp [opn, h5]
      · by_cases h6 : x.1 = 6
        · simp [opn, h6]
        · by_cases h2 : x.1 = 2
          · simp [opn, h2]; rfl
          · by_cases h3 : x.1 = 3
            · simp [opn, h3]; rfl
            · by_cases h4 : x.1 = 4
              · simp [opn, h4]; rfl
              · simp [opn, h1, h2, h3, h4, h5, h6]
    · rw [if_pos (by
        by_cases hl : x.2.2.1 = []
        · have : 0 < x.2.2.2.1.length := List.length_pos_iff.2 (fun e => hlr ⟨hl, e⟩)
          omega
        · have : 0 < x.2.2.1.length := List.length_pos_iff.2 hl
          omega), if_neg hlr]

theorem ndOK_opn {a : List Int} {x : TForm} (h : ndOK a x = true) : 0 ≤ opn x.1 ∧ opn x.1 ≤ 2 ∧ (x.1 = 2 → opn x.1 = 1) := by
  unfold ndOK at h
  unfold opn
  split at h
  · rename_i h1; simp [h1]
  · rename_i h1
    rw [if_neg h1]
    split at h
    · split at h
      · rename_i h56; rw [if_pos (.inr h56)]; omega
      · split at h
        · rename_i h234
          split
          · omega
          · rename_i hn
            rw [if_pos (by rcases h234 with h | h | h
                           · exact absurd (.inl h) hn
                           · exact .inl h
                           · exact .inr h)]
            omega
        · cases h
    · cases h

/-! ### Formulas -/
/-- Whether nodes, with so many trees before them, leave one tree. -/
def gF (a : List Int) : Nat → List TForm → Bool
  | p, [] => p == 1
  | p, x :: r => ndOK a x && (decide ((opn x.1).toNat ≤ p) && gF a (p - (opn x.1).toNat + 1) r)
/-- The trees that nodes leave. -/
def gT (a : List Int) : List Tree → List TForm → Option (List Tree)
  | st, [] => some st
  | st, x :: r => if ndOK a x = true ∧ (opn x.1).toNat ≤ st.length then gT a (st.take (st.length - (opn x.1).toNat) ++ [Tree.mk x.1 x.2.1 x.2.2.1 x.2.2.2.1 (st.drop (st.length - (opn x.1).toNat))]) r else none
theorem gT_gF (a : List Int) : ∀ (f : List TForm) (st : List Tree), gF a st.length f = (match gT a st f with | some st' => st'.length == 1 | none => false) := by
  intro f
  induction f with
  | nil => intro st; rfl
  | cons x r ih =>
    intro st
    simp only [gF, gT]
    by_cases h1 : ndOK a x = true
    · by_cases h2 : (opn x.1).toNat ≤ st.length
      · rw [if_pos ⟨h1, h2⟩, h1, decide_eq_true h2, ← ih]
        simp only [Bool.true_and, List.length_append, List.length_take, List.length_cons, List.length_nil]
        congr 1; omega
      · rw [if_neg (fun h => h2 h.2), decide_eq_false h2]; simp
    · rw [if_neg (fun h => h1 h.1)]; rw [Bool.not_eq_true] at h1; simp [h1]

theorem p_l14Form_loop (s : TSign) (hg : gS s.1 = true) (f : List TForm) (hl : f.length ≤ 15) (hx : ∀ x ∈ f, smF x) : ∀ k i p : Nat, i + k = f.length → p ≤ i → ∃ r, l_spec_l14Form_122 M s p f f.length i = some r ∧ Sum.elim (fun y => y.1 == 1) (fun r => r.1.1) r = gF s.1 p (f.drop i) := by
  intro k
  induction k with
  | zero =>
    intro i p hi hp
    obtain rfl : i = f.length := by omega
    refine ⟨.inl ((p : Int), ()), el_spec_l14Form_122 _ _ _ _ _ (by simp [ql_spec_l14Form_122]), ?_⟩
    rw [List.drop_length]
    simp only [Sum.elim_inl, gF]
    rw [Bool.eq_iff_iff]; simp; omega
  | succ k ih =>
    intro i p hi hp
    have h1 : i < f.length := by omega
    rw [List.drop_eq_getElem_cons h1]
    have hn := p_l14Node s hg f[i] (hx _ (List.getElem_mem h1))
    by_cases h2 : ndOK s.1 f[i] = true
    · have ho := ndOK_opn h2
      by_cases h3 : (opn f[i].1).toNat ≤ p
      · obtain ⟨r, g1, g2⟩ := ih (i + 1) (p - (opn f[i].1).toNat + 1) (by omega) (by omega)
        refine ⟨r, el_spec_l14Form_122 _ _ _ _ _ ?_, by rw [g2]; simp [gF, h2, h3]⟩
        simp only [ql_spec_l14Form_122]
        rw [if_pos (by simpa using h1), idx_lt h1]
        simp only [Option.bind_some, form_eta, sign_eta', hn, h2, p_l14Arity]
        rw [if_neg (by simp), if_neg (by simp; omega), w64 (x := 1 - opn f[i].1) (by omega) (by omega), w64 (by omega) (by omega), inc_nat (by omega), show (p : Int) + (1 - opn f[i].1) = ((p - (opn f[i].1).toNat + 1 : Nat) : Int) by omega]
        exact g1
      · refine ⟨.inr ((false, ()), ()), el_spec_l14Form_122 _ _ _ _ _ ?_, by simp [gF, h2, h3]⟩
        simp only [ql_spec_l14Form_122]
        rw [if_pos (by simpa using h1), idx_lt h1]
        simp only [Option.bind_some, form_eta, sign_eta', hn, h2, p_l14Arity]
        rw [if_neg (by simp), if_pos (by simp; omega)]
    · rw [Bool.not_eq_true] at h2
      refine ⟨.inr ((false, ()), ()), el_spec_l14Form_122 _ _ _ _ _ ?_, by simp [gF, h2]⟩
      simp only [ql_spec_l14Form_122]
      rw [if_pos (by simpa using h1), idx_lt h1]
      simp only [Option.bind_some, form_eta, sign_eta', hn, h2]
      rfl

/-- A formula that is good. -/
def fOK (a : List Int) (f : List TForm) : Bool := decide (f.length ≤ 15) && gF a 0 f

theorem p_l14Form (s : TSign) (hg : gS s.1 = true) (f : List TForm) (hl : f.length ≤ 1048576) (hx : ∀ x ∈ f, smF x) : c_spec_l14Form M s f = some ((fOK s.1 f, ()), ()) := by
  apply e_spec_l14Form
  simp only [q_spec_l14Form, p_l1In, Option.bind_some, sign_eta', fOK]
  by_cases h15 : f.length ≤ 15
  · by_cases h0 : f = []
    · subst h0; simp [gF]
    · have : 0 < f.length := List.length_pos_iff.2 h0
      rw [if_neg (by simp; omega)]
      obtain ⟨r, g1, g2⟩ := p_l14Form_loop s hg f h15 hx f.length 0 0 (by omega) (by omega)
      rw [show ((0 : Nat) : Int) = 0 from rfl] at g1
      rw [List.drop_zero] at g2
      rw [g1, decide_eq_true h15, ← g2]
      cases r with
      | inl r => rfl
      | inr r => obtain ⟨⟨b, _⟩, _⟩ := r; rfl
  · rw [if_pos (by simp; omega)]; simp [h15]

theorem p_grow_loop (s : TSign) (hg : gS s.1 = true) (f : List TForm) (hl : f.length ≤ 15) : ∀ k i : Nat, i + k = f.length → ∀ st : List Tree, st.length ≤ i →
    l_impl_Sign_grow_122 M s st f f.length i = some (match gT s.1 st (f.drop i) with | some st' => .inl (st', ()) | none => .inr ((Tree.nil, false, ()), ())) := by
  intro k
  induction k with
  | zero =>
    intro i hi st hst
    obtain rfl : i = f.length := by omega
    apply el_impl_Sign_grow_122
    simp [ql_impl_Sign_grow_122, gT]
  | succ k ih =>
    intro i hi st hst
    have h1 : i < f.length := by omega
    rw [List.drop_eq_getElem_cons h1]
    apply el_impl_Sign_grow_122
    simp only [ql_impl_Sign_grow_122]
    rw [if_pos (by simpa using h1), idx_lt h1]
    simp only [Option.bind_some, form_eta, sign_eta', p_isNode s hg, gT]
    by_cases h2 : ndOK s.1 f[i] = true
    · have ho := ndOK_opn h2
      by_cases h3 : (opn f[i].1).toNat ≤ st.length
      · have e : (st.length : Int) - opn f[i].1 = ((st.length - (opn f[i].1).toNat : Nat) : Int) := by omega
        rw [if_pos (show ndOK s.1 f[i] = true ∧ (opn f[i].1).toNat ≤ st.length from ⟨h2, h3⟩), h2, if_neg (by simp), p_operands s.1 f[i] h2]
        simp only [Option.bind_some]
        rw [w64 (x := (st.length : Int) - opn f[i].1) (by omega) (by omega), e, if_neg (by simp <;> omega)]
        simp only [Int.toNat_natCast, List.take_length]
        rw [if_pos (by omega), if_pos (by simp; omega), if_pos (by omega), if_pos (by simp; omega), inc_nat (by omega), ih (i + 1) (by omega) _ (by simp; omega)]
      · rw [if_neg (show ¬ (ndOK s.1 f[i] = true ∧ (opn f[i].1).toNat ≤ st.length) from fun h => h3 h.2), h2, if_neg (by simp), p_operands s.1 f[i] h2]
        simp only [Option.bind_some]
        rw [w64 (x := (st.length : Int) - opn f[i].1) (by omega) (by omega), if_pos (by simp; omega)]
    · rw [if_neg (show ¬ (ndOK s.1 f[i] = true ∧ (opn f[i].1).toNat ≤ st.length) from fun h => h2 h.1)]
      rw [Bool.not_eq_true] at h2
      rw [h2]
      rfl

theorem p_formula (s : TSign) (hs : s.1.length ≤ 1048576) (f : List TForm) : ∃ t : Tree, c_impl_formula M s f = some ((t, gS s.1 && fOK s.1 f, ()), ()) ∧ ((gS s.1 && fOK s.1 f) = true → gT s.1 [] f = some [t]) := by
  cases hg : gS s.1 with
  | false =>
    refine ⟨.nil, e_impl_formula _ _ ?_, by simp⟩
    simp only [q_impl_formula, sign_eta', p_impl_GoodSign s (by omega), hg, Option.bind_some]
    rfl
  | true =>
    have pre : ∀ t b, c_impl_Sign_grow M s f = some ((t, b, ()), ()) → c_impl_formula M s f = some ((t, b, ()), ()) := by
      intro t b h
      apply e_impl_formula
      simp only [q_impl_formula, sign_eta', p_impl_GoodSign s (by omega), hg, Option.bind_some, h]
      rfl
    by_cases h15 : f.length ≤ 15
    · have hl := p_grow_loop s hg f h15 f.length 0 (by omega) [] (by simp)
      rw [show ((0 : Nat) : Int) = 0 from rfl, List.drop_zero] at hl
      have hgf := gT_gF s.1 f []
      rw [List.length_nil] at hgf
      have go : ∀ r, (l_impl_Sign_grow_122 M s [] f f.length 0).bind (Sum.elim (fun y1 => if ((List.length y1.1 : Int) != (1 : Int)) = true then (some ((Tree.nil, false, ()), ())) else (if 0 ≤ (0 : Int) ∧ (0 : Int) < (List.length y1.1 : Int) then ((y1.1[(Int.toNat (0 : Int))]?).bind fun x3 => (some ((x3, true, ()), ()))) else none)) (fun r2 => (some r2))) = some r → c_impl_Sign_grow M s f = some r := by
        intro r h
        apply e_impl_Sign_grow
        simp only [q_impl_Sign_grow, sign_eta']
        rw [if_neg (by simp; omega)]
        exact h
      cases hT : gT s.1 [] f with
      | none =>
        rw [hT] at hgf hl
        refine ⟨.nil, pre _ _ (go _ ?_), by simp [fOK, hgf]⟩
        rw [hl]
        simp [fOK, hgf]
      | some st' =>
        rw [hT] at hgf hl
        by_cases h1 : st'.length = 1
        · match st', h1 with
          | [t], _ =>
            refine ⟨t, pre _ _ (go _ ?_), fun _ => rfl⟩
            rw [hl]
            simp [fOK, hgf, h15]
        · refine ⟨.nil, pre _ _ (go _ ?_), by simp [fOK, hgf, h1]⟩
          rw [hl]
          simp only [Option.bind_some, Sum.elim_inl]
          rw [if_pos (by simp; omega)]
          simp [fOK, hgf, h1]
    · refine ⟨.nil, pre _ _ (e_impl_Sign_grow _ _ ?_), by simp [fOK, h15]⟩
      simp only [q_impl_Sign_grow]
      rw [if_pos (by simp; omega)]
      simp [fOK, h15]

end Go.Proofs.YtpmjpijpjmphnaaGreatCf.Ev

/- Plain laws: the tree of a formula and its nodes in a row stand for one another. No condition. -/
namespace Go.Proofs.YtpmjpijpjmphnaaGreatCf.Ev
open Go
set_option autoImplicit false
set_option linter.unusedVariables false
set_option linter.unusedSimpArgs false

abbrev mkT (x : TForm) (ts : List Tree) : Tree := Tree.mk x.1 x.2.1 x.2.2.1 x.2.2.2.1 ts
/-- A part of a row of nodes, and its tree. -/
inductive FT (a : List Int) : List TForm → Tree → Prop
  | leaf {x : TForm} (h : ndOK a x = true) (h0 : opn x.1 = 0) : FT a [x] (mkT x [])
  | un {x : TForm} {g : List TForm} {t : Tree} (h : ndOK a x = true) (h1 : opn x.1 = 1) (hg : FT a g t) : FT a (g ++ [x]) (mkT x [t])
  | bin {x : TForm} {g k : List TForm} {t u : Tree} (h : ndOK a x = true) (h2 : opn x.1 = 2) (hg : FT a g t) (hk : FT a k u) : FT a (g ++ k ++ [x]) (mkT x [t, u])

theorem FT.pos {a : List Int} {g : List TForm} {t : Tree} (h : FT a g t) : 0 < g.length := by cases h <;> simp <;> omega
/-- Trees side by side. -/
def Rs (a : List Int) : List (List TForm) → List Tree → Prop
  | [], [] => True
  | g :: gs, t :: ts => FT a g t ∧ Rs a gs ts
  | _, _ => False
theorem Rs.app {a : List Int} : ∀ {gs : List (List TForm)} {ts : List Tree} {gs' : List (List TForm)} {ts' : List Tree}, Rs a gs ts → Rs a gs' ts' → Rs a (gs ++ gs') (ts ++ ts')
  | [], [], _, _, _, h => h
  | _ :: _, _ :: _, _, _, ⟨h1, h2⟩, h => ⟨h1, h2.app h⟩
  | [], _ :: _, _, _, h, _ => h.elim
  | _ :: _, [], _, _, h, _ => h.elim
theorem Rs.len {a : List Int} : ∀ {gs : List (List TForm)} {ts : List Tree}, Rs a gs ts → gs.length = ts.length
  | [], [], _ => rfl
  | _ :: _, _ :: _, ⟨_, h⟩ => by simp [h.len]
  | [], _ :: _, h => h.elim
  | _ :: _, [], h => h.elim
theorem Rs.cut {a : List Int} : ∀ (n : Nat) {gs : List (List TForm)} {ts : List Tree}, Rs a gs ts → Rs a (gs.take n) (ts.take n) ∧ Rs a (gs.drop n) (ts.drop n)
  | 0, _, _, h => ⟨trivial, h⟩
  | n + 1, [], [], _ => ⟨trivial, trivial⟩
  | n + 1, _ :: _, _ :: _, ⟨h1, h2⟩ => ⟨⟨h1, (h2.cut n).1⟩, (h2.cut n).2⟩
  | _ + 1, [], _ :: _, h => h.elim
  | _ + 1, _ :: _, [], h => h.elim

theorem gT_Rs {a : List Int} : ∀ (f : List TForm) (st st' : List Tree) (gs : List (List TForm)), Rs a gs st → gT a st f = some st' → ∃ gs', Rs a gs' st' ∧ gs'.flatten = gs.flatten ++ f := by
  intro f
  induction f with
  | nil =>
    intro st st' gs hr h
    obtain rfl := Option.some.inj h
    exact ⟨gs, hr, by simp⟩
  | cons x r ih =>
    intro st st' gs hr h
    simp only [gT] at h
    split at h
    · rename_i hc
      obtain ⟨hn, hle⟩ := hc
      have ho := ndOK_opn hn
      obtain ⟨c1, c2⟩ := hr.cut (st.length - (opn x.1).toNat)
      have hl := hr.len
      have hd : ((gs.drop (st.length - (opn x.1).toNat))).length = (opn x.1).toNat := by rw [List.length_drop]; omega
      have hd2 : ((st.drop (st.length - (opn x.1).toNat))).length = (opn x.1).toNat := by rw [List.length_drop]; omega
      have key : FT a ((gs.drop (st.length - (opn x.1).toNat)).flatten ++ [x]) (mkT x (st.drop (st.length - (opn x.1).toNat))) := by
        have h012 : opn x.1 = 0 ∨ opn x.1 = 1 ∨ opn x.1 = 2 := by omega
        rcases h012 with h0 | h0 | h0
        · rw [h0] at hd hd2 c2
          rw [h0]
          generalize gs.drop (st.length - (0 : Int).toNat) = G at *
          generalize st.drop (st.length - (0 : Int).toNat) = D at *
          match G, D, hd, hd2 with
          | [], [], _, _ => exact .leaf hn h0
        · rw [h0] at hd hd2 c2
          rw [h0]
          generalize gs.drop (st.length - (1 : Int).toNat) = G at *
          generalize st.drop (st.length - (1 : Int).toNat) = D at *
          match G, D, hd, hd2, c2 with
          | [g], [t], _, _, c2 => simpa using FT.un hn h0 c2.1
        · rw [h0] at hd hd2 c2
          rw [h0]
          generalize gs.drop (st.length - (2 : Int).toNat) = G at *
          generalize st.drop (st.length - (2 : Int).toNat) = D at *
          match G, D, hd, hd2, c2 with
          | [g, k], [t, u], _, _, c2 => simpa using FT.bin hn h0 c2.1 c2.2.1
      obtain ⟨gs', q1, q2⟩ := ih _ st' (gs.take (st.length - (opn x.1).toNat) ++ [(gs.drop (st.length - (opn x.1).toNat)).flatten ++ [x]]) (c1.app (show Rs a [_] [_] from ⟨key, trivial⟩)) h
      refine ⟨gs', q1, ?_⟩
      rw [q2]
      simp only [List.flatten_append, List.flatten_cons, List.flatten_nil, List.append_nil, List.append_assoc, List.singleton_append]
      rw [← List.append_assoc, ← List.flatten_append, List.take_append_drop]
    · cases h
theorem gT_FT {a : List Int} {f : List TForm} {t : Tree} (h : gT a [] f = some [t]) : FT a f t := by
  obtain ⟨gs, h1, h2⟩ := gT_Rs f [] [t] [] trivial h
  match gs, h1 with
  | [g], h1 =>
    simp at h2
    exact h2 ▸ h1.1

theorem idx_mid {α : Type} (pre post : List α) (x : α) : idx (pre ++ x :: post) (pre.length : Int) = some x := by
  rw [idx_nat]; simp

end Go.Proofs.YtpmjpijpjmphnaaGreatCf.Ev

/- Plain laws: a formula's parts by their places. No condition. -/
namespace Go.Proofs.YtpmjpijpjmphnaaGreatCf.Ev
open Go
set_option autoImplicit false
set_option linter.unusedVariables false
set_option linter.unusedSimpArgs false

/-- From a part's root back to its head. -/
theorem p_first {a : List Int} {h : List TForm} {t : Tree} (hf : FT a h t) : ∀ (pre post : List TForm) (j : Nat) (r : Int), pre.length + h.length ≤ 1000 → j ≤ 1000 → j + h.length ≤ 1000 →
    l_spec_l14First_60 M (pre ++ (h ++ post)) j ((pre.length : Int) - 1) = some (.inl (r, ())) → l_spec_l14First_60 M (pre ++ (h ++ post)) ((j : Int) + 1) ((pre.length : Int) + h.length - 1) = some (.inl (r, ())) := by
  have step : ∀ (pre post : List TForm) (x : TForm) (j : Nat) (r : Int), ndOK a x = true → pre.length ≤ 1000 → j ≤ 1000 → l_spec_l14First_60 M (pre ++ x :: post) ((j : Int) + opn x.1) ((pre.length : Int) - 1) = some (.inl (r, ())) → l_spec_l14First_60 M (pre ++ x :: post) ((j : Int) + 1) (pre.length : Int) = some (.inl (r, ())) := by
    intro pre post x j r hn hp hj hr
    have ho := ndOK_opn hn
    apply el_spec_l14First_60
    simp only [ql_spec_l14First_60]
    rw [if_pos (by simp <;> omega), idx_mid]
    simp only [Option.bind_some, p_l14Arity]
    rw [w64 (x := opn x.1 - 1) (by omega) (by omega), w64 (by omega) (by omega), w64 (x := (pre.length : Int) - 1) (by omega) (by omega), show (j : Int) + 1 + (opn x.1 - 1) = (j : Int) + opn x.1 by omega]
    exact hr
  induction hf with
  | leaf h h0 =>
    intro pre post j r hp hj hjh hr
    have := step pre post _ j r h (by simp at hp; omega) hj (by rw [h0]; simpa using hr)
    simpa using this
  | @un x g t h h1 hg ih =>
    intro pre post j r hp hj hjh hr
    simp only [List.length_append, List.length_cons, List.length_nil] at hp hjh
    have e1 := ih pre (x :: post) j r (by omega) hj (by omega) (by simpa using hr)
    have := step (pre ++ g) post x j r h (by simp; omega) hj (by
      rw [h1]
      simpa using e1)
    simp only [List.append_assoc, List.length_append, List.length_cons, List.length_nil, List.singleton_append] at this ⊢
    rw [show (pre.length : Int) + ((g.length + (0 + 1) : Nat) : Int) - 1 = ((pre.length + g.length : Nat) : Int) by omega]
    exact this
  | @bin x g k t u h h2 hg hk ih1 ih2 =>
    intro pre post j r hp hj hjh hr
    simp only [List.length_append, List.length_cons, List.length_nil] at hp hjh
    have e1 := ih1 pre (k ++ x :: post) j r (by omega) hj (by omega) (by simpa using hr)
    have e2 := ih2 (pre ++ g) (x :: post) (j + 1) r (by simp; omega) (by have := hg.pos; omega) (by have := hg.pos; omega) (by
      simp only [List.append_assoc, List.length_append] at e1 ⊢
      rw [show ((j + 1 : Nat) : Int) = (j : Int) + 1 by omega, show (((pre.length + g.length : Nat) : Int) - 1) = (pre.length : Int) + g.length - 1 by omega]
      exact e1)
    have := step (pre ++ (g ++ k)) post x j r h (by simp; omega) hj (by
      rw [h2]
      simp only [List.append_assoc, List.length_append] at e2 ⊢
      rw [show ((j + 1 : Nat) : Int) + 1 = (j : Int) + 2 by omega, show ((pre.length + g.length : Nat) : Int) + (k.length : Int) - 1 = ((pre.length + (g.length + k.length) : Nat) : Int) - 1 by omega] at e2
      exact e2)
    simp only [List.append_assoc, List.length_append, List.length_cons, List.length_nil, List.singleton_append] at this ⊢
    rw [show (pre.length : Int) + ((g.length + (k.length + (0 + 1)) : Nat) : Int) - 1 = ((pre.length + (g.length + k.length) : Nat) : Int) by omega]
    exact this

theorem p_l14First {a : List Int} {h : List TForm} {t : Tree} (hf : FT a h t) (pre post : List TForm) (hl : pre.length + h.length ≤ 900) : c_spec_l14First M (pre ++ (h ++ post)) ((pre.length : Int) + h.length) = some (((pre.length : Int) - 1, ()), ()) := by
  apply e_spec_l14First
  simp only [q_spec_l14First]
  rw [w64 (by omega) (by omega)]
  have := p_first hf pre post 0 ((pre.length : Int) - 1) (by omega) (by omega) (by omega) (el_spec_l14First_60 _ _ _ (by simp [ql_spec_l14First_60]))
  rw [show ((0 : Nat) : Int) + 1 = 1 from rfl] at this
  rw [this]
  rfl

theorem leaf_op {a : List Int} {x : TForm} (h : ndOK a x = true) (h0 : opn x.1 = 0) : x.1 = 1 ∧ isT a x.2.2.1 = true ∧ isT a x.2.2.2.1 = true := by
  have h1 : x.1 = 1 := by
    unfold opn at h0
    split at h0
    · assumption
    · split at h0
      · omega
      · split at h0 <;> omega
  unfold ndOK at h
  rw [if_pos h1] at h
  simp only [isB, Bool.and_eq_true] at h
  exact ⟨h1, h.2.1.1, h.2.2.1⟩
theorem un_op {a : List Int} {x : TForm} (h : ndOK a x = true) (h0 : opn x.1 = 1) : (x.1 = 2 ∨ x.1 = 5 ∨ x.1 = 6) ∧ 0 ≤ x.2.1 ∧ x.2.1 ≤ 5 := by
  have h1 : x.1 = 2 ∨ x.1 = 5 ∨ x.1 = 6 := by
    unfold opn at h0
    split at h0
    · omega
    · split at h0
      · assumption
      · split at h0 <;> omega
  refine ⟨h1, ?_⟩
  unfold ndOK at h
  rw [if_neg (by omega)] at h
  split at h
  · split at h
    · simpa using h
    · split at h
      · simp at h; omega
      · cases h
  · cases h
theorem bin_op {a : List Int} {x : TForm} (h : ndOK a x = true) (h0 : opn x.1 = 2) : x.1 = 3 ∨ x.1 = 4 := by
  unfold opn at h0
  split at h0
  · omega
  · split at h0
    · omega
    · split at h0
      · assumption
      · omega

end Go.Proofs.YtpmjpijpjmphnaaGreatCf.Ev

/- Plain laws: nodes that are good are small. No condition but sizes. -/
namespace Go.Proofs.YtpmjpijpjmphnaaGreatCf.Ev
open Go
set_option autoImplicit false
set_option linter.unusedVariables false
set_option linter.unusedSimpArgs false

theorem ndOK_sm {a : List Int} {x : TForm} (h : ndOK a x = true) : x.2.2.1.length ≤ 40 ∧ x.2.2.2.1.length ≤ 40 := by
  unfold ndOK at h
  split at h
  · simp only [isB, isT, Bool.and_eq_true, decide_eq_true_eq] at h
    exact ⟨h.2.1.1.1, h.2.2.1.1⟩
  · split at h
    · rename_i h2; rw [h2.1, h2.2]; simp
    · cases h
theorem ndOK_smF {a : List Int} {x : TForm} (h : ndOK a x = true) : smF x := by
  have := ndOK_sm h
  unfold smF; omega
end Go.Proofs.YtpmjpijpjmphnaaGreatCf.Ev

/- Plain laws: formulas as the reference tells them. No condition but sizes. -/
namespace Go.Proofs.YtpmjpijpjmphnaaGreatCf.Ev
open Go
set_option autoImplicit false
set_option linter.unusedVariables false
set_option linter.unusedSimpArgs false

theorem p_spec_GoodForm (s : TSign) (hs : s.1.length ≤ 1048576) (f : List TForm) (hl : f.length ≤ 1048576) (hx : ∀ x ∈ f, smF x) : c_spec_GoodForm M s f = some ((gS s.1 && fOK s.1 f, ()), ()) := by
  apply e_spec_GoodForm
  simp only [q_spec_GoodForm, sign_eta', p_spec_GoodSign s (by omega), Option.bind_some]
  cases hg : gS s.1 with
  | false => rfl
  | true => rw [if_pos rfl, p_l14Form s hg f hl hx]; rfl
end Go.Proofs.YtpmjpijpjmphnaaGreatCf.Ev

/- Plain laws: the free variables of a formula, by both programs; FnExactFreeIn. No condition but sizes. -/
namespace Go.Proofs.YtpmjpijpjmphnaaGreatCf.Ev
open Go
set_option autoImplicit false
set_option linter.unusedVariables false
set_option linter.unusedSimpArgs false

theorem mget_mput {α : Type} (m : List (Int × α)) (k v : Int) (y z : α) : mget (mput m k y) v z = if k = v then y else mget m v z := by
  induction m with
  | nil => simp [mput, mget]
  | cons p r ih =>
    obtain ⟨a, b⟩ := p
    simp only [mput]
    by_cases h : a = k
    · subst h
      rw [if_pos rfl]
      simp only [mget]
      by_cases hv : a = v <;> simp [hv]
    · rw [if_neg h]
      simp only [mget, ih]
      by_cases hv : a = v
      · subst hv; rw [if_pos rfl, if_neg (fun e => h e.symm), if_pos rfl]
      · rw [if_neg hv, if_neg hv]

/-! ### The reference -/
theorem p_freePut1 (vs : List Int) (hl : vs.length ≤ 500) : ∀ k i : Nat, i + k = vs.length → ∀ o : List Int, o.length ≤ 400 + i → l_spec_l14Free_3754 M o vs vs.length i = some (.inl ((vs.drop i).foldl putN o, ())) := by
  intro k
  induction k with
  | zero =>
    intro i hi o ho
    obtain rfl : i = vs.length := by omega
    exact el_spec_l14Free_3754 _ _ _ _ (by simp [ql_spec_l14Free_3754])
  | succ k ih =>
    intro i hi o ho
    have h1 : i < vs.length := by omega
    apply el_spec_l14Free_3754
    simp only [ql_spec_l14Free_3754]
    rw [if_pos (by simpa using h1), if_pos (by omega), Int.toNat_natCast, List.getElem?_eq_getElem h1]
    simp only [Option.bind_some, p_putN o (by omega)]
    have := putN_len o vs[i]
    rw [inc_nat (by omega), ih (i + 1) (by omega) _ (by omega), List.drop_eq_getElem_cons h1]
    rfl
theorem p_freePut2 (vs : List Int) (hl : vs.length ≤ 500) : ∀ k i : Nat, i + k = vs.length → ∀ o : List Int, o.length ≤ 400 + i → l_spec_l14Free_250 M o vs vs.length i = some (.inl ((vs.drop i).foldl putN o, ())) := by
  intro k
  induction k with
  | zero =>
    intro i hi o ho
    obtain rfl : i = vs.length := by omega
    exact el_spec_l14Free_250 _ _ _ _ (by simp [ql_spec_l14Free_250])
  | succ k ih =>
    intro i hi o ho
    have h1 : i < vs.length := by omega
    apply el_spec_l14Free_250
    simp only [ql_spec_l14Free_250]
    rw [if_pos (by simpa using h1), if_pos (by omega), Int.toNat_natCast, List.getElem?_eq_getElem h1]
    simp only [Option.bind_some, p_putN o (by omega)]
    have := putN_len o vs[i]
    rw [inc_nat (by omega), ih (i + 1) (by omega) _ (by omega), List.drop_eq_getElem_cons h1]
    rfl
theorem p_l8Drop_loop (V : Int) (vs : List Int) (hl : vs.length ≤ 500) : ∀ k i : Nat, i + k = vs.length → ∀ o : List Int, o.length ≤ i → l_spec_l8Drop_58 M V o vs vs.length i = some (.inl (o ++ (vs.drop i).filter (fun x => x != V), ())) := by
  intro k
  induction k with
  | zero =>
    intro i hi o ho
    obtain rfl : i = vs.length := by omega
    exact el_spec_l8Drop_58 _ _ _ _ _ (by simp [ql_spec_l8Drop_58])
  | succ k ih =>
    intro i hi o ho
    have h1 : i < vs.length := by omega
    apply el_spec_l8Drop_58
    simp only [ql_spec_l8Drop_58]
    rw [if_pos (by simpa using h1), idx_lt h1, List.drop_eq_getElem_cons h1]
    simp only [Option.bind_some]
    by_cases hv : vs[i] = V
    · rw [if_neg (by simpa using hv)]
      simp only [Option.bind_some, Sum.elim_inl]
      rw [inc_nat (by omega), ih (i + 1) (by omega) _ (by omega), List.filter_cons, if_neg (by simpa using hv)]
    · rw [if_pos (by simpa using hv), if_pos (by simp; omega)]
      simp only [Option.bind_some, Sum.elim_inl]
      rw [inc_nat (by omega), ih (i + 1) (by omega) _ (by simp; omega), List.filter_cons, if_pos (by simpa using hv)]
      simp
theorem p_l8Drop (vs : List Int) (V : Int) (hl : vs.length ≤ 500) : c_spec_l8Drop M vs V = some ((vs.filter (fun x => x != V), ()), ()) := by
  apply e_spec_l8Drop
  have := p_l8Drop_loop V vs hl vs.length 0 (by omega) [] (by simp)
  rw [show ((0 : Nat) : Int) = 0 from rfl] at this
  simp only [q_spec_l8Drop, this, Option.bind_some, Sum.elim_inl, List.nil_append, List.drop_zero]

/-! ### The program -/
theorem p_free_vars (T : Tree) (bd : List Int) (hb : bd.length ≤ 1000) (nd : TForm) (vs : List Int) (hl : vs.length ≤ 1000) : ∀ k i : Nat, i + k = vs.length → ∀ m : List (Int × Bool), ∃ m', l_impl_tree_free_26 M T m bd nd vs vs.length i = some (.inl (T, m', bd, nd, ())) ∧ ∀ v, mget m' v false = (mget m v false || (decide (v ∈ vs.drop i) && !decide (v ∈ bd))) := by
  intro k
  induction k with
  | zero =>
    intro i hi m
    obtain rfl : i = vs.length := by omega
    exact ⟨m, el_impl_tree_free_26 _ _ _ _ _ _ _ (by simp [ql_impl_tree_free_26]), by simp⟩
  | succ k ih =>
    intro i hi m
    have h1 : i < vs.length := by omega
    have dm : ∀ v, decide (v ∈ vs.drop i) = (decide (v = vs[i]) || decide (v ∈ vs.drop (i + 1))) := by
      intro v
      rw [List.drop_eq_getElem_cons h1, Bool.eq_iff_iff]
      simp only [decide_eq_true_eq, Bool.or_eq_true, List.mem_cons]
    obtain ⟨m', g1, g2⟩ := ih (i + 1) (by omega) (mput m vs[i] (mget m vs[i] false || !decide (vs[i] ∈ bd)))
    refine ⟨m', el_impl_tree_free_26 _ _ _ _ _ _ _ ?_, fun v => ?_⟩
    · simp only [ql_impl_tree_free_26]
      rw [if_pos (by simpa using h1), if_pos (by omega), Int.toNat_natCast, List.getElem?_eq_getElem h1]
      simp only [Option.bind_some, p_Contains bd _ (by omega)]
      rw [inc_nat (by omega)]
      cases hm : mget m vs[i] false with
      | true => rw [hm] at g1; rw [if_pos rfl]; exact g1
      | false => rw [hm] at g1; rw [if_neg (by simp)]; exact g1
    · rw [g2 v, mget_mput, dm v]
      by_cases hv : vs[i] = v
      · subst hv
        cases mget m vs[i] false <;> cases decide (vs[i] ∈ bd) <;> simp
      · have : decide (v = vs[i]) = false := by simpa using fun e => hv (Eq.symm e)
        rw [if_neg hv, this, Bool.false_or]
theorem p_free_node (x : TForm) (ts : List Tree) (hx : smF x) (m : List (Int × Bool)) (bd : List Int) (hb : bd.length ≤ 1000) : ∃ m1 : List (Int × Bool), (∀ v, mget m1 v false = (mget m v false || (decide (v ∈ upTo (inV [x.2.2.1, x.2.2.2.1])) && !decide (v ∈ bd)))) ∧
    ∀ m2, l_impl_tree_free_62 M m1 (if x.1 = 5 ∨ x.1 = 6 then bd ++ [x.2.1] else bd) ts ts.length 0 = some (.inl (m2, ())) → c_impl_tree_free M (mkT x ts) m bd = some ((), (m2, ())) := by
  have hv := p_varsIn [x.2.2.1, x.2.2.2.1] (by simp) (by
    intro t ht
    have := hx.1; have := hx.2
    simp only [List.mem_cons, List.not_mem_nil, or_false] at ht
    rcases ht with rfl | rfl <;> omega)
  have hl12 := upTo_len (inV [x.2.2.1, x.2.2.2.1])
  obtain ⟨m1, g1, g2⟩ := p_free_vars (mkT x ts) bd hb x (upTo (inV [x.2.2.1, x.2.2.2.1])) (by omega) (upTo (inV [x.2.2.1, x.2.2.2.1])).length 0 (by omega) m
  rw [show ((0 : Nat) : Int) = 0 from rfl] at g1
  refine ⟨m1, fun v => by rw [g2 v, List.drop_zero], fun m2 h => e_impl_tree_free _ _ _ ?_⟩
  simp only [q_impl_tree_free, treeK, form_eta, hv, Option.bind_some]
  rw [g1]
  simp only [Option.bind_some, Sum.elim_inl]
  by_cases h5 : x.1 = 5
  · rw [if_pos (.inl h5)] at h
    rw [if_pos (by simpa using h5), if_pos (by omega), if_pos (by simp; omega)]
    simp only [Option.bind_some, Sum.elim_inl, treeK, h]
  · rw [if_neg (by simpa using h5)]
    by_cases h6 : x.1 = 6
    · rw [if_pos (.inr h6)] at h
      rw [if_pos (by simpa using h6), if_pos (by omega), if_pos (by simp; omega)]
      simp only [Option.bind_some, Sum.elim_inl, treeK, h]
    · rw [if_neg (by omega)] at h
      rw [if_neg (by simpa using h6)]
      simp only [Option.bind_some, Sum.elim_inl, treeK, h]
theorem p_free_end (m : List (Int × Bool)) (bd : List Int) (ts : List Tree) : l_impl_tree_free_62 M m bd ts ts.length ts.length = some (.inl (m, ())) := by
  apply el_impl_tree_free_62
  simp [ql_impl_tree_free_62]
theorem p_free_step (m m' m2 : List (Int × Bool)) (bd : List Int) (ts : List Tree) (i : Nat) (hi : i < ts.length) (hl : ts.length ≤ 1000) (h : c_impl_tree_free M ts[i] m bd = some ((), (m', ()))) (hr : l_impl_tree_free_62 M m' bd ts ts.length ((i + 1 : Nat) : Int) = some (.inl (m2, ()))) :
    l_impl_tree_free_62 M m bd ts ts.length (i : Int) = some (.inl (m2, ())) := by
  apply el_impl_tree_free_62
  simp only [ql_impl_tree_free_62]
  rw [if_pos (by simpa using hi), idx_lt hi]
  simp only [Option.bind_some, h]
  rw [inc_nat (by omega)]
  exact hr

theorem nd_flat {a : List Int} {x : TForm} (h : ndOK a x = true) (h1 : x.1 ≠ 1) : x.2.2.1 = [] ∧ x.2.2.2.1 = [] := by
  unfold ndOK at h
  rw [if_neg h1] at h
  split at h
  · assumption
  · cases h
theorem inV_nil (x : TForm) (h : x.2.2.1 = [] ∧ x.2.2.2.1 = []) (v : Int) : decide (v ∈ upTo (inV [x.2.2.1, x.2.2.2.1])) = false := by
  rw [h.1, h.2]
  simp only [decide_eq_false_iff_not, mem_upTo, inV, List.any_cons, List.any_nil, List.not_mem_nil, decide_false, Bool.or_self, Bool.false_eq_true, and_false, not_false_eq_true]

/-- The variables that are free. -/
def fvT : Tree → Int → Bool
  | .nil, _ => false
  | .mk _ _ l r [], u => decide (-1 - u ∈ l) || decide (-1 - u ∈ r)
  | .mk op v _ _ [t], u => if op = 2 then fvT t u else fvT t u && decide (u ≠ v)
  | .mk _ _ _ _ (t :: k :: _), u => fvT t u || fvT k u
/-- The free variables of a formula, rising: what both programs find. -/
theorem p_freeX {a : List Int} {h : List TForm} {t : Tree} (hf : FT a h t) : ∃ L : List Int, Up L ∧ (∀ v ∈ L, 0 ≤ v ∧ v ≤ 11) ∧ (∀ pre post : List TForm, pre.length + h.length ≤ 100 → c_spec_l14Free M (pre ++ (h ++ post)) ((pre.length : Int) + h.length - 1) = some ((L, ()), ())) ∧
    (∀ (m : List (Int × Bool)) (bd : List Int), bd.length + h.length ≤ 900 → ∃ m', c_impl_tree_free M t m bd = some ((), (m', ())) ∧ ∀ v, mget m' v false = (mget m v false || (decide (v ∈ L) && !decide (v ∈ bd)))) ∧ ∀ v, v ∈ L ↔ 0 ≤ v ∧ fvT t v = true := by
  induction hf with
  | @leaf x h h0 =>
    obtain ⟨ho, tl, tr⟩ := leaf_op h h0
    have hx := ndOK_smF h
    obtain ⟨l1, l2⟩ := isT_ge tl
    obtain ⟨r1, r2⟩ := isT_ge tr
    obtain ⟨vl, e1, e2, e3⟩ := p_l1Vars _ (by omega) l2
    obtain ⟨vr, f1, f2, f3⟩ := p_l1Vars _ (by omega) r2
    have hmem : ∀ v, v ∈ (vl ++ vr).foldl putN [] ↔ ∃ n, (n ∈ x.2.2.1 ∨ n ∈ x.2.2.2.1) ∧ n < 0 ∧ v = -1 - n := by
      intro v
      rw [mem_foldPut, List.mem_append, e3, f3]
      constructor
      · rintro (h | ⟨n, h1, h2⟩ | ⟨n, h1, h2⟩)
        · cases h
        · exact ⟨n, .inl h1, h2⟩
        · exact ⟨n, .inr h1, h2⟩
      · rintro ⟨n, h1 | h1, h2⟩
        · exact .inr (.inl ⟨n, h1, h2⟩)
        · exact .inr (.inr ⟨n, h1, h2⟩)
    have hbd : ∀ v ∈ (vl ++ vr).foldl putN [], 0 ≤ v ∧ v ≤ 11 := by
      intro v hv
      obtain ⟨n, h1, h2, rfl⟩ := (hmem v).1 hv
      rcases h1 with h1 | h1
      · have := l2 n h1; omega
      · have := r2 n h1; omega
    refine ⟨(vl ++ vr).foldl putN [], up_foldPut _ _ List.Pairwise.nil, hbd, fun pre post hp => ?_, fun m bd hb => ?_, fun v => ?_⟩
    · simp only [List.length_cons, List.length_nil] at hp ⊢
      rw [show (pre.length : Int) + ((0 + 1 : Nat) : Int) - 1 = (pre.length : Int) by omega, List.singleton_append]
      apply e_spec_l14Free
      simp only [q_spec_l14Free, idx_mid, Option.bind_some, ho, e1, f1, Int.reduceBEq, ↓reduceIte]
      rw [if_pos (by omega)]
      have := p_freePut1 (vl ++ vr) (by simp; omega) (vl ++ vr).length 0 (by omega) [] (by simp)
      rw [show ((0 : Nat) : Int) = 0 from rfl, List.drop_zero] at this
      rw [this]
      rfl
    · simp only [List.length_cons, List.length_nil] at hb
      obtain ⟨m1, k1, k2⟩ := p_free_node x [] hx m bd (by omega)
      refine ⟨m1, k2 m1 (p_free_end _ _ []), fun v => ?_⟩
      rw [k1 v]
      congr 2
      rw [Bool.eq_iff_iff, decide_eq_true_eq, decide_eq_true_eq, mem_upTo, hmem]
      simp only [inV, List.any_cons, List.any_nil, Bool.or_false, Bool.or_eq_true, decide_eq_true_eq]
      constructor
      · rintro ⟨v0, v1, hv⟩
        exact ⟨-1 - v, hv, by omega, by omega⟩
      · rintro ⟨n, h1, h2, rfl⟩
        have := hbd (-1 - n) ((hmem _).2 ⟨n, h1, h2, rfl⟩)
        refine ⟨this.1, this.2, ?_⟩
        rw [show -1 - (-1 - n) = n by omega]
        exact h1
    · rw [hmem]
      simp only [fvT, Bool.or_eq_true, decide_eq_true_eq]
      constructor
      · rintro ⟨n, h1, h2, rfl⟩
        rw [show -1 - (-1 - n) = n by omega]
        exact ⟨by omega, h1⟩
      · rintro ⟨v0, h1⟩
        exact ⟨-1 - v, h1, by omega, by omega⟩
  | @un x g t h h1 hg ih =>
    have hx := ndOK_smF h
    obtain ⟨h256, v0, v5⟩ := un_op h h1
    have hfl := nd_flat h (by omega)
    obtain ⟨L, u1, u2, u3, u4, u5⟩ := ih
    have hL12 := u1.len12 u2
    by_cases h2 : x.1 = 2
    · refine ⟨L, u1, u2, fun pre post hp => ?_, fun m bd hb => ?_, fun v => by rw [u5 v]; simp [fvT, h2]⟩
      · simp only [List.length_append, List.length_cons, List.length_nil] at hp ⊢
        apply e_spec_l14Free
        rw [show (pre.length : Int) + ((g.length + (0 + 1) : Nat) : Int) - 1 = ((pre ++ g).length : Int) by simp; omega, show pre ++ (g ++ [x] ++ post) = (pre ++ g) ++ x :: post by simp]
        simp only [q_spec_l14Free, idx_mid, Option.bind_some, form_eta, h2, Int.reduceBEq, Bool.false_eq_true, ↓reduceIte, Sum.elim_inl]
        rw [w64 (by omega) (by simp; omega), show ((pre ++ g).length : Int) - 1 = (pre.length : Int) + g.length - 1 by simp, List.append_assoc, u3 pre (x :: post) (by omega)]
        rfl
      · simp only [List.length_append, List.length_cons, List.length_nil] at hb
        obtain ⟨m1, k1, k2⟩ := p_free_node x [t] hx m bd (by omega)
        rw [if_neg (by omega)] at k2
        obtain ⟨m2, q1, q2⟩ := u4 m1 bd (by omega)
        refine ⟨m2, k2 m2 (p_free_step _ _ _ _ [t] 0 (by simp) (by simp) q1 (p_free_end _ _ [t])), fun v => ?_⟩
        rw [q2 v, k1 v, inV_nil x hfl v]
        simp
    · have h56 : x.1 = 5 ∨ x.1 = 6 := by omega
      refine ⟨L.filter (fun v => v != x.2.1), List.Pairwise.filter _ u1, fun v hv => u2 v (List.mem_filter.1 hv).1, fun pre post hp => ?_, fun m bd hb => ?_, fun v => by rw [List.mem_filter, u5 v]; simp [fvT, h2, and_assoc]⟩
      · simp only [List.length_append, List.length_cons, List.length_nil] at hp ⊢
        apply e_spec_l14Free
        rw [show (pre.length : Int) + ((g.length + (0 + 1) : Nat) : Int) - 1 = ((pre ++ g).length : Int) by simp; omega, show pre ++ (g ++ [x] ++ post) = (pre ++ g) ++ x :: post by simp]
        have fin : ∀ b : Bool, b = true → (if b = true then ((c_spec_l14Free M ((pre ++ g) ++ x :: post) (IntKind.i64.wrap (((pre ++ g).length : Int) - (1 : Int)))).bind fun r7 => ((c_spec_l8Drop M r7.1.1 x.2.1).bind fun r8 => (some ((r8.1.1, ()), ())))) else none : Option ((List Int × Unit) × Unit)) = some ((L.filter (fun v => v != x.2.1), ()), ()) := by
          intro b hb
          rw [if_pos hb, w64 (by omega) (by simp; omega), show ((pre ++ g).length : Int) - 1 = (pre.length : Int) + g.length - 1 by simp, List.append_assoc, u3 pre (x :: post) (by omega)]
          simp only [Option.bind_some, p_l8Drop L _ (by omega)]
        rcases h56 with h5 | h6
        · simp only [q_spec_l14Free, idx_mid, Option.bind_some, form_eta, h5, Int.reduceBEq, Bool.false_eq_true, ↓reduceIte, Sum.elim_inl]
          exact fin true rfl
        · simp only [q_spec_l14Free, idx_mid, Option.bind_some, form_eta, h6, Int.reduceBEq, Bool.false_eq_true, ↓reduceIte, Sum.elim_inl]
          exact fin true rfl
      · simp only [List.length_append, List.length_cons, List.length_nil] at hb
        obtain ⟨m1, k1, k2⟩ := p_free_node x [t] hx m bd (by omega)
        rw [if_pos h56] at k2
        obtain ⟨m2, q1, q2⟩ := u4 m1 (bd ++ [x.2.1]) (by simp; omega)
        refine ⟨m2, k2 m2 (p_free_step _ _ _ _ [t] 0 (by simp) (by simp) q1 (p_free_end _ _ [t])), fun v => ?_⟩
        rw [q2 v, k1 v, inV_nil x hfl v]
        simp only [Bool.false_and, Bool.or_false]
        congr 1
        rw [Bool.eq_iff_iff]
        simp only [Bool.and_eq_true, decide_eq_true_eq, Bool.not_eq_true', decide_eq_false_iff_not, List.mem_append, List.mem_cons, List.not_mem_nil, or_false, not_or, List.mem_filter, bne_iff_ne]
        constructor
        · rintro ⟨a1, a2, a3⟩; exact ⟨⟨a1, a3⟩, a2⟩
        · rintro ⟨⟨a1, a3⟩, a2⟩; exact ⟨a1, a2, a3⟩
  | @bin x g k t u h h2 hg hk ih1 ih2 =>
    have hx := ndOK_smF h
    have h34 := bin_op h h2
    have hfl := nd_flat h (by omega)
    obtain ⟨L1, a1, a2, a3, a4, a5⟩ := ih1
    obtain ⟨L2, b1, b2, b3, b4, b5⟩ := ih2
    have hL1 := a1.len12 a2
    have hL2 := b1.len12 b2
    refine ⟨L1.foldl putN L2, up_foldPut _ _ b1, ?_, fun pre post hp => ?_, fun m bd hb => ?_, fun v => ?_⟩
    · intro v hv
      rcases (mem_foldPut _ _ _).1 hv with hv | hv
      · exact b2 v hv
      · exact a2 v hv
    · simp only [List.length_append, List.length_cons, List.length_nil] at hp ⊢
      apply e_spec_l14Free
      rw [show (pre.length : Int) + ((g.length + k.length + (0 + 1) : Nat) : Int) - 1 = (((pre ++ g) ++ k).length : Int) by simp; omega, show pre ++ (g ++ k ++ [x] ++ post) = ((pre ++ g) ++ k) ++ x :: post by simp]
      have e1 := a3 pre (k ++ x :: post) (by omega)
      have e2 := b3 (pre ++ g) (x :: post) (by simp; omega)
      have e3 := p_l14First hk (pre ++ g) (x :: post) (by simp; omega)
      have n5 : (x.1 == 5) = false := by simp; omega
      have n6 : (x.1 == 6) = false := by simp; omega
      have n1 : (x.1 == 1) = false := by simp; omega
      have n2 : (x.1 == 2) = false := by simp; omega
      simp only [q_spec_l14Free, idx_mid, Option.bind_some, form_eta, n1, n2, n5, n6, Bool.false_eq_true, ↓reduceIte, Sum.elim_inl]
      rw [w64 (by omega) (by simp; omega), show (((pre ++ g) ++ k).length : Int) - 1 = ((pre ++ g).length : Int) + k.length - 1 by simp; omega, show (((pre ++ g) ++ k).length : Int) = ((pre ++ g).length : Int) + k.length by simp; omega, List.append_assoc (pre ++ g) k, e2]
      simp only [Option.bind_some]
      rw [e3]
      simp only [Option.bind_some]
      rw [show ((pre ++ g).length : Int) - 1 = (pre.length : Int) + g.length - 1 by simp, List.append_assoc pre g, e1]
      simp only [Option.bind_some]
      have := p_freePut2 L1 (by omega) L1.length 0 (by omega) L2 (by omega)
      rw [show ((0 : Nat) : Int) = 0 from rfl, List.drop_zero] at this
      rw [this]
      rfl
    · simp only [List.length_append, List.length_cons, List.length_nil] at hb
      obtain ⟨m1, k1, k2⟩ := p_free_node x [t, u] hx m bd (by omega)
      rw [if_neg (by omega)] at k2
      obtain ⟨m2, q1, q2⟩ := a4 m1 bd (by omega)
      obtain ⟨m3, q3, q4⟩ := b4 m2 bd (by omega)
      refine ⟨m3, k2 m3 (p_free_step _ _ _ _ [t, u] 0 (by simp) (by simp) q1 (p_free_step _ _ _ _ [t, u] 1 (by simp) (by simp) q3 (p_free_end _ _ [t, u]))), fun v => ?_⟩
      rw [q4 v, q2 v, k1 v, inV_nil x hfl v]
      have : decide (v ∈ L1.foldl putN L2) = (decide (v ∈ L2) || decide (v ∈ L1)) := by
        rw [Bool.eq_iff_iff]; simp only [decide_eq_true_eq, mem_foldPut, Bool.or_eq_true]
      rw [this]
      cases mget m v false <;> cases decide (v ∈ L1) <;> cases decide (v ∈ L2) <;> cases decide (v ∈ bd) <;> rfl
    · rw [mem_foldPut, a5 v, b5 v]
      simp only [fvT, Bool.or_eq_true]
      constructor
      · rintro (⟨h1, h2⟩ | ⟨h1, h2⟩)
        · exact ⟨h1, .inr h2⟩
        · exact ⟨h1, .inl h2⟩
      · rintro ⟨h1, h2 | h2⟩
        · exact .inr ⟨h1, h2⟩
        · exact .inl ⟨h1, h2⟩
theorem p_free {a : List Int} {h : List TForm} {t : Tree} (hf : FT a h t) : ∃ L : List Int, Up L ∧ (∀ v ∈ L, 0 ≤ v ∧ v ≤ 11) ∧ (∀ pre post : List TForm, pre.length + h.length ≤ 100 → c_spec_l14Free M (pre ++ (h ++ post)) ((pre.length : Int) + h.length - 1) = some ((L, ()), ())) ∧
    ∀ (m : List (Int × Bool)) (bd : List Int), bd.length + h.length ≤ 900 → ∃ m', c_impl_tree_free M t m bd = some ((), (m', ())) ∧ ∀ v, mget m' v false = (mget m v false || (decide (v ∈ L) && !decide (v ∈ bd))) := by
  obtain ⟨L, a1, a2, a3, a4, _⟩ := p_freeX hf
  exact ⟨L, a1, a2, a3, a4⟩

theorem p_freeIn_loop (m : List (Int × Bool)) : ∀ k i : Nat, i + k = 12 → ∀ o : List Int, o = ((List.range i).map Int.ofNat).filter (fun v => mget m v false) → l_impl_tree_freeIn_250 M m o i = some (.inl (upTo (fun v => mget m v false), ())) := by
  intro k
  induction k with
  | zero =>
    intro i hi o ho
    obtain rfl : i = 12 := by omega
    subst ho
    exact el_impl_tree_freeIn_250 _ _ _ (by simp [ql_impl_tree_freeIn_250, upTo])
  | succ k ih =>
    intro i hi o ho
    have hp := upTo_part (fun v => mget m v false) i (by omega) o ho (by omega)
    have hol : o.length ≤ 12 := by rw [ho]; exact Nat.le_trans (List.length_filter_le _ _) (by simp; omega)
    apply el_impl_tree_freeIn_250
    simp only [ql_impl_tree_freeIn_250]
    rw [if_pos (by simp; omega)]
    cases hv : mget m (i : Int) false with
    | true =>
      rw [hv, if_pos rfl] at hp
      rw [if_pos rfl, if_pos (by simp; omega)]
      simp only [Option.bind_some, Sum.elim_inl]
      rw [inc_nat (by omega)]
      exact ih (i + 1) (by omega) _ hp.symm
    | false =>
      rw [hv, if_neg (by simp)] at hp
      rw [if_neg (by simp)]
      simp only [Option.bind_some, Sum.elim_inl]
      rw [inc_nat (by omega)]
      exact ih (i + 1) (by omega) _ hp.symm
theorem p_freeIn {a : List Int} {h : List TForm} {t : Tree} (hf : FT a h t) (hl : h.length ≤ 100) : ∃ L : List Int, Up L ∧ (∀ v ∈ L, 0 ≤ v ∧ v ≤ 11) ∧ c_spec_l14Free M h ((h.length : Int) - 1) = some ((L, ()), ()) ∧ c_impl_tree_freeIn M t = some ((L, ()), ()) := by
  obtain ⟨L, u1, u2, u3, u4⟩ := p_free hf
  have e := u3 [] [] (by simpa using hl)
  simp only [List.nil_append, List.append_nil, List.length_nil, Int.natCast_zero, Int.zero_add] at e
  refine ⟨L, u1, u2, e, ?_⟩
  obtain ⟨m', q1, q2⟩ := u4 [] [] (by simp; omega)
  apply e_impl_tree_freeIn
  have := p_freeIn_loop m' 12 0 (by omega) [] (by simp)
  rw [show ((0 : Nat) : Int) = 0 from rfl] at this
  simp only [q_impl_tree_freeIn, q1, Option.bind_some, this, Sum.elim_inl]
  rw [u1.le12 u2]
  congr 4
  funext v
  rw [q2 v]
  simp [mget]
end Go.Proofs.YtpmjpijpjmphnaaGreatCf.Ev

/- Plain laws: trees are listed node by node; a listed tree is valid exactly if its nodes are. No condition but sizes. -/
namespace Go.Proofs.YtpmjpijpjmphnaaGreatCf.Ev
open Go
set_option autoImplicit false
set_option linter.unusedVariables false
set_option linter.unusedSimpArgs false

/-- Nodes in a row that list a tree. -/
inductive LT : List TForm → Tree → Prop
  | leaf {x : TForm} : LT [x] (mkT x [])
  | un {x : TForm} {g : List TForm} {t : Tree} (hg : LT g t) : LT (g ++ [x]) (mkT x [t])
  | bin {x : TForm} {g k : List TForm} {t u : Tree} (hg : LT g t) (hk : LT k u) : LT (g ++ k ++ [x]) (mkT x [t, u])
theorem FT.lt {a : List Int} {g : List TForm} {t : Tree} (h : FT a g t) : LT g t := by
  induction h with
  | leaf _ _ => exact .leaf
  | un _ _ _ ih => exact .un ih
  | bin _ _ _ _ ih1 ih2 => exact .bin ih1 ih2

theorem p_list_end (x : TForm) (T : Tree) (ts : List Tree) (o : List TForm) : l_impl_tree_list_26 M T o ts ts.length ts.length = some (.inl (T, o, ())) := by
  apply el_impl_tree_list_26
  simp [ql_impl_tree_list_26]
theorem p_list_step (T : Tree) (ts : List Tree) (o o' : List TForm) (i : Nat) (hi : i < ts.length) (hl : ts.length ≤ 1000) (h : c_impl_tree_list M ts[i] o = some ((o', ()), ())) {r : (Tree × List TForm × Unit) ⊕ ((List TForm × Unit) × Unit)}
    (hr : l_impl_tree_list_26 M T o' ts ts.length ((i + 1 : Nat) : Int) = some r) : l_impl_tree_list_26 M T o ts ts.length (i : Int) = some r := by
  apply el_impl_tree_list_26
  simp only [ql_impl_tree_list_26]
  rw [if_pos (by simpa using hi), idx_lt hi]
  simp only [Option.bind_some, h]
  rw [inc_nat (by omega)]
  exact hr
theorem p_list_top (x : TForm) (ts : List Tree) (o o' : List TForm) (hx : smF x) (ho : o'.length ≤ 1000) (h : l_impl_tree_list_26 M (mkT x ts) o ts ts.length 0 = some (.inl (mkT x ts, o', ()))) : c_impl_tree_list M (mkT x ts) o = some ((o' ++ [x], ()), ()) := by
  apply e_impl_tree_list
  simp only [q_impl_tree_list, treeK, h, Option.bind_some, Sum.elim_inl]
  have h1 := hx.1
  have h2 := hx.2
  rw [if_pos (by omega), if_pos (by omega), if_pos (by simp; omega)]

theorem p_list {g : List TForm} {t : Tree} (h : LT g t) : ∀ o : List TForm, (∀ x ∈ g, smF x) → o.length + g.length ≤ 1000 → c_impl_tree_list M t o = some ((o ++ g, ()), ()) := by
  induction h with
  | @leaf x =>
    intro o hx hl
    exact p_list_top x [] o o (hx x (by simp)) (by omega) (p_list_end x _ [] o)
  | @un x g t hg ih =>
    intro o hx hl
    simp only [List.length_append, List.length_cons, List.length_nil] at hl
    rw [← List.append_assoc]
    refine p_list_top x [t] o (o ++ g) (hx x (by simp)) (by simp; omega) ?_
    exact p_list_step _ [t] o (o ++ g) 0 (by simp) (by simp) (ih o (fun y hy => hx y (by simp [hy])) (by omega)) (p_list_end x _ [t] _)
  | @bin x g k t u hg hk ih1 ih2 =>
    intro o hx hl
    simp only [List.length_append, List.length_cons, List.length_nil] at hl
    rw [← List.append_assoc]
    refine p_list_top x [t, u] o (o ++ (g ++ k)) (hx x (by simp)) (by simp; omega) ?_
    refine p_list_step _ [t, u] o (o ++ g) 0 (by simp) (by simp) (ih1 o (fun y hy => hx y (by simp [hy])) (by omega)) ?_
    refine p_list_step _ [t, u] (o ++ g) (o ++ (g ++ k)) 1 (by simp) (by simp) (by rw [← List.append_assoc]; exact ih2 (o ++ g) (fun y hy => hx y (by simp [hy])) (by simp; omega)) (p_list_end x _ [t, u] _)

theorem p_grow1_loop (s : TSign) (hg : gS s.1 = true) (f : List TForm) (hl : f.length ≤ 15) : ∀ k i : Nat, i + k = f.length → ∀ st : List Tree, st.length ≤ i →
    l_impl_Sign_grow_w1_122 M s st f f.length i = some (match gT s.1 st (f.drop i) with | some st' => .inl (st', ()) | none => .inr (((), false, ()), ())) := by
  intro k
  induction k with
  | zero =>
    intro i hi st hst
    obtain rfl : i = f.length := by omega
    apply el_impl_Sign_grow_w1_122
    simp [ql_impl_Sign_grow_w1_122, gT]
  | succ k ih =>
    intro i hi st hst
    have h1 : i < f.length := by omega
    rw [List.drop_eq_getElem_cons h1]
    apply el_impl_Sign_grow_w1_122
    simp only [ql_impl_Sign_grow_w1_122]
    rw [if_pos (by simpa using h1), idx_lt h1]
    simp only [Option.bind_some, form_eta, sign_eta', p_isNode s hg, gT]
    by_cases h2 : ndOK s.1 f[i] = true
    · have ho := ndOK_opn h2
      by_cases h3 : (opn f[i].1).toNat ≤ st.length
      · have e : (st.length : Int) - opn f[i].1 = ((st.length - (opn f[i].1).toNat : Nat) : Int) := by omega
        rw [if_pos (show ndOK s.1 f[i] = true ∧ (opn f[i].1).toNat ≤ st.length from ⟨h2, h3⟩), h2, if_neg (by simp), p_operands s.1 f[i] h2]
        simp only [Option.bind_some]
        rw [w64 (x := (st.length : Int) - opn f[i].1) (by omega) (by omega), e, if_neg (by simp <;> omega)]
        simp only [Int.toNat_natCast, List.take_length]
        rw [if_pos (by omega), if_pos (by simp; omega), if_pos (by omega), if_pos (by simp; omega), inc_nat (by omega), ih (i + 1) (by omega) _ (by simp; omega)]
      · rw [if_neg (show ¬ (ndOK s.1 f[i] = true ∧ (opn f[i].1).toNat ≤ st.length) from fun h => h3 h.2), h2, if_neg (by simp), p_operands s.1 f[i] h2]
        simp only [Option.bind_some]
        rw [w64 (x := (st.length : Int) - opn f[i].1) (by omega) (by omega), if_pos (by simp; omega)]
    · rw [if_neg (show ¬ (ndOK s.1 f[i] = true ∧ (opn f[i].1).toNat ≤ st.length) from fun h => h2 h.1)]
      rw [Bool.not_eq_true] at h2
      rw [h2]
      rfl
theorem p_grow1 (s : TSign) (hg : gS s.1 = true) (f : List TForm) (hlf : f.length ≤ 1000) : c_impl_Sign_grow_w1 M s f = some (((), fOK s.1 f, ()), ()) := by
  apply e_impl_Sign_grow_w1
  simp only [q_impl_Sign_grow_w1, sign_eta']
  by_cases h15 : f.length ≤ 15
  · rw [if_neg (by simp; omega)]
    have hl := p_grow1_loop s hg f h15 f.length 0 (by omega) [] (by simp)
    rw [show ((0 : Nat) : Int) = 0 from rfl, List.drop_zero] at hl
    have hgf := gT_gF s.1 f []
    rw [List.length_nil] at hgf
    rw [hl]
    cases hT : gT s.1 [] f with
    | none =>
      rw [hT] at hgf
      simp [fOK, hgf]
    | some st' =>
      rw [hT] at hgf
      simp only [Option.bind_some, Sum.elim_inl]
      by_cases h1 : st'.length = 1
      · match st', h1 with
        | [t], _ => simp [fOK, hgf, h15]
      · rw [if_pos (by simp; omega)]
        simp [fOK, hgf, h1]
  · rw [if_pos (by simp; omega)]
    simp [fOK, h15]

theorem p_listed (s : TSign) (hg : gS s.1 = true) {g : List TForm} {t : Tree} (h : LT g t) (hx : ∀ x ∈ g, smF x) (hl : g.length ≤ 1000) : c_impl_Sign_listed M s t = some (if fOK s.1 g = true then ((g, true, ()), ()) else (([], false, ()), ())) := by
  apply e_impl_Sign_listed
  have h1 := p_list h [] hx (by simpa using hl)
  rw [List.nil_append] at h1
  simp only [q_impl_Sign_listed, h1, Option.bind_some, sign_eta', p_grow1 s hg g hl]
  cases fOK s.1 g <;> rfl

theorem p_own' (l : List Int) (hl : l.length ≤ 1048576) : c_spec_l1Own M l = some ((l, ()), ()) := by
  apply e_spec_l1Own
  simp only [q_spec_l1Own, List.length_nil, List.nil_append]
  rw [if_pos (by omega)]
theorem p_ownNode (x : TForm) (hx : smF x) : c_spec_l14OwnNode M x = some ((x, ()), ()) := by
  apply e_spec_l14OwnNode
  simp only [q_spec_l14OwnNode, p_own' _ hx.1, p_own' _ hx.2, Option.bind_some]

theorem FT.sm {a : List Int} {g : List TForm} {t : Tree} (h : FT a g t) : ∀ x ∈ g, smF x := by
  induction h with
  | leaf h _ => intro y hy; simp at hy; subst hy; exact ndOK_smF h
  | un h _ _ ih => intro y hy; rw [List.mem_append] at hy; rcases hy with hy | hy
                   · exact ih y hy
                   · simp at hy; subst hy; exact ndOK_smF h
  | bin h _ _ _ ih1 ih2 => intro y hy; rw [List.mem_append, List.mem_append] at hy; rcases hy with (hy | hy) | hy
                           · exact ih1 y hy
                           · exact ih2 y hy
                           · simp at hy; subst hy; exact ndOK_smF h
end Go.Proofs.YtpmjpijpjmphnaaGreatCf.Ev

/- Plain laws: variables replaced in terms. No condition but sizes. -/
namespace Go.Proofs.YtpmjpijpjmphnaaGreatCf.Ev
open Go
set_option autoImplicit false
set_option linter.unusedVariables false
set_option linter.unusedSimpArgs false

/-- A number of a term, its variable replaced. -/
def rp (σ : Int → List Int) (n : Int) : List Int := if n < 0 ∧ 0 < (σ (-1 - n)).length then σ (-1 - n) else [n]
def apS (σ : Int → List Int) (T : List Int) : List Int := T.flatMap (rp σ)
theorem rp_len {σ : Int → List Int} (h : ∀ v, (σ v).length ≤ 60) (n : Int) : (rp σ n).length ≤ 60 := by
  unfold rp
  split
  · exact h _
  · simp
theorem apS_len {σ : Int → List Int} (h : ∀ v, (σ v).length ≤ 60) : ∀ T : List Int, (apS σ T).length ≤ 60 * T.length
  | [] => by simp [apS]
  | n :: T => by
    have h1 := rp_len h n
    have h2 := apS_len h T
    simp only [apS, List.flatMap_cons, List.length_append, List.length_cons] at h2 ⊢
    omega
theorem apS_cons (σ : Int → List Int) (n : Int) (t : List Int) : apS σ (n :: t) = rp σ n ++ apS σ t := by simp only [apS, List.flatMap_cons]
theorem apS_append (σ : Int → List Int) (t u : List Int) : apS σ (t ++ u) = apS σ t ++ apS σ u := by simp only [apS, List.flatMap_append]
theorem rp_pos {σ : Int → List Int} {n : Int} (h : 0 ≤ n) : rp σ n = [n] := by unfold rp; rw [if_neg (fun q => by omega)]
theorem rp_free {σ : Int → List Int} {n : Int} (h : σ (-1 - n) = []) : rp σ n = [n] := by unfold rp; rw [if_neg (fun q => by rw [h] at q; simp at q)]
theorem rp_bound {σ : Int → List Int} {n : Int} (hn : n < 0) (h : σ (-1 - n) ≠ []) : rp σ n = σ (-1 - n) := by unfold rp; rw [if_pos ⟨hn, List.length_pos_iff.2 h⟩]
/-- Terms stay terms. -/
theorem sE_apS {a : List Int} (hg : gS a = true) {σ : Int → List Int} (hσ : ∀ v, σ v ≠ [] → Tm a (σ v)) : ∀ (t : List Int) (k : Int), sE a k t = some [] → sE a k (apS σ t) = some [] := by
  intro t
  induction t with
  | nil => intro k h; exact h
  | cons n r ih =>
    intro k h
    rw [apS_cons]
    by_cases hk : k ≤ 0
    · simp only [sE, if_pos hk] at h
      cases h
    · simp only [sE, if_neg hk] at h
      by_cases hb : badN a n
      · rw [if_pos hb] at h; cases h
      · rw [if_neg hb] at h
        by_cases hs : n < 0 ∧ σ (-1 - n) ≠ []
        · rw [rp_bound hs.1 hs.2]
          have h1 : ar a n = 0 := by unfold ar; rw [if_pos hs.1]
          rw [h1] at h
          have hT : sE a 1 (σ (-1 - n)) = some [] := hσ _ hs.2
          have := sE_app hg (σ (-1 - n)) 1 (k - 1) (apS σ r) (by omega) (by omega) hT
          rw [show 1 + (k - 1) = k by omega] at this
          rw [this]
          exact ih _ (by rw [show k - 1 = k - 1 + 0 by omega]; exact h)
        · have hr : rp σ n = [n] := by
            by_cases hn : n < 0
            · exact rp_free (by
                by_cases e : σ (-1 - n) = []
                · exact e
                · exact absurd ⟨hn, e⟩ hs)
            · exact rp_pos (by omega)
          rw [hr, List.singleton_append]
          simp only [sE, if_neg hk, if_neg hb]
          exact ih _ h
theorem Tm_apS {a : List Int} (hg : gS a = true) {σ : Int → List Int} (hσ : ∀ v, σ v ≠ [] → Tm a (σ v)) {t : List Int} (h : Tm a t) : Tm a (apS σ t) := sE_apS hg hσ t 1 h
/-- No term begins another one. -/
theorem Tm_prefix {a : List Int} (hg : gS a = true) {x z : List Int} (h : Tm a x) (k : Tm a (x ++ z)) : z = [] := by
  have := sE_app hg x 1 0 z (by omega) (by omega) h
  rw [show (1 : Int) + 0 = 1 from rfl, sE_zero] at this
  have k' : sE a 1 (x ++ z) = some [] := k
  rw [k'] at this
  exact (Option.some.inj this).symm

/-- How far two lists are alike. -/
def lcp : List Int → List Int → Nat
  | n :: x, m :: y => if n = m then lcp x y + 1 else 0
  | _, _ => 0
theorem lcp_le : ∀ (x y : List Int), lcp x y ≤ x.length ∧ lcp x y ≤ y.length
  | [], _ => by simp [lcp]
  | _ :: _, [] => by simp [lcp]
  | n :: x, m :: y => by
    have := lcp_le x y
    simp only [lcp, List.length_cons]
    split <;> omega
theorem lcp_take : ∀ (x y : List Int), x.take (lcp x y) = y.take (lcp x y)
  | [], y => by simp [lcp]
  | _ :: _, [] => by simp [lcp]
  | n :: x, m :: y => by
    simp only [lcp]
    split
    · rename_i h; rw [h, List.take_succ_cons, List.take_succ_cons, lcp_take x y]
    · simp
theorem lcp_ne : ∀ (x y : List Int) (h1 : lcp x y < x.length) (h2 : lcp x y < y.length), x[lcp x y] ≠ y[lcp x y]
  | [], _, h, _ => by simp at h
  | _ :: _, [], _, h => by simp at h
  | n :: x, m :: y, h1, h2 => by
    by_cases e : n = m
    · have e1 : lcp (n :: x) (m :: y) = lcp x y + 1 := by simp only [lcp, if_pos e]
      simp only [e1] at h1 h2 ⊢
      simpa using lcp_ne x y (by simpa using h1) (by simpa using h2)
    · have e1 : lcp (n :: x) (m :: y) = 0 := by simp only [lcp, if_neg e]
      simp only [e1]
      simpa using e
theorem lcp_get : ∀ (x y : List Int) (i : Nat), i < lcp x y → x[i]? = y[i]?
  | [], _, _, h => by simp [lcp] at h
  | _ :: _, [], _, h => by simp [lcp] at h
  | n :: x, m :: y, i, h => by
    simp only [lcp] at h
    split at h
    · rename_i e
      cases i with
      | zero => simp [e]
      | succ i => simpa using lcp_get x y i (by omega)
    · omega
/-- Terms of which one ends where they are alike are the same. -/
theorem lcp_end {a : List Int} (hg : gS a = true) {x y : List Int} (hx : Tm a x) (hy : Tm a y) (h : lcp x y = x.length ∨ lcp x y = y.length) : x = y := by
  have ht := lcp_take x y
  rcases h with h | h
  · rw [h, List.take_length] at ht
    have e : y = x ++ y.drop x.length := by
      conv => lhs; rw [← List.take_append_drop x.length y]
      rw [← ht]
    have := Tm_prefix hg hx (by rw [← e]; exact hy)
    rw [e, this, List.append_nil]
  · rw [h, List.take_length] at ht
    have e : x = y ++ x.drop y.length := by
      conv => lhs; rw [← List.take_append_drop y.length x]
      rw [ht]
    have := Tm_prefix hg hy (by rw [← e]; exact hx)
    rw [e, this, List.append_nil]
end Go.Proofs.YtpmjpijpjmphnaaGreatCf.Ev

/- Plain laws: variables replaced, by both programs. No condition but sizes. -/
namespace Go.Proofs.YtpmjpijpjmphnaaGreatCf.Ev
open Go
set_option autoImplicit false
set_option linter.unusedVariables false
set_option linter.unusedSimpArgs false

theorem p_replaced_loop (ar : List Int) (tm : List (Int × List Int)) (σ : Int → List Int) (hσ : ∀ v, mget tm v [] = σ v) (hb : ∀ v, (σ v).length ≤ 60) (T : List Int) (hT : T.length ≤ 100) (hv : ∀ n ∈ T, -1000 ≤ n) :
    ∀ k i : Nat, i + k = T.length → ∀ o : List Int, o.length ≤ 60 * i → l_impl_skolem_replaced_58 M (ar, tm, ()) o T T.length i = some (.inl ((ar, tm, ()), o ++ apS σ (T.drop i), ())) := by
  intro k
  induction k with
  | zero =>
    intro i hi o ho
    obtain rfl : i = T.length := by omega
    apply el_impl_skolem_replaced_58
    simp only [ql_impl_skolem_replaced_58]
    rw [if_neg (by simp)]
    simp [apS]
  | succ k ih =>
    intro i hi o ho
    have h1 : i < T.length := by omega
    have h2 := hv _ (List.getElem_mem h1)
    have h3 := rp_len hb T[i]
    have h4 := hb (-1 - T[i])
    have hs : apS σ (T.drop i) = rp σ T[i] ++ apS σ (T.drop (i + 1)) := by rw [List.drop_eq_getElem_cons h1]; simp only [apS, List.flatMap_cons]
    have go : ∀ x : List Int, rp σ T[i] = x → l_impl_skolem_replaced_58 M (ar, tm, ()) (o ++ x) T T.length ((i + 1 : Nat) : Int) = some (.inl ((ar, tm, ()), o ++ apS σ (T.drop i), ())) := by
      intro x hx
      subst hx
      rw [ih (i + 1) (by omega) _ (by simp; omega), hs, List.append_assoc]
    apply el_impl_skolem_replaced_58
    simp only [ql_impl_skolem_replaced_58]
    rw [if_pos (by simpa using h1), idx_lt h1]
    simp only [Option.bind_some]
    by_cases hn : T[i] < 0
    · rw [if_pos (by simpa using hn), w64 (x := -1 - T[i]) (by omega) (by omega), hσ]
      by_cases hl : 0 < (σ (-1 - T[i])).length
      · rw [if_pos (by simp; omega), if_pos (by omega)]
        simp only [Option.bind_some, Sum.elim_inl]
        rw [inc_nat (by omega)]
        exact go _ (by unfold rp; rw [if_pos ⟨hn, hl⟩])
      · rw [if_neg (by simp only [decide_eq_true_eq]; omega), if_pos (by simp; omega)]
        simp only [Option.bind_some, Sum.elim_inl]
        rw [inc_nat (by omega)]
        exact go _ (by unfold rp; rw [if_neg (fun q => hl q.2)])
    · rw [if_neg (by simpa using hn), if_pos (by simp; omega)]
      simp only [Option.bind_some, Sum.elim_inl]
      rw [inc_nat (by omega)]
      exact go _ (by unfold rp; rw [if_neg (fun q => hn q.1)])
theorem p_replaced (ar : List Int) (tm : List (Int × List Int)) (σ : Int → List Int) (hσ : ∀ v, mget tm v [] = σ v) (hb : ∀ v, (σ v).length ≤ 60) (T : List Int) (hT : T.length ≤ 100) (hv : ∀ n ∈ T, -1000 ≤ n) :
    c_impl_skolem_replaced M ((ar, ()), tm, ()) T = some ((apS σ T, ()), (((ar, ()), tm, ()), ())) := by
  apply e_impl_skolem_replaced
  have := p_replaced_loop ar tm σ hσ hb T hT hv T.length 0 (by omega) [] (by simp)
  rw [show ((0 : Nat) : Int) = 0 from rfl, List.drop_zero, List.nil_append] at this
  simp only [q_impl_skolem_replaced, this, Option.bind_some, Sum.elim_inl]

/-- Rows of terms for variables stand for a function. -/
def SubF (sub : List (List Int)) (σ : Int → List Int) : Prop := sub.length = 12 ∧ ∀ v, 0 ≤ v → v ≤ 11 → sub[v.toNat]? = some (σ v)
theorem SubF.idx {sub : List (List Int)} {σ : Int → List Int} (h : SubF sub σ) {v : Int} (v0 : 0 ≤ v) (v1 : v ≤ 11) : idx sub v = some (σ v) := by
  have := h.2 v v0 v1
  obtain ⟨q1, q2⟩ := List.getElem?_eq_some_iff.1 this
  have e := idx_lt (xs := sub) q1
  rw [show ((v.toNat : Nat) : Int) = v by omega, q2] at e
  exact e
theorem p_apply_loop (sub : List (List Int)) (σ : Int → List Int) (hσ : SubF sub σ) (hb : ∀ v, (σ v).length ≤ 60) (T : List Int) (hT : T.length ≤ 100) (hv : ∀ n ∈ T, -12 ≤ n) :
    ∀ k i : Nat, i + k = T.length → ∀ o : List Int, o.length ≤ 60 * i → l_spec_l2Apply_58 M sub o T T.length i = some (.inl (o ++ apS σ (T.drop i), ())) := by
  intro k
  induction k with
  | zero =>
    intro i hi o ho
    obtain rfl : i = T.length := by omega
    apply el_spec_l2Apply_58
    simp only [ql_spec_l2Apply_58]
    rw [if_neg (by simp)]
    simp [apS]
  | succ k ih =>
    intro i hi o ho
    have h1 : i < T.length := by omega
    have h2 := hv _ (List.getElem_mem h1)
    have h3 := rp_len hb T[i]
    have h4 := hb (-1 - T[i])
    have hs : apS σ (T.drop i) = rp σ T[i] ++ apS σ (T.drop (i + 1)) := by rw [List.drop_eq_getElem_cons h1]; simp only [apS, List.flatMap_cons]
    have go : ∀ x : List Int, rp σ T[i] = x → l_spec_l2Apply_58 M sub (o ++ x) T T.length ((i + 1 : Nat) : Int) = some (.inl (o ++ apS σ (T.drop i), ())) := by
      intro x hx
      subst hx
      rw [ih (i + 1) (by omega) _ (by simp; omega), hs, List.append_assoc]
    apply el_spec_l2Apply_58
    simp only [ql_spec_l2Apply_58]
    rw [if_pos (by simpa using h1), idx_lt h1]
    simp only [Option.bind_some]
    by_cases hn : T[i] < 0
    · rw [if_pos (by simpa using hn), w64 (x := -1 - T[i]) (by omega) (by omega), hσ.idx (by omega) (by omega)]
      simp only [Option.bind_some]
      by_cases hl : 0 < (σ (-1 - T[i])).length
      · rw [if_pos (by simp; omega), if_pos (by omega)]
        simp only [Option.bind_some, Sum.elim_inl]
        rw [inc_nat (by omega)]
        exact go _ (by unfold rp; rw [if_pos ⟨hn, hl⟩])
      · rw [if_neg (by simp only [decide_eq_true_eq]; omega), if_pos (by simp; omega)]
        simp only [Option.bind_some, Sum.elim_inl]
        rw [inc_nat (by omega)]
        exact go _ (by unfold rp; rw [if_neg (fun q => hl q.2)])
    · rw [if_neg (by simpa using hn), if_pos (by simp; omega)]
      simp only [Option.bind_some, Sum.elim_inl]
      rw [inc_nat (by omega)]
      exact go _ (by unfold rp; rw [if_neg (fun q => hn q.1)])
theorem p_apply (sub : List (List Int)) (σ : Int → List Int) (hσ : SubF sub σ) (hb : ∀ v, (σ v).length ≤ 60) (T : List Int) (hT : T.length ≤ 100) (hv : ∀ n ∈ T, -12 ≤ n) : c_spec_l2Apply M sub T = some ((apS σ T, ()), ()) := by
  apply e_spec_l2Apply
  have := p_apply_loop sub σ hσ hb T hT hv T.length 0 (by omega) [] (by simp)
  rw [show ((0 : Nat) : Int) = 0 from rfl, List.drop_zero, List.nil_append] at this
  simp only [q_spec_l2Apply, this, Option.bind_some, Sum.elim_inl]
theorem p_l7Copy_loop (b : List (List Int)) (hl : b.length ≤ 1000) (hx : ∀ t ∈ b, t.length ≤ 1048576) : ∀ k i : Nat, i + k = b.length → ∀ o : List (List Int), o.length = i → l_spec_l7Copy_58 M o b b.length i = some (.inl (o ++ b.drop i, ())) := by
  intro k
  induction k with
  | zero =>
    intro i hi o ho
    obtain rfl : i = b.length := by omega
    apply el_spec_l7Copy_58
    simp [ql_spec_l7Copy_58]
  | succ k ih =>
    intro i hi o ho
    have h1 : i < b.length := by omega
    apply el_spec_l7Copy_58
    simp only [ql_spec_l7Copy_58]
    rw [if_pos (by simpa using h1), idx_lt h1]
    simp only [Option.bind_some, p_own' _ (hx _ (List.getElem_mem h1))]
    rw [if_pos (by simp; omega), inc_nat (by omega), ih (i + 1) (by omega) _ (by simp [ho]), List.drop_eq_getElem_cons h1, List.append_assoc]
    rfl
theorem p_l7Copy (b : List (List Int)) (hl : b.length ≤ 1000) (hx : ∀ t ∈ b, t.length ≤ 1048576) : c_spec_l7Copy M b = some ((b, ()), ()) := by
  apply e_spec_l7Copy
  have := p_l7Copy_loop b hl hx b.length 0 (by omega) [] rfl
  rw [show ((0 : Nat) : Int) = 0 from rfl, List.drop_zero, List.nil_append] at this
  simp only [q_spec_l7Copy, this, Option.bind_some, Sum.elim_inl]
def updS (σ : Int → List Int) (v : Int) (t : List Int) : Int → List Int := fun u => if u = v then t else σ u
theorem SubF.upd {sub : List (List Int)} {σ : Int → List Int} (h : SubF sub σ) {v : Int} (v0 : 0 ≤ v) (v1 : v ≤ 11) (t : List Int) : SubF (sub.set v.toNat t) (updS σ v t) := by
  obtain ⟨h1, h2⟩ := h
  refine ⟨by rw [List.length_set]; exact h1, fun u u0 u1 => ?_⟩
  unfold updS
  by_cases e : u = v
  · subst e; rw [if_pos rfl, List.getElem?_set_self (by omega)]
  · rw [if_neg e, List.getElem?_set_ne (by omega)]; exact h2 u u0 u1
theorem SubF.small {sub : List (List Int)} {σ : Int → List Int} (h : SubF sub σ) (hb : ∀ v, (σ v).length ≤ 60) : ∀ t ∈ sub, t.length ≤ 1048576 := by
  intro t ht
  obtain ⟨i, hi, rfl⟩ := List.getElem_of_mem ht
  have h12 := h.1
  have := h.2 (i : Int) (by omega) (by omega)
  rw [Int.toNat_natCast, List.getElem?_eq_getElem hi] at this
  have e := Option.some.inj this
  rw [e]
  have := hb (i : Int)
  omega
end Go.Proofs.YtpmjpijpjmphnaaGreatCf.Ev

/- Plain laws: existential quantifiers removed, by both programs. No condition but sizes. -/
namespace Go.Proofs.YtpmjpijpjmphnaaGreatCf.Ev
open Go
set_option autoImplicit false
set_option linter.unusedVariables false
set_option linter.unusedSimpArgs false

/-- The term for an existential variable. -/
def skt (ar bd : List Int) : List Int := (ar.length : Int) :: bd.map fun u => -1 - u
/-- A tree without existential quantifiers; the arities and the replacements behind. -/
def skT : Tree → List Int → List Int → (Int → List Int) → Tree × List Int × (Int → List Int)
  | .nil, _, ar, σ => (.nil, ar, σ)
  | .mk op v l r [], _, ar, σ => (.mk op v (apS σ l) (apS σ r) [], ar, σ)
  | .mk op v l r [t], bd, ar, σ =>
    if op = 6 then skT t bd (ar ++ [(bd.length : Int)]) (updS σ v (skt ar bd))
    else (.mk op v l r [(skT t (if op = 5 then bd ++ [v] else bd) ar σ).1], (skT t (if op = 5 then bd ++ [v] else bd) ar σ).2)
  | .mk op v l r (t :: u :: _), bd, ar, σ =>
    (.mk op v l r [(skT t bd ar σ).1, (skT u bd (skT t bd ar σ).2.1 (skT t bd ar σ).2.2).1], (skT u bd (skT t bd ar σ).2.1 (skT t bd ar σ).2.2).2)
theorem skT_leaf (x : TForm) (bd ar : List Int) (σ : Int → List Int) : skT (mkT x []) bd ar σ = (mkT (x.1, x.2.1, apS σ x.2.2.1, apS σ x.2.2.2.1, ()) [], ar, σ) := rfl
theorem skT_some (x : TForm) (t : Tree) (bd ar : List Int) (σ : Int → List Int) (h : x.1 = 6) : skT (mkT x [t]) bd ar σ = skT t bd (ar ++ [(bd.length : Int)]) (updS σ x.2.1 (skt ar bd)) := by simp [skT, h]
theorem skT_un (x : TForm) (t : Tree) (bd ar : List Int) (σ : Int → List Int) (h : x.1 ≠ 6) : skT (mkT x [t]) bd ar σ = (mkT x [(skT t (if x.1 = 5 then bd ++ [x.2.1] else bd) ar σ).1], (skT t (if x.1 = 5 then bd ++ [x.2.1] else bd) ar σ).2) := by simp [skT, h]
theorem skT_bin (x : TForm) (t u : Tree) (bd ar : List Int) (σ : Int → List Int) : skT (mkT x [t, u]) bd ar σ = (mkT x [(skT t bd ar σ).1, (skT u bd (skT t bd ar σ).2.1 (skT t bd ar σ).2.2).1], (skT u bd (skT t bd ar σ).2.1 (skT t bd ar σ).2.2).2) := rfl
theorem skt_len (ar bd : List Int) : (skt ar bd).length = bd.length + 1 := by simp [skt]
/-- Bounds of a state. -/
def StB (bd ar : List Int) (σ : Int → List Int) (n : Nat) : Prop := bd.length + n ≤ 50 ∧ ar.length + n ≤ 1000 ∧ (∀ v, (σ v).length ≤ 60) ∧ ∀ u ∈ bd, 0 ≤ u ∧ u ≤ 5
theorem StB.some {bd ar : List Int} {σ : Int → List Int} {n : Nat} (h : StB bd ar σ (n + 1)) (v : Int) : StB bd (ar ++ [(bd.length : Int)]) (updS σ v (skt ar bd)) n := by
  obtain ⟨h1, h2, h3, h4⟩ := h
  refine ⟨by omega, by simp; omega, fun u => ?_, h4⟩
  unfold updS
  split
  · rw [skt_len]; omega
  · exact h3 u
theorem StB.all {bd ar : List Int} {σ : Int → List Int} {n : Nat} (h : StB bd ar σ (n + 1)) {v : Int} (v0 : 0 ≤ v) (v5 : v ≤ 5) : StB (bd ++ [v]) ar σ n := by
  obtain ⟨h1, h2, h3, h4⟩ := h
  refine ⟨by simp; omega, by omega, h3, fun u hu => ?_⟩
  rcases List.mem_append.1 hu with hu | hu
  · exact h4 u hu
  · rw [List.mem_singleton.1 hu]; exact ⟨v0, v5⟩
theorem StB.less {bd ar : List Int} {σ : Int → List Int} {n m : Nat} (h : StB bd ar σ n) (hm : m ≤ n) : StB bd ar σ m := ⟨by have := h.1; omega, by have := h.2.1; omega, h.2.2.1, h.2.2.2⟩
/-- Bounds of the state behind. -/
theorem skT_st {a : List Int} {h : List TForm} {t : Tree} (hf : FT a h t) : ∀ (bd ar : List Int) (σ : Int → List Int) (n : Nat), StB bd ar σ (h.length + n) → StB bd (skT t bd ar σ).2.1 (skT t bd ar σ).2.2 n := by
  induction hf with
  | @leaf x h h0 => intro bd ar σ n hb; exact hb.less (by simp)
  | @un x g t h h1 hg ih =>
    intro bd ar σ n hb
    simp only [List.length_append, List.length_cons, List.length_nil] at hb
    obtain ⟨h256, v0, v5⟩ := un_op h h1
    by_cases h6 : x.1 = 6
    · rw [skT_some x t bd ar σ h6]
      exact ih _ _ _ n ((show StB bd ar σ (g.length + n + 1) from hb.less (by omega)).some x.2.1)
    · rw [skT_un x t bd ar σ h6]
      by_cases h5 : x.1 = 5
      · rw [if_pos h5]
        have := ih _ _ _ n ((show StB bd ar σ (g.length + n + 1) from hb.less (by omega)).all v0 v5)
        exact ⟨by have := hb.1; omega, this.2.1, this.2.2.1, hb.2.2.2⟩
      · rw [if_neg h5]
        exact ih _ _ _ n (hb.less (by omega))
  | @bin x g k t u h h2 hg hk ih1 ih2 =>
    intro bd ar σ n hb
    simp only [List.length_append, List.length_cons, List.length_nil] at hb
    rw [skT_bin]
    exact ih2 _ _ _ n (ih1 _ _ _ (k.length + n) (hb.less (by omega)))

theorem p_with_loop (A : List Int × List (Int × List Int) × Unit) (T : Tree) (bd : List Int) (x : TForm) (hl : bd.length ≤ 50) (hb : ∀ u ∈ bd, 0 ≤ u ∧ u ≤ 5) : ∀ k i : Nat, i + k = bd.length → ∀ o : List Int, o.length ≤ i + 1 → l_impl_skolem_remove_3754 M A T bd x o bd bd.length i = some (.inl (A, T, bd, x, o ++ (bd.drop i).map (fun u => -1 - u), ())) := by
  intro k
  induction k with
  | zero =>
    intro i hi o ho
    obtain rfl : i = bd.length := by omega
    apply el_impl_skolem_remove_3754
    simp only [ql_impl_skolem_remove_3754]
    rw [if_neg (by simp)]
    simp
  | succ k ih =>
    intro i hi o ho
    have h1 : i < bd.length := by omega
    have h2 := hb _ (List.getElem_mem h1)
    apply el_impl_skolem_remove_3754
    simp only [ql_impl_skolem_remove_3754]
    rw [if_pos (by simpa using h1), idx_lt h1]
    simp only [Option.bind_some]
    rw [if_pos (by simp; omega), w64 (x := -1 - bd[i]) (by omega) (by omega), inc_nat (by omega)]
    have := ih (i + 1) (by omega) (o ++ [-1 - bd[i]]) (by simp; omega)
    rw [List.drop_eq_getElem_cons h1, List.map_cons]
    rw [List.append_assoc] at this
    exact this
theorem p_with_loop2 (A : List Int × List (List Int) × List Int × List (List Int) × Unit) (f : List TForm) (kk : Int) (bd : List Int) (x : TForm) (hl : bd.length ≤ 50) (hb : ∀ u ∈ bd, 0 ≤ u ∧ u ≤ 5) : ∀ k i : Nat, i + k = bd.length → ∀ o : List Int, o.length ≤ i + 1 → l_spec_l15Job_form_15082 M A f kk bd x o bd bd.length i = some (.inl (A, f, kk, bd, x, o ++ (bd.drop i).map (fun u => -1 - u), ())) := by
  intro k
  induction k with
  | zero =>
    intro i hi o ho
    obtain rfl : i = bd.length := by omega
    apply el_spec_l15Job_form_15082
    simp only [ql_spec_l15Job_form_15082]
    rw [if_neg (by simp)]
    simp
  | succ k ih =>
    intro i hi o ho
    have h1 : i < bd.length := by omega
    have h2 := hb _ (List.getElem_mem h1)
    apply el_spec_l15Job_form_15082
    simp only [ql_spec_l15Job_form_15082]
    rw [if_pos (by simpa using h1), idx_lt h1]
    simp only [Option.bind_some]
    rw [if_pos (by simp; omega), w64 (x := -1 - bd[i]) (by omega) (by omega), inc_nat (by omega)]
    have := ih (i + 1) (by omega) (o ++ [-1 - bd[i]]) (by simp; omega)
    rw [List.drop_eq_getElem_cons h1, List.map_cons]
    rw [List.append_assoc] at this
    exact this

abbrev RNode := Int × Int × List Int × List Int × List Tree × Unit
theorem p_rem_end (A : List Int × List (Int × List Int) × Unit) (bd : List Int) (o : RNode) (ts : List Tree) : l_impl_skolem_remove_250 M A bd o ts ts.length ts.length = some (.inl (A, o, ())) := by
  apply el_impl_skolem_remove_250
  simp [ql_impl_skolem_remove_250]
theorem p_rem_step (ar ar' : List Int) (tm tm' : List (Int × List Int)) (bd : List Int) (o : RNode) (ts : List Tree) (y : Tree) (i : Nat) (hi : i < ts.length) (hl : ts.length ≤ 1000) (ho : o.2.2.2.2.1.length ≤ 1000) (h : c_impl_skolem_remove M ((ar, ()), tm, ()) ts[i] bd = some ((y, ()), (((ar', ()), tm', ()), ())))
    {r : ((List Int × List (Int × List Int) × Unit) × RNode × Unit) ⊕ ((Tree × Unit) × (((List Int × Unit) × List (Int × List Int) × Unit) × Unit))} (hr : l_impl_skolem_remove_250 M (ar', tm', ()) bd (o.1, o.2.1, o.2.2.1, o.2.2.2.1, o.2.2.2.2.1 ++ [y], ()) ts ts.length ((i + 1 : Nat) : Int) = some r) : l_impl_skolem_remove_250 M (ar, tm, ()) bd o ts ts.length (i : Int) = some r := by
  apply el_impl_skolem_remove_250
  simp only [ql_impl_skolem_remove_250]
  rw [if_pos (by simpa using hi), idx_lt hi]
  simp only [Option.bind_some, h]
  rw [if_pos (by simp; omega), inc_nat (by omega)]
  exact hr

theorem apS_nil (σ : Int → List Int) : apS σ [] = [] := rfl
/-- The program's removal. -/
theorem p_remove {a : List Int} {h : List TForm} {t : Tree} (hf : FT a h t) : ∀ (bd ar : List Int) (σ : Int → List Int) (tm : List (Int × List Int)), StB bd ar σ h.length → (∀ v, mget tm v [] = σ v) →
    ∃ tm', c_impl_skolem_remove M ((ar, ()), tm, ()) t bd = some (((skT t bd ar σ).1, ()), ((((skT t bd ar σ).2.1, ()), tm', ()), ())) ∧ ∀ v, mget tm' v [] = (skT t bd ar σ).2.2 v := by
  induction hf with
  | @leaf x h h0 =>
    intro bd ar σ tm hb hσ
    obtain ⟨ho, tl, tr⟩ := leaf_op h h0
    obtain ⟨l1, l2⟩ := isT_ge tl
    obtain ⟨r1, r2⟩ := isT_ge tr
    have n5 : (x.1 == 5) = false := by simp; omega
    have n6 : (x.1 == 6) = false := by simp; omega
    refine ⟨tm, ?_, hσ⟩
    rw [skT_leaf]
    apply e_impl_skolem_remove
    simp only [q_impl_skolem_remove, treeK, n5, n6, Bool.false_eq_true, if_false, Option.bind_some, Sum.elim_inl, p_replaced ar tm σ hσ hb.2.2.1 x.2.2.1 (by omega) (fun n hn => by have := l2 n hn; omega), p_replaced ar tm σ hσ hb.2.2.1 x.2.2.2.1 (by omega) (fun n hn => by have := r2 n hn; omega)]
    have : l_impl_skolem_remove_250 M (ar, tm, ()) bd (x.1, x.2.1, apS σ x.2.2.1, apS σ x.2.2.2.1, [], ()) [] (([] : List Tree).length : Int) 0 = some (.inl ((ar, tm, ()), (x.1, x.2.1, apS σ x.2.2.1, apS σ x.2.2.2.1, [], ()), ())) := p_rem_end _ _ _ []
    rw [this]
    rfl
  | @un x g t h h1 hg ih =>
    intro bd ar σ tm hb hσ
    obtain ⟨h256, v0, v5⟩ := un_op h h1
    have hfl := nd_flat h (by omega)
    simp only [List.length_append, List.length_cons, List.length_nil] at hb
    have hb1 := hb.1
    have hb2 := hb.2.1
    have rep : ∀ b : List Int, c_impl_skolem_replaced M ((ar, ()), tm, ()) [] = some (([], ()), (((ar, ()), tm, ()), ())) := fun _ => p_replaced ar tm σ hσ hb.2.2.1 [] (by simp) (by simp)
    by_cases h6 : x.1 = 6
    · have n6 : (x.1 == 6) = true := by simp [h6]
      obtain ⟨tm', k1, k2⟩ := ih bd (ar ++ [(bd.length : Int)]) (updS σ x.2.1 (skt ar bd)) (mput tm x.2.1 (skt ar bd)) ((show StB bd ar σ (g.length + 1) from hb.less (by omega)).some x.2.1) (fun v => by
        rw [mget_mput]
        unfold updS
        by_cases e : x.2.1 = v
        · rw [if_pos e, if_pos e.symm]
        · rw [if_neg e, if_neg (fun q => e q.symm), hσ])
      refine ⟨tm', ?_, by rw [skT_some x t bd ar σ h6]; exact k2⟩
      rw [skT_some x t bd ar σ h6]
      have w := p_with_loop (ar, tm, ()) (mkT x [t]) bd x (by omega) hb.2.2.2 bd.length 0 (by omega) [(ar.length : Int)] (by simp)
      rw [show ((0 : Nat) : Int) = 0 from rfl, List.drop_zero, show [(ar.length : Int)] ++ bd.map (fun u => -1 - u) = skt ar bd from rfl] at w
      apply e_impl_skolem_remove
      simp only [q_impl_skolem_remove, treeK, n6, if_true, show (x.1, x.2.1, x.2.2.1, x.2.2.2.1, ()) = x from rfl]
      rw [w]
      simp only [Option.bind_some, Sum.elim_inl]
      rw [if_pos (by simp; omega)]
      simp only [show idx [t] 0 = some t from rfl, Option.bind_some, k1]
      rfl
    · have n6 : (x.1 == 6) = false := by simp [h6]
      rw [skT_un x t bd ar σ h6]
      by_cases h5 : x.1 = 5
      · have n5 : (x.1 == 5) = true := by simp [h5]
        rw [if_pos h5]
        obtain ⟨tm', k1, k2⟩ := ih (bd ++ [x.2.1]) ar σ tm ((show StB bd ar σ (g.length + 1) from hb.less (by omega)).all v0 v5) hσ
        refine ⟨tm', ?_, k2⟩
        have st := p_rem_step ar _ tm tm' (bd ++ [x.2.1]) (x.1, x.2.1, [], [], [], ()) [t] _ 0 (by simp) (by simp) (by simp) k1 (p_rem_end _ _ _ [t])
        rw [show ((0 : Nat) : Int) = 0 from rfl] at st
        apply e_impl_skolem_remove
        simp only [q_impl_skolem_remove, treeK, n6, n5, Bool.false_eq_true, if_false, if_true]
        rw [if_pos (by omega), if_pos (by simp; omega)]
        simp only [Option.bind_some, Sum.elim_inl, hfl.1, hfl.2, rep []]
        rw [st]
        simp only [Option.bind_some, Sum.elim_inl, List.nil_append, mkT, hfl.1, hfl.2]
      · have n5 : (x.1 == 5) = false := by simp [h5]
        rw [if_neg h5]
        obtain ⟨tm', k1, k2⟩ := ih bd ar σ tm (hb.less (by omega)) hσ
        refine ⟨tm', ?_, k2⟩
        have st := p_rem_step ar _ tm tm' bd (x.1, x.2.1, [], [], [], ()) [t] _ 0 (by simp) (by simp) (by simp) k1 (p_rem_end _ _ _ [t])
        rw [show ((0 : Nat) : Int) = 0 from rfl] at st
        apply e_impl_skolem_remove
        simp only [q_impl_skolem_remove, treeK, n6, n5, Bool.false_eq_true, if_false, Option.bind_some, Sum.elim_inl, hfl.1, hfl.2, rep []]
        rw [st]
        simp only [Option.bind_some, Sum.elim_inl, List.nil_append, mkT, hfl.1, hfl.2]
  | @bin x g k t u h h2 hg hk ih1 ih2 =>
    intro bd ar σ tm hb hσ
    have h34 := bin_op h h2
    have hfl := nd_flat h (by omega)
    simp only [List.length_append, List.length_cons, List.length_nil] at hb
    have n5 : (x.1 == 5) = false := by simp; omega
    have n6 : (x.1 == 6) = false := by simp; omega
    have rep : c_impl_skolem_replaced M ((ar, ()), tm, ()) [] = some (([], ()), (((ar, ()), tm, ()), ())) := p_replaced ar tm σ hσ hb.2.2.1 [] (by simp) (by simp)
    obtain ⟨tm1, k1, k2⟩ := ih1 bd ar σ tm (hb.less (by omega)) hσ
    obtain ⟨tm2, j1, j2⟩ := ih2 bd _ _ tm1 (skT_st hg bd ar σ k.length (hb.less (by omega))) k2
    refine ⟨tm2, ?_, by rw [skT_bin]; exact j2⟩
    rw [skT_bin]
    have st := p_rem_step ar _ tm tm1 bd (x.1, x.2.1, [], [], [], ()) [t, u] _ 0 (by simp) (by simp) (by simp) k1 (p_rem_step _ _ tm1 tm2 bd (x.1, x.2.1, [], [], [(skT t bd ar σ).1], ()) [t, u] _ 1 (by simp) (by simp) (by simp) j1 (p_rem_end _ _ _ [t, u]))
    rw [show ((0 : Nat) : Int) = 0 from rfl] at st
    apply e_impl_skolem_remove
    simp only [q_impl_skolem_remove, treeK, n6, n5, Bool.false_eq_true, if_false, Option.bind_some, Sum.elim_inl, hfl.1, hfl.2, rep]
    rw [st]
    simp only [Option.bind_some, Sum.elim_inl, List.nil_append, mkT, hfl.1, hfl.2, List.singleton_append, List.cons_append]
end Go.Proofs.YtpmjpijpjmphnaaGreatCf.Ev

/- Plain laws: a formula without existential quantifiers, by the reference. No condition but sizes. -/
namespace Go.Proofs.YtpmjpijpjmphnaaGreatCf.Ev
open Go
set_option autoImplicit false
set_option linter.unusedVariables false
set_option linter.unusedSimpArgs false

abbrev TJob := (List Int × Unit) × List (List Int) × List Int × List (List Int) × Unit
theorem p_l15form {a : List Int} {h : List TForm} {t : Tree} (hf : FT a h t) : ∀ (bd ar : List Int) (σ : Int → List Int) (sub : List (List Int)) (so : List Int) (ag : List (List Int)) (pre post : List TForm), StB bd ar σ h.length → SubF sub σ → so.length + h.length ≤ 1000 → ag.length + h.length ≤ 1000 → pre.length + h.length ≤ 100 →
    ∃ (L : List TForm) (sub' : List (List Int)) (so' : List Int) (ag' : List (List Int)), c_spec_l15Job_form M ((ar, ()), sub, so, ag, ()) (pre ++ (h ++ post)) ((pre.length : Int) + h.length - 1) bd = some ((L, ()), ((((skT t bd ar σ).2.1, ()), sub', so', ag', ()), ())) ∧ LT L (skT t bd ar σ).1 ∧ SubF sub' (skT t bd ar σ).2.2 ∧ L.length ≤ h.length ∧
      so'.length ≤ so.length + h.length ∧ ag'.length ≤ ag.length + h.length ∧ ∀ x ∈ L, smF x := by
  induction hf with
  | @leaf x h h0 =>
    intro bd ar σ sub so ag pre post hb hσ hso hag hp
    obtain ⟨ho, tl, tr⟩ := leaf_op h h0
    obtain ⟨l1, l2⟩ := isT_ge tl
    obtain ⟨r1, r2⟩ := isT_ge tr
    have hx := ndOK_smF h
    have a1 := apS_len hb.2.2.1 x.2.2.1
    have a2 := apS_len hb.2.2.1 x.2.2.2.1
    rw [skT_leaf]
    refine ⟨[(x.1, x.2.1, apS σ x.2.2.1, apS σ x.2.2.2.1, ())], sub, so, ag, ?_, .leaf, hσ, by simp, by simp, by simp, fun y hy => by rw [List.mem_singleton.1 hy]; exact ⟨by simp only; omega, by simp only; omega⟩⟩
    rw [show (pre.length : Int) + (([x] : List TForm).length : Int) - 1 = (pre.length : Int) by simp, List.singleton_append]
    apply e_spec_l15Job_form
    have n1 : (x.1 == 1) = true := by simp [ho]
    simp only [q_spec_l15Job_form, idx_mid, Option.bind_some, form_eta, p_ownNode x hx, n1, if_true, p_apply sub σ hσ hb.2.2.1 x.2.2.1 (by omega) l2, p_apply sub σ hσ hb.2.2.1 x.2.2.2.1 (by omega) r2]
  | @un x g t h h1 hg ih =>
    intro bd ar σ sub so ag pre post hb hσ hso hag hp
    obtain ⟨h256, v0, v5⟩ := un_op h h1
    have hx := ndOK_smF h
    simp only [List.length_append, List.length_cons, List.length_nil] at hb hso hag hp ⊢
    have hb1 := hb.1
    have hb2 := hb.2.1
    have n1 : (x.1 == 1) = false := by simp; omega
    have hk : (pre.length : Int) + ((g.length + (0 + 1) : Nat) : Int) - 1 = ((pre ++ g).length : Int) := by simp; omega
    have hl : pre ++ (g ++ [x] ++ post) = (pre ++ g) ++ x :: post := by simp
    have hw : IntKind.i64.wrap (((pre ++ g).length : Int) - 1) = (pre.length : Int) + g.length - 1 := by rw [w64 (by omega) (by simp; omega)]; simp
    by_cases h6 : x.1 = 6
    · have n6 : (x.1 == 6) = true := by simp [h6]
      have hs12 := hσ.1
      obtain ⟨L, sub', so', ag', k1, k2, k3, k4, k5, k6, k7⟩ := ih bd (ar ++ [(bd.length : Int)]) (updS σ x.2.1 (skt ar bd)) (sub.set x.2.1.toNat (skt ar bd)) (so ++ [((pre ++ g).length : Int)]) (ag ++ [bd]) pre (x :: post) ((show StB bd ar σ (g.length + 1) from hb.less (by omega)).some x.2.1) (hσ.upd v0 (by omega) _) (by simp; omega) (by simp; omega) (by omega)
      rw [skT_some x t bd ar σ h6]
      refine ⟨L, sub', so', ag', ?_, k2, k3, by omega, by simp at k5; omega, by simp at k6; omega, k7⟩
      rw [hk, hl]
      have w := p_with_loop2 (ar, sub, so, ag, ()) ((pre ++ g) ++ x :: post) ((pre ++ g).length : Int) bd x (by omega) hb.2.2.2 bd.length 0 (by omega) [(ar.length : Int)] (by simp)
      rw [show ((0 : Nat) : Int) = 0 from rfl, List.drop_zero, show [(ar.length : Int)] ++ bd.map (fun u => -1 - u) = skt ar bd from rfl] at w
      apply e_spec_l15Job_form
      simp only [q_spec_l15Job_form, idx_mid, Option.bind_some, form_eta, p_ownNode x hx, n1, n6, Bool.false_eq_true, if_false, if_true]
      rw [w]
      simp only [Option.bind_some, Sum.elim_inl, p_own' ar (by omega)]
      rw [if_pos (by simp; omega), if_pos (by simp; omega), p_own' bd (by omega)]
      simp only [Option.bind_some]
      rw [if_pos (by simp; omega), p_l7Copy sub (by omega) (hσ.small hb.2.2.1)]
      simp only [Option.bind_some]
      rw [if_pos (by omega), List.getElem?_eq_getElem (by omega)]
      simp only [Option.bind_some]
      rw [hw, List.append_assoc pre g, k1]
      rfl
    · have n6 : (x.1 == 6) = false := by simp [h6]
      rw [skT_un x t bd ar σ h6]
      by_cases h5 : x.1 = 5
      · have n5 : (x.1 == 5) = true := by simp [h5]
        rw [if_pos h5]
        obtain ⟨L, sub', so', ag', k1, k2, k3, k4, k5, k6, k7⟩ := ih (bd ++ [x.2.1]) ar σ sub so ag pre (x :: post) ((show StB bd ar σ (g.length + 1) from hb.less (by omega)).all v0 v5) hσ (by omega) (by omega) (by omega)
        refine ⟨L ++ [x], sub', so', ag', ?_, .un k2, k3, by simp; omega, by omega, by omega, fun y hy => ?_⟩
        · rw [hk, hl]
          apply e_spec_l15Job_form
          simp only [q_spec_l15Job_form, idx_mid, Option.bind_some, form_eta, p_ownNode x hx, n1, n6, n5, Bool.false_eq_true, if_false, if_true, p_own' bd (show bd.length ≤ 1048576 by omega)]
          rw [if_pos (by simp; omega), hw, List.append_assoc pre g, k1]
          simp only [Option.bind_some]
          rw [if_pos (by simp; omega)]
        · rcases List.mem_append.1 hy with q | q
          · exact k7 y q
          · rw [List.mem_singleton.1 q]; exact hx
      · have n5 : (x.1 == 5) = false := by simp [h5]
        have n2 : (x.1 == 2) = true := by simp; omega
        rw [if_neg h5]
        obtain ⟨L, sub', so', ag', k1, k2, k3, k4, k5, k6, k7⟩ := ih bd ar σ sub so ag pre (x :: post) (hb.less (by omega)) hσ (by omega) (by omega) (by omega)
        refine ⟨L ++ [x], sub', so', ag', ?_, .un k2, k3, by simp; omega, by omega, by omega, fun y hy => ?_⟩
        · rw [hk, hl]
          apply e_spec_l15Job_form
          simp only [q_spec_l15Job_form, idx_mid, Option.bind_some, form_eta, p_ownNode x hx, n1, n6, n5, n2, Bool.false_eq_true, if_false, if_true]
          rw [hw, List.append_assoc pre g, k1]
          simp only [Option.bind_some]
          rw [if_pos (by simp; omega)]
        · rcases List.mem_append.1 hy with q | q
          · exact k7 y q
          · rw [List.mem_singleton.1 q]; exact hx
  | @bin x g k t u h h2 hg hk ih1 ih2 =>
    intro bd ar σ sub so ag pre post hb hσ hso hag hp
    have h34 := bin_op h h2
    have hx := ndOK_smF h
    simp only [List.length_append, List.length_cons, List.length_nil] at hb hso hag hp ⊢
    have n1 : (x.1 == 1) = false := by simp; omega
    have n2 : (x.1 == 2) = false := by simp; omega
    have n5 : (x.1 == 5) = false := by simp; omega
    have n6 : (x.1 == 6) = false := by simp; omega
    obtain ⟨L1, sub1, so1, ag1, a1, a2, a3, a4, a5, a6, a7⟩ := ih1 bd ar σ sub so ag pre (k ++ x :: post) (hb.less (by omega)) hσ (by omega) (by omega) (by omega)
    obtain ⟨L2, sub2, so2, ag2, b1, b2, b3, b4, b5, b6, b7⟩ := ih2 bd _ _ sub1 so1 ag1 (pre ++ g) (x :: post) (skT_st hg bd ar σ k.length (hb.less (by omega))) a3 (by omega) (by omega) (by simp; omega)
    have e3 := p_l14First hk (pre ++ g) (x :: post) (by simp; omega)
    rw [skT_bin]
    refine ⟨L1 ++ L2 ++ [x], sub2, so2, ag2, ?_, .bin a2 b2, b3, by simp; omega, by omega, by omega, fun y hy => ?_⟩
    · rw [show (pre.length : Int) + ((g.length + k.length + (0 + 1) : Nat) : Int) - 1 = (((pre ++ g) ++ k).length : Int) by simp; omega, show pre ++ (g ++ k ++ [x] ++ post) = ((pre ++ g) ++ k) ++ x :: post by simp]
      apply e_spec_l15Job_form
      simp only [q_spec_l15Job_form, idx_mid, Option.bind_some, form_eta, p_ownNode x hx, n1, n6, n5, n2, Bool.false_eq_true, if_false]
      rw [show (((pre ++ g) ++ k).length : Int) = ((pre ++ g).length : Int) + k.length by simp; omega, List.append_assoc (pre ++ g) k, e3]
      simp only [Option.bind_some]
      rw [← List.append_assoc pre g] at a1
      rw [show ((pre ++ g).length : Int) - 1 = (pre.length : Int) + g.length - 1 by simp, a1]
      simp only [Option.bind_some]
      rw [w64 (by omega) (by simp; omega), b1]
      simp only [Option.bind_some]
      rw [if_pos (by omega), if_pos (by simp; omega)]
    · rcases List.mem_append.1 hy with q | q
      · rcases List.mem_append.1 q with q | q
        · exact a7 y q
        · exact b7 y q
      · rw [List.mem_singleton.1 q]; exact hx
end Go.Proofs.YtpmjpijpjmphnaaGreatCf.Ev

/- Plain laws: nodes that list a tree list one tree alone. No condition. -/
namespace Go.Proofs.YtpmjpijpjmphnaaGreatCf.Ev
open Go
set_option autoImplicit false
set_option linter.unusedVariables false
set_option linter.unusedSimpArgs false

/-- Nodes that list a tree, each with as many trees as its kind asks. -/
inductive FP : List TForm → Tree → Prop
  | leaf {x : TForm} (h0 : opn x.1 = 0) : FP [x] (mkT x [])
  | un {x : TForm} {g : List TForm} {t : Tree} (h1 : opn x.1 = 1) (hg : FP g t) : FP (g ++ [x]) (mkT x [t])
  | bin {x : TForm} {g k : List TForm} {t u : Tree} (h2 : opn x.1 = 2) (hg : FP g t) (hk : FP k u) : FP (g ++ k ++ [x]) (mkT x [t, u])
theorem FP.gts {a : List Int} {f : List TForm} {t : Tree} (h : FP f t) : ∀ (st z : List Tree) (r : List TForm), gT a st (f ++ r) = some z → gT a (st ++ [t]) r = some z := by
  induction h with
  | @leaf x h0 =>
    intro st z r hz
    simp only [List.singleton_append, Ev.gT] at hz
    split at hz
    · rw [h0] at hz
      simpa using hz
    · cases hz
  | @un x g t h1 hg ih =>
    intro st z r hz
    rw [List.append_assoc] at hz
    have := ih st z _ hz
    simp only [List.singleton_append, Ev.gT] at this
    split at this
    · rw [h1] at this
      simpa using this
    · cases this
  | @bin x g k t u h2 hg hk ih1 ih2 =>
    intro st z r hz
    rw [List.append_assoc, List.append_assoc] at hz
    have e1 := ih1 st z _ hz
    have e2 := ih2 _ z _ e1
    simp only [List.singleton_append, Ev.gT] at e2
    split at e2
    · rw [h2] at e2
      have hl : (st ++ [t] ++ [u]).length - (2 : Int).toNat = st.length := by simp
      rw [hl] at e2
      simpa using e2
    · cases e2
theorem FP.uniq {a : List Int} {f : List TForm} {t t' : Tree} (h : FP f t) (h' : gT a [] f = some [t']) : t = t' := by
  have := h.gts (a := a) [] [t'] [] (by simpa using h')
  simp only [List.nil_append, Ev.gT, Option.some.injEq, List.cons.injEq, and_true] at this
  exact this
theorem FT.gts' {a : List Int} {h : List TForm} {t : Tree} (hf : FT a h t) : ∀ (st : List Tree) (r : List TForm), gT a st (h ++ r) = gT a (st ++ [t]) r := by
  induction hf with
  | @leaf x h h0 =>
    intro st r
    simp only [List.singleton_append, gT]
    rw [if_pos ⟨h, by rw [h0]; simp⟩, h0]
    simp
  | @un x g t h h1 hg ih =>
    intro st r
    rw [List.append_assoc, ih]
    simp only [List.singleton_append, gT]
    rw [if_pos ⟨h, by rw [h1]; simp⟩, h1]
    simp
  | @bin x g k t u h h2 hg hk ih1 ih2 =>
    intro st r
    rw [List.append_assoc, List.append_assoc, ih1, ih2]
    simp only [List.singleton_append, gT]
    rw [if_pos ⟨h, by rw [h2]; simp⟩, h2]
    have hl : (st ++ [t] ++ [u]).length - (2 : Int).toNat = st.length := by simp
    rw [hl]
    simp
end Go.Proofs.YtpmjpijpjmphnaaGreatCf.Ev
