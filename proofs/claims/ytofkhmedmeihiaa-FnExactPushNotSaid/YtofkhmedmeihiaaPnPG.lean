/- Plain laws: formulas: both programs tell the same formulas; the program's tree of a formula. No condition but sizes. -/
import Derived.Test.YtofkhmedmeihiaaPnPB
import Derived.Test.YtofkhmedmeihiaaPnPFe
namespace Go.Proofs.YtofkhmedmeihiaaPn.Ev
open Go
set_option autoImplicit false
set_option linter.unusedVariables false
set_option linter.unusedSimpArgs false

theorem p_ib1 (x : Int) : c_impl_Sign_isBound_1 M x = some ((!decide (-6 ≤ x), ()), ()) := by
  apply e_impl_Sign_isBound_1
  simp only [q_impl_Sign_isBound_1]
  rw [show decide (x < -6) = !decide (-6 ≤ x) by
    by_cases h : x < -6
    · rw [decide_eq_true h, decide_eq_false (by omega)]; rfl
    · rw [decide_eq_false h, decide_eq_true (by omega)]; rfl]

theorem p_ibIdx_loop (a : List Int) (ha : a.length ≤ 17592186044416) : ∀ k i : Nat, i + k = a.length → ∃ r, l_slices_IndexFunc_int_int__impl_Sign_isBound_1_26 M a () a.length i = some r ∧ (match r with | .inl _ => (a.drop i).all (fun x => decide (-6 ≤ x)) = true | .inr r => 0 ≤ r.1.1 ∧ (a.drop i).all (fun x => decide (-6 ≤ x)) = false) := by
  intro k
  induction k with
  | zero =>
    intro i hi
    obtain rfl : i = a.length := by omega
    refine ⟨.inl (), el_slices_IndexFunc_int_int__impl_Sign_isBound_1_26 _ _ _ _ (by simp [ql_slices_IndexFunc_int_int__impl_Sign_isBound_1_26]), by simp⟩
  | succ k ih =>
    intro i hi
    have h1 : i < a.length := by omega
    obtain ⟨r, hr, hm⟩ := ih (i + 1) (by omega)
    rw [List.drop_eq_getElem_cons h1, List.all_cons]
    by_cases hp : decide (-6 ≤ a[i]) = true
    · refine ⟨r, el_slices_IndexFunc_int_int__impl_Sign_isBound_1_26 _ _ _ _ ?_, by rw [hp, Bool.true_and]; exact hm⟩
      simp only [ql_slices_IndexFunc_int_int__impl_Sign_isBound_1_26]
      rw [if_pos (by simpa using h1), idx_lt h1, inc_nat (by omega)]
      simp only [Option.bind_some, p_ib1, hp, Bool.not_true, Bool.false_eq_true, if_false]
      exact hr
    · rw [Bool.not_eq_true] at hp
      refine ⟨.inr (((i : Int), ()), ()), el_slices_IndexFunc_int_int__impl_Sign_isBound_1_26 _ _ _ _ ?_, Int.natCast_nonneg i, by rw [hp, Bool.false_and]⟩
      simp only [ql_slices_IndexFunc_int_int__impl_Sign_isBound_1_26]
      rw [if_pos (by simpa using h1), idx_lt h1]
      simp only [Option.bind_some, p_ib1, hp, Bool.not_false, if_true]

theorem p_ibContains (a : List Int) (ha : a.length ≤ 17592186044416) : c_slices_ContainsFunc_int_int__impl_Sign_isBound_1 M a () = some ((!(a.all (fun x => decide (-6 ≤ x))), ()), ()) := by
  apply e_slices_ContainsFunc_int_int__impl_Sign_isBound_1
  simp only [q_slices_ContainsFunc_int_int__impl_Sign_isBound_1]
  obtain ⟨r, hr, hm⟩ := p_ibIdx_loop a ha a.length 0 (by omega)
  rw [show ((0 : Nat) : Int) = 0 from rfl] at hr
  rw [List.drop_zero] at hm
  cases r with
  | inl r =>
    rw [e_slices_IndexFunc_int_int__impl_Sign_isBound_1 a () (r := ((-1, ()), ())) (by simp only [q_slices_IndexFunc_int_int__impl_Sign_isBound_1, hr, Option.bind_some, Sum.elim_inl])]
    simp only at hm
    simp [hm]
  | inr r =>
    rw [e_slices_IndexFunc_int_int__impl_Sign_isBound_1 a () (r := r) (by simp only [q_slices_IndexFunc_int_int__impl_Sign_isBound_1, hr, Option.bind_some, Sum.elim_inr])]
    simp only at hm
    simp [hm]


/-- A term whose variables are those of formulas. -/
def isB (a t : List Int) : Bool := isT a t && t.all fun x => decide (-6 ≤ x)
theorem p_isBound (s : TSign) (hg : gS s.1 = true) (t : List Int) : c_impl_Sign_isBound M s t = some ((isB s.1 t, ()), ()) := by
  apply e_impl_Sign_isBound
  simp only [q_impl_Sign_isBound, sign_eta', p_isTerm s hg t, Option.bind_some, isB]
  by_cases h : isT s.1 t = true
  · have hl : t.length ≤ 40 := by simp only [isT, Bool.and_eq_true, decide_eq_true_eq] at h; exact h.1
    rw [if_pos h, p_ibContains t (by omega), h]
    simp
  · rw [if_neg h]
    rw [Bool.not_eq_true] at h
    rw [h]; rfl

/-! ### The variables of a term -/
theorem p_l1Put_loop (l : List Int) (hl : l.length ≤ 1000) (n : Int) : ∀ k i : Nat, i + k = l.length → ∃ j : Nat, i ≤ j ∧ j ≤ l.length ∧ l_spec_l1Put_28 M l n i = some (.inl (l, n, j, ())) := by
  intro k
  induction k with
  | zero =>
    intro i hi
    obtain rfl : i = l.length := by omega
    exact ⟨l.length, Nat.le_refl _, Nat.le_refl _, el_spec_l1Put_28 _ _ _ (by simp [ql_spec_l1Put_28])⟩
  | succ k ih =>
    intro i hi
    have h1 : i < l.length := by omega
    by_cases hx : l[i] < n
    · obtain ⟨j, g1, g2, g3⟩ := ih (i + 1) (by omega)
      refine ⟨j, by omega, g2, el_spec_l1Put_28 _ _ _ ?_⟩
      simp only [ql_spec_l1Put_28]
      rw [if_pos (by simpa using h1), if_pos (by omega), Int.toNat_natCast, List.getElem?_eq_getElem h1]
      simp only [Option.bind_some]
      rw [if_pos (by simpa using hx), inc_nat (by omega)]
      exact g3
    · refine ⟨i, Nat.le_refl _, by omega, el_spec_l1Put_28 _ _ _ ?_⟩
      simp only [ql_spec_l1Put_28]
      rw [if_pos (by simpa using h1), if_pos (by omega), Int.toNat_natCast, List.getElem?_eq_getElem h1]
      simp only [Option.bind_some]
      rw [if_neg (by simpa using hx)]
theorem p_l1Put (l : List Int) (hl : l.length ≤ 1000) (n : Int) : ∃ r : List Int, c_spec_l1Put M l n = some ((r, ()), ()) ∧ r.length ≤ l.length + 1 ∧ ∀ x, x ∈ r ↔ x ∈ l ∨ x = n := by
  obtain ⟨j, _, g2, g3⟩ := p_l1Put_loop l hl n l.length 0 (by omega)
  rw [show ((0 : Nat) : Int) = 0 from rfl] at g3
  by_cases hj : j < l.length ∧ l[j]? = some n
  · refine ⟨l, e_spec_l1Put _ _ ?_, by omega, fun x => ⟨.inl, fun h => h.elim id fun e => e ▸ List.mem_of_getElem? hj.2⟩⟩
    have h1 := hj.1
    have h2 := hj.2
    rw [List.getElem?_eq_getElem h1] at h2
    simp only [q_spec_l1Put, g3, Option.bind_some, Sum.elim_inl]
    rw [if_pos (by simpa using h1), if_pos (by omega), Int.toNat_natCast, List.getElem?_eq_getElem h1]
    simp only [Option.bind_some]
    rw [if_pos (by simpa using h2)]
  · refine ⟨l.take j ++ n :: l.drop j, e_spec_l1Put _ _ ?_, by simp; omega, fun x => ?_⟩
    · simp only [q_spec_l1Put, g3, Option.bind_some, Sum.elim_inl]
      by_cases h1 : j < l.length
      · have h2 : ¬ l[j] = n := fun e => hj ⟨h1, by rw [List.getElem?_eq_getElem h1, e]⟩
        rw [if_pos (by simpa using h1), if_pos (by omega), Int.toNat_natCast, List.getElem?_eq_getElem h1]
        simp only [Option.bind_some, Int.toNat_natCast, Int.toNat_zero, List.drop_zero, List.nil_append, List.length_nil, List.length_append, List.length_take, List.length_drop, List.length_cons, List.take_length]
        rw [if_neg (by simpa using h2), if_pos (by omega), if_pos (by omega), if_pos (by omega), if_pos (by omega), if_pos (by omega)]
        simp
      · rw [if_neg (by simpa using h1)]
        simp only [Option.bind_some, Int.toNat_natCast, Int.toNat_zero, List.drop_zero, List.nil_append, List.length_nil, List.length_append, List.length_take, List.length_drop, List.length_cons, List.take_length]
        rw [if_pos (by omega), if_pos (by omega), if_pos (by omega), if_pos (by omega), if_pos (by omega)]
        simp
    · have : x ∈ l ↔ x ∈ l.take j ∨ x ∈ l.drop j := by rw [← List.mem_append, List.take_append_drop]
      rw [List.mem_append, List.mem_cons, this]
      constructor
      · rintro (h | h | h)
        · exact .inl (.inl h)
        · exact .inr h
        · exact .inl (.inr h)
      · rintro ((h | h) | h)
        · exact .inl h
        · exact .inr (.inr h)
        · exact .inr (.inl h)

theorem p_l1Vars_loop (t : List Int) (ht : t.length ≤ 400) (hw : ∀ n ∈ t, -12 ≤ n) : ∀ k i : Nat, i + k = t.length → ∀ o : List Int, o.length ≤ i → ∃ r : List Int, l_spec_l1Vars_58 M o t t.length i = some (.inl (r, ())) ∧ r.length ≤ t.length ∧ ∀ x, x ∈ r ↔ x ∈ o ∨ ∃ n ∈ t.drop i, n < 0 ∧ x = -1 - n := by
  intro k
  induction k with
  | zero =>
    intro i hi o ho
    obtain rfl : i = t.length := by omega
    exact ⟨o, el_spec_l1Vars_58 _ _ _ _ (by simp [ql_spec_l1Vars_58]), ho, by simp⟩
  | succ k ih =>
    intro i hi o ho
    have h1 : i < t.length := by omega
    have hn := hw _ (List.getElem_mem h1)
    by_cases hx : t[i] < 0
    · obtain ⟨o', e1, e2, e3⟩ := p_l1Put o (by omega) (-1 - t[i])
      obtain ⟨r, g1, g2, g3⟩ := ih (i + 1) (by omega) o' (by omega)
      refine ⟨r, el_spec_l1Vars_58 _ _ _ _ ?_, g2, fun x => ?_⟩
      · simp only [ql_spec_l1Vars_58]
        rw [if_pos (by simpa using h1), idx_lt h1]
        simp only [Option.bind_some]
        rw [if_pos (by simpa using hx), w64 (x := -1 - t[i]) (by omega) (by omega), e1]
        simp only [Option.bind_some, Sum.elim_inl]
        rw [inc_nat (by omega)]
        exact g1
      · rw [g3 x, e3 x, List.drop_eq_getElem_cons h1]
        simp only [List.mem_cons, exists_eq_or_imp]
        constructor
        · rintro ((h | h) | h)
          · exact .inl h
          · exact .inr (.inl ⟨hx, h⟩)
          · exact .inr (.inr h)
        · rintro (h | h | h)
          · exact .inl (.inl h)
          · exact .inl (.inr h.2)
          · exact .inr h
    · obtain ⟨r, g1, g2, g3⟩ := ih (i + 1) (by omega) o (by omega)
      refine ⟨r, el_spec_l1Vars_58 _ _ _ _ ?_, g2, fun x => ?_⟩
      · simp only [ql_spec_l1Vars_58]
        rw [if_pos (by simpa using h1), idx_lt h1]
        simp only [Option.bind_some]
        rw [if_neg (by simpa using hx)]
        simp only [Option.bind_some, Sum.elim_inl]
        rw [inc_nat (by omega)]
        exact g1
      · rw [g3 x, List.drop_eq_getElem_cons h1]
        simp only [List.mem_cons, exists_eq_or_imp]
        constructor
        · rintro (h | h)
          · exact .inl h
          · exact .inr (.inr h)
        · rintro (h | h | h)
          · exact .inl h
          · exact absurd h.1 hx
          · exact .inr h
theorem p_l1Vars (t : List Int) (ht : t.length ≤ 400) (hw : ∀ n ∈ t, -12 ≤ n) : ∃ r : List Int, c_spec_l1Vars M t = some ((r, ()), ()) ∧ r.length ≤ t.length ∧ ∀ x, x ∈ r ↔ ∃ n ∈ t, n < 0 ∧ x = -1 - n := by
  obtain ⟨r, g1, g2, g3⟩ := p_l1Vars_loop t ht hw t.length 0 (by omega) [] (by simp)
  rw [show ((0 : Nat) : Int) = 0 from rfl] at g1
  refine ⟨r, e_spec_l1Vars _ ?_, g2, fun x => by simpa using g3 x⟩
  simp only [q_spec_l1Vars, g1, Option.bind_some, Sum.elim_inl]

theorem sE_ge {a : List Int} : ∀ (t : List Int) (k : Int), sE a k t = some [] → ∀ n ∈ t, -12 ≤ n := by
  intro t
  induction t with
  | nil => intro k _ n hn; cases hn
  | cons m t ih =>
    intro k h n hn
    simp only [sE] at h
    split at h
    · cases h
    · split at h
      · cases h
      · rename_i hb
        unfold badN at hb
        rcases List.mem_cons.1 hn with rfl | hn
        · omega
        · exact ih _ h n hn
theorem isT_ge {a t : List Int} (h : isT a t = true) : t.length ≤ 40 ∧ ∀ n ∈ t, -12 ≤ n := by
  simp only [isT, Bool.and_eq_true, decide_eq_true_eq] at h
  exact ⟨h.1, sE_ge t 1 h.2⟩

/-! ### Nodes -/
def opn (op : Int) : Int := if op = 1 then 0 else if op = 2 ∨ op = 5 ∨ op = 6 then 1 else if op = 3 ∨ op = 4 then 2 else -1
/-- A node that is good by itself. -/
def ndOK (a : List Int) (x : TForm) : Bool :=
  if x.1 = 1 then decide (x.2.1 = 0) && (isB a x.2.2.1 && isB a x.2.2.2.1)
  else if x.2.2.1 = [] ∧ x.2.2.2.1 = [] then
    (if x.1 = 5 ∨ x.1 = 6 then decide (0 ≤ x.2.1) && decide (x.2.1 ≤ 5) else if x.1 = 2 ∨ x.1 = 3 ∨ x.1 = 4 then decide (x.2.1 = 0) else false)
  else false

theorem p_l14Arity (op : Int) : c_spec_l14Arity M op = some ((opn op, ()), ()) := by
  apply e_spec_l14Arity
  simp only [q_spec_l14Arity, beq_iff_eq, opn]
  by_cases h1 : op = 1
  · simp [h1]
  · by_cases h2 : op = 2
    · simp [h2]
    · by_cases h5 : op = 5
      · simp [h5]
      · by_cases h6 : op = 6
        · simp [h6]
        · by_cases h3 : op = 3
          · simp [h3]
          · by_cases h4 : op = 4
            · simp [h4]
            · simp [h1, h2, h3, h4, h5, h6]

theorem p_operands (a : List Int) (x : TForm) (h : ndOK a x = true) : c_impl_Form_operands M x = some ((opn x.1, ()), ()) := by
  apply e_impl_Form_operands
  simp only [q_impl_Form_operands, beq_iff_eq, opn]
  by_cases h1 : x.1 = 1
  · simp [h1]
  · by_cases h3 : x.1 = 3
    · simp [h3]
    · by_cases h4 : x.1 = 4
      · simp [h4]
      · have : x.1 = 2 ∨ x.1 = 5 ∨ x.1 = 6 := by
          unfold ndOK at h
          rw [if_neg h1] at h
          split at h
          · split at h
            · rename_i h5; rcases h5 with h5 | h5 <;> simp [h5]
            · split at h
              · rename_i h6; rcases h6 with h6 | h6 | h6
                · exact .inl h6
                · exact absurd h6 h3
                · exact absurd h6 h4
              · cases h
          · cases h
        simp [h1, h3, h4, this]

theorem p_isNode (s : TSign) (hg : gS s.1 = true) (x : TForm) : c_impl_Sign_isNode M s x = some ((ndOK s.1 x, ()), ()) := by
  apply e_impl_Sign_isNode
  simp only [q_impl_Sign_isNode, sign_eta', p_isBound s hg, Option.bind_some, beq_iff_eq, ndOK]
  obtain ⟨op, v, l, r, ⟨⟩⟩ := x
  simp only
  by_cases h1 : op = 1
  · subst h1
    by_cases hv : v = 0
    · cases isB s.1 l <;> simp [hv]
    · simp [hv]
  · rw [if_neg h1, if_neg h1]
    by_cases h5 : op = 5
    · subst h5
      by_cases ha : 0 ≤ v <;> by_cases hb : v < 6 <;> by_cases hl : l = [] <;> by_cases hr : r = [] <;> simp [ha, hb, hl, hr] <;> omega
    · by_cases h6 : op = 6
      · subst h6
        by_cases ha : 0 ≤ v <;> by_cases hb : v < 6 <;> by_cases hl : l = [] <;> by_cases hr : r = [] <;> simp [ha, hb, hl, hr] <;> omega
      · by_cases h2 : op = 2
        · subst h2
          by_cases ha : v = 0 <;> by_cases hl : l = [] <;> by_cases hr : r = [] <;> simp [ha, hl, hr]
        · by_cases h3 : op = 3
          · subst h3
            by_cases ha : v = 0 <;> by_cases hl : l = [] <;> by_cases hr : r = [] <;> simp [ha, hl, hr]
          · by_cases h4 : op = 4
            · subst h4
              by_cases ha : v = 0 <;> by_cases hl : l = [] <;> by_cases hr : r = [] <;> simp [ha, hl, hr]
            · simp [h2, h3, h4, h5, h6]

theorem p_l14Node (s : TSign) (hg : gS s.1 = true) (x : TForm) (h : smF x) : c_spec_l14Node M s x = some ((ndOK s.1 x, ()), ()) := by
  apply e_spec_l14Node
  simp only [q_spec_l14Node, sign_eta', p_l1Term s hg _ h.1, p_l1Term s hg _ h.2, Option.bind_some, beq_iff_eq, ndOK, p_l1In, p_l14Arity, decide_eq_true_eq]
  by_cases h1 : x.1 = 1
  · rw [if_pos h1, if_pos h1]
    by_cases hv : x.2.1 = 0
    · rw [if_pos hv, decide_eq_true hv]
      by_cases hl : isT s.1 x.2.2.1 = true
      · rw [if_pos hl]
        by_cases hr : isT s.1 x.2.2.2.1 = true
        · rw [if_pos hr]
          obtain ⟨l1, l2⟩ := isT_ge hl
          obtain ⟨r1, r2⟩ := isT_ge hr
          obtain ⟨vl, e1, e2, e3⟩ := p_l1Vars _ (by omega) l2
          obtain ⟨vr, f1, f2, f3⟩ := p_l1Vars _ (by omega) r2
          rw [e1]
          simp only [Option.bind_some]
          rw [f1]
          simp only [Option.bind_some]
          rw [if_pos (by omega), p_l1All _ _ _ (by simp; omega)]
          simp only [Option.bind_some, Option.some.injEq, Prod.mk.injEq, and_true]
          simp only [isB, hl, hr, Bool.true_and]
          have key : ∀ (t v : List Int), (∀ n ∈ t, -12 ≤ n) → (∀ x, x ∈ v ↔ ∃ n ∈ t, n < 0 ∧ x = -1 - n) → (v.all (fun x => decide (0 ≤ x) && decide (x ≤ 5)) = t.all fun x => decide (-6 ≤ x)) := by
            intro t v ht hv
            rw [Bool.eq_iff_iff]
            simp only [List.all_eq_true, Bool.and_eq_true, decide_eq_true_eq]
            constructor
            · intro hh n hn
              by_cases h0 : n < 0
              · have := hh (-1 - n) ((hv _).2 ⟨n, hn, h0, rfl⟩); omega
              · omega
            · intro hh y hy
              obtain ⟨n, hn, h0, rfl⟩ := (hv y).1 hy
              have := hh n hn
              omega
          rw [List.all_append, key _ _ l2 e3, key _ _ r2 f3]
        · rw [if_neg hr]; rw [Bool.not_eq_true] at hr; simp [isB, hr]
      · rw [if_neg hl]; rw [Bool.not_eq_true] at hl; simp [isB, hl]
    · rw [if_neg hv, decide_eq_false hv]; rfl
  · rw [if_neg h1, if_neg h1]
    have hw : IntKind.i64.wrap ((x.2.2.1.length : Int) + (x.2.2.2.1.length : Int)) = (x.2.2.1.length : Int) + (x.2.2.2.1.length : Int) := w64 (by omega) (by have := h.1; have := h.2; omega)
    rw [hw]
    by_cases hlr : x.2.2.1 = [] ∧ x.2.2.2.1 = []
    · rw [if_neg (by rw [hlr.1, hlr.2]; simp), if_pos hlr]
      by_cases h5 : x.1 = 5
      · simp [opn, h5]
      · by_cases h6 : x.1 = 6
        · simp [opn, h6]
        · by_cases h2 : x.1 = 2
          · simp [opn, h2]; rfl
          · by_cases h3 : x.1 = 3
            · simp [opn, h3]; rfl
            · by_cases h4 : x.1 = 4
              · simp [opn, h4]; rfl
              · simp [opn, h1, h2, h3, h4, h5, h6]
    · rw [if_pos (by
        by_cases hl : x.2.2.1 = []
        · have : 0 < x.2.2.2.1.length := List.length_pos_iff.2 (fun e => hlr ⟨hl, e⟩)
          omega
        · have : 0 < x.2.2.1.length := List.length_pos_iff.2 hl
          omega), if_neg hlr]

theorem ndOK_opn {a : List Int} {x : TForm} (h : ndOK a x = true) : 0 ≤ opn x.1 ∧ opn x.1 ≤ 2 ∧ (x.1 = 2 → opn x.1 = 1) := by
  unfold ndOK at h
  unfold opn
  split at h
  · rename_i h1; simp [h1]
  · rename_i h1
    rw [if_neg h1]
    split at h
    · split at h
      · rename_i h56; rw [if_pos (.inr h56)]; omega
      · split at h
        · rename_i h234
          split
          · omega
          · rename_i hn
            rw [if_pos (by rcases h234 with h | h | h
                           · exact absurd (.inl h) hn
                           · exact .inl h
                           · exact .inr h)]
            omega
        · cases h
    · cases h

/-! ### Formulas -/
/-- Whether nodes, with so many trees before them, leave one tree. -/
def gF (a : List Int) : Nat → List TForm → Bool
  | p, [] => p == 1
  | p, x :: r => ndOK a x && (decide ((opn x.1).toNat ≤ p) && gF a (p - (opn x.1).toNat + 1) r)
/-- The trees that nodes leave. -/
def gT (a : List Int) : List Tree → List TForm → Option (List Tree)
  | st, [] => some st
  | st, x :: r => if ndOK a x = true ∧ (opn x.1).toNat ≤ st.length then gT a (st.take (st.length - (opn x.1).toNat) ++ [Tree.mk x.1 x.2.1 x.2.2.1 x.2.2.2.1 (st.drop (st.length - (opn x.1).toNat))]) r else none
theorem gT_gF (a : List Int) : ∀ (f : List TForm) (st : List Tree), gF a st.length f = (match gT a st f with | some st' => st'.length == 1 | none => false) := by
  intro f
  induction f with
  | nil => intro st; rfl
  | cons x r ih =>
    intro st
    simp only [gF, gT]
    by_cases h1 : ndOK a x = true
    · by_cases h2 : (opn x.1).toNat ≤ st.length
      · rw [if_pos ⟨h1, h2⟩, h1, decide_eq_true h2, ← ih]
        simp only [Bool.true_and, List.length_append, List.length_take, List.length_cons, List.length_nil]
        congr 1; omega
      · rw [if_neg (fun h => h2 h.2), decide_eq_false h2]; simp
    · rw [if_neg (fun h => h1 h.1)]; rw [Bool.not_eq_true] at h1; simp [h1]

theorem p_l14Form_loop (s : TSign) (hg : gS s.1 = true) (f : List TForm) (hl : f.length ≤ 15) (hx : ∀ x ∈ f, smF x) : ∀ k i p : Nat, i + k = f.length → p ≤ i → ∃ r, l_spec_l14Form_122 M s p f f.length i = some r ∧ Sum.elim (fun y => y.1 == 1) (fun r => r.1.1) r = gF s.1 p (f.drop i) := by
  intro k
  induction k with
  | zero =>
    intro i p hi hp
    obtain rfl : i = f.length := by omega
    refine ⟨.inl ((p : Int), ()), el_spec_l14Form_122 _ _ _ _ _ (by simp [ql_spec_l14Form_122]), ?_⟩
    rw [List.drop_length]
    simp only [Sum.elim_inl, gF]
    rw [Bool.eq_iff_iff]; simp; omega
  | succ k ih =>
    intro i p hi hp
    have h1 : i < f.length := by omega
    rw [List.drop_eq_getElem_cons h1]
    have hn := p_l14Node s hg f[i] (hx _ (List.getElem_mem h1))
    by_cases h2 : ndOK s.1 f[i] = true
    · have ho := ndOK_opn h2
      by_cases h3 : (opn f[i].1).toNat ≤ p
      · obtain ⟨r, g1, g2⟩ := ih (i + 1) (p - (opn f[i].1).toNat + 1) (by omega) (by omega)
        refine ⟨r, el_spec_l14Form_122 _ _ _ _ _ ?_, by rw [g2]; simp [gF, h2, h3]⟩
        simp only [ql_spec_l14Form_122]
        rw [if_pos (by simpa using h1), idx_lt h1]
        simp only [Option.bind_some, form_eta, sign_eta', hn, h2, p_l14Arity]
        rw [if_neg (by simp), if_neg (by simp; omega), w64 (x := 1 - opn f[i].1) (by omega) (by omega), w64 (by omega) (by omega), inc_nat (by omega), show (p : Int) + (1 - opn f[i].1) = ((p - (opn f[i].1).toNat + 1 : Nat) : Int) by omega]
        exact g1
      · refine ⟨.inr ((false, ()), ()), el_spec_l14Form_122 _ _ _ _ _ ?_, by simp [gF, h2, h3]⟩
        simp only [ql_spec_l14Form_122]
        rw [if_pos (by simpa using h1), idx_lt h1]
        simp only [Option.bind_some, form_eta, sign_eta', hn, h2, p_l14Arity]
        rw [if_neg (by simp), if_pos (by simp; omega)]
    · rw [Bool.not_eq_true] at h2
      refine ⟨.inr ((false, ()), ()), el_spec_l14Form_122 _ _ _ _ _ ?_, by simp [gF, h2]⟩
      simp only [ql_spec_l14Form_122]
      rw [if_pos (by simpa using h1), idx_lt h1]
      simp only [Option.bind_some, form_eta, sign_eta', hn, h2]
      rfl

/-- A formula that is good. -/
def fOK (a : List Int) (f : List TForm) : Bool := decide (f.length ≤ 15) && gF a 0 f

theorem p_l14Form (s : TSign) (hg : gS s.1 = true) (f : List TForm) (hl : f.length ≤ 1048576) (hx : ∀ x ∈ f, smF x) : c_spec_l14Form M s f = some ((fOK s.1 f, ()), ()) := by
  apply e_spec_l14Form
  simp only [q_spec_l14Form, p_l1In, Option.bind_some, sign_eta', fOK]
  by_cases h15 : f.length ≤ 15
  · by_cases h0 : f = []
    · subst h0; simp [gF]
    · have : 0 < f.length := List.length_pos_iff.2 h0
      rw [if_neg (by simp; omega)]
      obtain ⟨r, g1, g2⟩ := p_l14Form_loop s hg f h15 hx f.length 0 0 (by omega) (by omega)
      rw [show ((0 : Nat) : Int) = 0 from rfl] at g1
      rw [List.drop_zero] at g2
      rw [g1, decide_eq_true h15, ← g2]
      cases r with
      | inl r => rfl
      | inr r => obtain ⟨⟨b, _⟩, _⟩ := r; rfl
  · rw [if_pos (by simp; omega)]; simp [h15]

theorem p_grow_loop (s : TSign) (hg : gS s.1 = true) (f : List TForm) (hl : f.length ≤ 15) : ∀ k i : Nat, i + k = f.length → ∀ st : List Tree, st.length ≤ i →
    l_impl_Sign_grow_122 M s st f f.length i = some (match gT s.1 st (f.drop i) with | some st' => .inl (st', ()) | none => .inr ((Tree.nil, false, ()), ())) := by
  intro k
  induction k with
  | zero =>
    intro i hi st hst
    obtain rfl : i = f.length := by omega
    apply el_impl_Sign_grow_122
    simp [ql_impl_Sign_grow_122, gT]
  | succ k ih =>
    intro i hi st hst
    have h1 : i < f.length := by omega
    rw [List.drop_eq_getElem_cons h1]
    apply el_impl_Sign_grow_122
    simp only [ql_impl_Sign_grow_122]
    rw [if_pos (by simpa using h1), idx_lt h1]
    simp only [Option.bind_some, form_eta, sign_eta', p_isNode s hg, gT]
    by_cases h2 : ndOK s.1 f[i] = true
    · have ho := ndOK_opn h2
      by_cases h3 : (opn f[i].1).toNat ≤ st.length
      · have e : (st.length : Int) - opn f[i].1 = ((st.length - (opn f[i].1).toNat : Nat) : Int) := by omega
        rw [if_pos (show ndOK s.1 f[i] = true ∧ (opn f[i].1).toNat ≤ st.length from ⟨h2, h3⟩), h2, if_neg (by simp), p_operands s.1 f[i] h2]
        simp only [Option.bind_some]
        rw [w64 (x := (st.length : Int) - opn f[i].1) (by omega) (by omega), e, if_neg (by simp <;> omega)]
        simp only [Int.toNat_natCast, List.take_length]
        rw [if_pos (by omega), if_pos (by simp; omega), if_pos (by omega), if_pos (by simp; omega), inc_nat (by omega), ih (i + 1) (by omega) _ (by simp; omega)]
      · rw [if_neg (show ¬ (ndOK s.1 f[i] = true ∧ (opn f[i].1).toNat ≤ st.length) from fun h => h3 h.2), h2, if_neg (by simp), p_operands s.1 f[i] h2]
        simp only [Option.bind_some]
        rw [w64 (x := (st.length : Int) - opn f[i].1) (by omega) (by omega), if_pos (by simp; omega)]
    · rw [if_neg (show ¬ (ndOK s.1 f[i] = true ∧ (opn f[i].1).toNat ≤ st.length) from fun h => h2 h.1)]
      rw [Bool.not_eq_true] at h2
      rw [h2]
      rfl

theorem p_formula (s : TSign) (hs : s.1.length ≤ 1048576) (f : List TForm) : ∃ t : Tree, c_impl_formula M s f = some ((t, gS s.1 && fOK s.1 f, ()), ()) ∧ ((gS s.1 && fOK s.1 f) = true → gT s.1 [] f = some [t]) := by
  cases hg : gS s.1 with
  | false =>
    refine ⟨.nil, e_impl_formula _ _ ?_, by simp⟩
    simp only [q_impl_formula, sign_eta', p_impl_GoodSign s (by omega), hg, Option.bind_some]
    rfl
  | true =>
    have pre : ∀ t b, c_impl_Sign_grow M s f = some ((t, b, ()), ()) → c_impl_formula M s f = some ((t, b, ()), ()) := by
      intro t b h
      apply e_impl_formula
      simp only [q_impl_formula, sign_eta', p_impl_GoodSign s (by omega), hg, Option.bind_some, h]
      rfl
    by_cases h15 : f.length ≤ 15
    · have hl := p_grow_loop s hg f h15 f.length 0 (by omega) [] (by simp)
      rw [show ((0 : Nat) : Int) = 0 from rfl, List.drop_zero] at hl
      have hgf := gT_gF s.1 f []
      rw [List.length_nil] at hgf
      have go : ∀ r, (l_impl_Sign_grow_122 M s [] f f.length 0).bind (Sum.elim (fun y1 => if ((List.length y1.1 : Int) != (1 : Int)) = true then (some ((Tree.nil, false, ()), ())) else (if 0 ≤ (0 : Int) ∧ (0 : Int) < (List.length y1.1 : Int) then ((y1.1[(Int.toNat (0 : Int))]?).bind fun x3 => (some ((x3, true, ()), ()))) else none)) (fun r2 => (some r2))) = some r → c_impl_Sign_grow M s f = some r := by
        intro r h
        apply e_impl_Sign_grow
        simp only [q_impl_Sign_grow, sign_eta']
        rw [if_neg (by simp; omega)]
        exact h
      cases hT : gT s.1 [] f with
      | none =>
        rw [hT] at hgf hl
        refine ⟨.nil, pre _ _ (go _ ?_), by simp [fOK, hgf]⟩
        rw [hl]
        simp [fOK, hgf]
      | some st' =>
        rw [hT] at hgf hl
        by_cases h1 : st'.length = 1
        · match st', h1 with
          | [t], _ =>
            refine ⟨t, pre _ _ (go _ ?_), fun _ => rfl⟩
            rw [hl]
            simp [fOK, hgf, h15]
        · refine ⟨.nil, pre _ _ (go _ ?_), by simp [fOK, hgf, h1]⟩
          rw [hl]
          simp only [Option.bind_some, Sum.elim_inl]
          rw [if_pos (by simp; omega)]
          simp [fOK, hgf, h1]
    · refine ⟨.nil, pre _ _ (e_impl_Sign_grow _ _ ?_), by simp [fOK, h15]⟩
      simp only [q_impl_Sign_grow]
      rw [if_pos (by simp; omega)]
      simp [fOK, h15]

end Go.Proofs.YtofkhmedmeihiaaPn.Ev
