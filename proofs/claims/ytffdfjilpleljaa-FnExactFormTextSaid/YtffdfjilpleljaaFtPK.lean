/- Plain laws: the texts of formulas: both programs write the same; FnExactFormText answers true. No condition but that lists fit in memory. -/
import Derived.Test.YtffdfjilpleljaaFtPJ
namespace Go.Proofs.YtffdfjilpleljaaFt.Ev
open Go
set_option autoImplicit false
set_option linter.unusedVariables false
set_option linter.unusedSimpArgs false

/-- From a part's root back to its head. -/
theorem p_first {a : List Int} {h : List TForm} {t : Tree} (hf : FT a h t) : ∀ (pre post : List TForm) (j : Nat) (r : Int), pre.length + h.length ≤ 1000 → j ≤ 1000 → j + h.length ≤ 1000 →
    l_spec_l14First_60 M (pre ++ (h ++ post)) j ((pre.length : Int) - 1) = some (.inl (r, ())) → l_spec_l14First_60 M (pre ++ (h ++ post)) ((j : Int) + 1) ((pre.length : Int) + h.length - 1) = some (.inl (r, ())) := by
  have step : ∀ (pre post : List TForm) (x : TForm) (j : Nat) (r : Int), ndOK a x = true → pre.length ≤ 1000 → j ≤ 1000 → l_spec_l14First_60 M (pre ++ x :: post) ((j : Int) + opn x.1) ((pre.length : Int) - 1) = some (.inl (r, ())) → l_spec_l14First_60 M (pre ++ x :: post) ((j : Int) + 1) (pre.length : Int) = some (.inl (r, ())) := by
    intro pre post x j r hn hp hj hr
    have ho := ndOK_opn hn
    apply el_spec_l14First_60
    simp only [ql_spec_l14First_60]
    rw [if_pos (by simp <;> omega), idx_mid]
    simp only [Option.bind_some, p_l14Arity]
    rw [w64 (x := opn x.1 - 1) (by omega) (by omega), w64 (by omega) (by omega), w64 (x := (pre.length : Int) - 1) (by omega) (by omega), show (j : Int) + 1 + (opn x.1 - 1) = (j : Int) + opn x.1 by omega]
    exact hr
  induction hf with
  | leaf h h0 =>
    intro pre post j r hp hj hjh hr
    have := step pre post _ j r h (by simp at hp; omega) hj (by rw [h0]; simpa using hr)
    simpa using this
  | @un x g t h h1 hg ih =>
    intro pre post j r hp hj hjh hr
    simp only [List.length_append, List.length_cons, List.length_nil] at hp hjh
    have e1 := ih pre (x :: post) j r (by omega) hj (by omega) (by simpa using hr)
    have := step (pre ++ g) post x j r h (by simp; omega) hj (by
      rw [h1]
      simpa using e1)
    simp only [List.append_assoc, List.length_append, List.length_cons, List.length_nil, List.singleton_append] at this ⊢
    rw [show (pre.length : Int) + ((g.length + (0 + 1) : Nat) : Int) - 1 = ((pre.length + g.length : Nat) : Int) by omega]
    exact this
  | @bin x g k t u h h2 hg hk ih1 ih2 =>
    intro pre post j r hp hj hjh hr
    simp only [List.length_append, List.length_cons, List.length_nil] at hp hjh
    have e1 := ih1 pre (k ++ x :: post) j r (by omega) hj (by omega) (by simpa using hr)
    have e2 := ih2 (pre ++ g) (x :: post) (j + 1) r (by simp; omega) (by have := hg.pos; omega) (by have := hg.pos; omega) (by
      simp only [List.append_assoc, List.length_append] at e1 ⊢
      rw [show ((j + 1 : Nat) : Int) = (j : Int) + 1 by omega, show (((pre.length + g.length : Nat) : Int) - 1) = (pre.length : Int) + g.length - 1 by omega]
      exact e1)
    have := step (pre ++ (g ++ k)) post x j r h (by simp; omega) hj (by
      rw [h2]
      simp only [List.append_assoc, List.length_append] at e2 ⊢
      rw [show ((j + 1 : Nat) : Int) + 1 = (j : Int) + 2 by omega, show ((pre.length + g.length : Nat) : Int) + (k.length : Int) - 1 = ((pre.length + (g.length + k.length) : Nat) : Int) - 1 by omega] at e2
      exact e2)
    simp only [List.append_assoc, List.length_append, List.length_cons, List.length_nil, List.singleton_append] at this ⊢
    rw [show (pre.length : Int) + ((g.length + (k.length + (0 + 1)) : Nat) : Int) - 1 = ((pre.length + (g.length + k.length) : Nat) : Int) by omega]
    exact this

theorem p_l14First {a : List Int} {h : List TForm} {t : Tree} (hf : FT a h t) (pre post : List TForm) (hl : pre.length + h.length ≤ 900) : c_spec_l14First M (pre ++ (h ++ post)) ((pre.length : Int) + h.length) = some (((pre.length : Int) - 1, ()), ()) := by
  apply e_spec_l14First
  simp only [q_spec_l14First]
  rw [w64 (by omega) (by omega)]
  have := p_first hf pre post 0 ((pre.length : Int) - 1) (by omega) (by omega) (by omega) (el_spec_l14First_60 _ _ _ (by simp [ql_spec_l14First_60]))
  rw [show ((0 : Nat) : Int) + 1 = 1 from rfl] at this
  rw [this]
  rfl

theorem leaf_op {a : List Int} {x : TForm} (h : ndOK a x = true) (h0 : opn x.1 = 0) : x.1 = 1 ∧ isT a x.2.2.1 = true ∧ isT a x.2.2.2.1 = true := by
  have h1 : x.1 = 1 := by
    unfold opn at h0
    split at h0
    · assumption
    · split at h0
      · omega
      · split at h0 <;> omega
  unfold ndOK at h
  rw [if_pos h1] at h
  simp only [isB, Bool.and_eq_true] at h
  exact ⟨h1, h.2.1.1, h.2.2.1⟩
theorem un_op {a : List Int} {x : TForm} (h : ndOK a x = true) (h0 : opn x.1 = 1) : (x.1 = 2 ∨ x.1 = 5 ∨ x.1 = 6) ∧ 0 ≤ x.2.1 ∧ x.2.1 ≤ 5 := by
  have h1 : x.1 = 2 ∨ x.1 = 5 ∨ x.1 = 6 := by
    unfold opn at h0
    split at h0
    · omega
    · split at h0
      · assumption
      · split at h0 <;> omega
  refine ⟨h1, ?_⟩
  unfold ndOK at h
  rw [if_neg (by omega)] at h
  split at h
  · split at h
    · simpa using h
    · split at h
      · simp at h; omega
      · cases h
  · cases h
theorem bin_op {a : List Int} {x : TForm} (h : ndOK a x = true) (h0 : opn x.1 = 2) : x.1 = 3 ∨ x.1 = 4 := by
  unfold opn at h0
  split at h0
  · omega
  · split at h0
    · omega
    · split at h0
      · assumption
      · omega

theorem p_Letter (v : Int) (h0 : 0 ≤ v) (h1 : v ≤ 5) : c_spec_l14Letter M v = some ((bytesStr [65 + v], ()), ()) := by
  apply e_spec_l14Letter
  simp only [q_spec_l14Letter]
  rw [w64 (by omega) (by omega), w8 (by omega) (by omega)]

theorem p_formText {a : List Int} (hg : gS a = true) {g : List TForm} {t : Tree} (hf : FT a g t) : g.length ≤ 900 → ∃ b : List UInt8, b.length ≤ 400 * g.length ∧ c_impl_tree_text M t (a, ()) = some ((b, ()), ()) ∧
    ∀ (pre post : List TForm), pre.length + g.length ≤ 900 → c_spec_l14Text M (a, ()) (pre ++ (g ++ post)) ((pre.length : Int) + g.length - 1) = some ((b, ()), ()) := by
  induction hf with
  | @leaf x h h0 =>
    intro _
    obtain ⟨h1, hL, hR⟩ := leaf_op h h0
    have l1 := tx_len hg hL
    have l2 := tx_len hg hR
    refine ⟨tx a x.2.2.1 ++ [61] ++ tx a x.2.2.2.1, by simp; omega, e_impl_tree_text _ _ ?_, fun pre post _ => e_spec_l14Text _ _ _ ?_⟩
    · simp only [q_impl_tree_text, treeK, h1, Int.reduceBEq, Bool.false_eq_true, ↓reduceIte]
      simp (disch := omega) only [Option.bind_some, p_termText (a, ()) hg _ hL, p_termText (a, ()) hg _ hR, Option.bind_some, if_pos, List.length_append, List.length_cons, List.length_nil]
    · simp only [List.length_cons, List.length_nil, List.singleton_append]
      rw [show (pre.length : Int) + ((0 + 1 : Nat) : Int) - 1 = (pre.length : Int) by omega]
      simp only [q_spec_l14Text, idx_mid, Option.bind_some, h1, Int.reduceBEq, Bool.false_eq_true, ↓reduceIte]
      simp (disch := omega) only [Option.bind_some, p_l1TermText (a, ()) hg _ hL, p_l1TermText (a, ()) hg _ hR, if_pos, List.length_append, List.length_cons, List.length_nil]
  | @un x g t h h1 hgt ih =>
    intro hlen
    simp only [List.length_append, List.length_cons, List.length_nil] at hlen
    obtain ⟨b, b1, b2, b3⟩ := ih (by omega)
    obtain ⟨hop, hv0, hv5⟩ := un_op h h1
    have w1 : IntKind.u8.wrap x.2.1 = x.2.1 := w8 (by omega) (by omega)
    have w2 : IntKind.u8.wrap (65 + x.2.1) = 65 + x.2.1 := w8 (by omega) (by omega)
    have hlet := p_Letter x.2.1 hv0 hv5
    have hix : idx [t] 0 = some t := rfl
    have hpt : ∀ pre post : List TForm, idx (pre ++ (g ++ [x] ++ post)) (((pre ++ g).length : Nat) : Int) = some x := fun pre post => by
      have := idx_mid (pre ++ g) post x
      simpa using this
    have hp3 : ∀ pre post : List TForm, pre.length + (g.length + 1) ≤ 900 → c_spec_l14Text M (a, ()) (pre ++ (g ++ [x] ++ post)) (IntKind.i64.wrap ((((pre ++ g).length : Nat) : Int) - 1)) = some ((b, ()), ()) := fun pre post hl => by
      have := b3 pre (x :: post) (by omega)
      rw [w64 (by simp; omega) (by simp; omega)]
      simpa using this
    have he : ∀ pre : List TForm, (pre.length : Int) + ((g ++ [x]).length : Int) - 1 = (((pre ++ g).length : Nat) : Int) := fun pre => by simp; omega
    rcases hop with ho | ho | ho
    · refine ⟨[126] ++ b, by simp; omega, e_impl_tree_text _ _ ?_, fun pre post hl => ?_⟩
      · simp only [q_impl_tree_text, treeK, ho, Int.reduceBEq, Bool.false_eq_true, ↓reduceIte]
        simp (disch := omega) only [hix, Option.bind_some, b2, if_pos, if_neg, if_true, List.length_append, List.length_cons, List.length_nil]
      · simp only [List.length_append, List.length_cons, List.length_nil] at hl
        rw [he]
        apply e_spec_l14Text
        simp only [q_spec_l14Text, hpt, Option.bind_some, Sum.elim_inl, ho, Int.reduceBEq, Bool.false_eq_true, ↓reduceIte, hp3 pre post (by omega)]
        simp (disch := omega) only [Option.bind_some, if_pos, if_neg, if_true, List.length_append, List.length_cons, List.length_nil]
    · refine ⟨[33] ++ bytesStr [65 + x.2.1] ++ b, by simp [bytesStr]; omega, e_impl_tree_text _ _ ?_, fun pre post hl => ?_⟩
      · simp only [q_impl_tree_text, treeK, ho, Int.reduceBEq, Bool.false_eq_true, ↓reduceIte]
        simp (disch := omega) only [w1, w2, hix, Option.bind_some, b2, if_pos, if_neg, if_true, List.length_append, List.length_cons, List.length_nil, bytesStr_len]
      · simp only [List.length_append, List.length_cons, List.length_nil] at hl
        rw [he]
        apply e_spec_l14Text
        simp only [q_spec_l14Text, hpt, Option.bind_some, Sum.elim_inl, ho, Int.reduceBEq, Bool.false_eq_true, ↓reduceIte, hlet, hp3 pre post (by omega)]
        simp (disch := omega) only [Option.bind_some, if_pos, if_neg, if_true, List.length_append, List.length_cons, List.length_nil, bytesStr_len]
    · refine ⟨[63] ++ bytesStr [65 + x.2.1] ++ b, by simp [bytesStr]; omega, e_impl_tree_text _ _ ?_, fun pre post hl => ?_⟩
      · simp only [q_impl_tree_text, treeK, ho, Int.reduceBEq, Bool.false_eq_true, ↓reduceIte]
        simp (disch := omega) only [w1, w2, hix, Option.bind_some, b2, if_pos, if_neg, if_true, List.length_append, List.length_cons, List.length_nil, bytesStr_len]
      · simp only [List.length_append, List.length_cons, List.length_nil] at hl
        rw [he]
        apply e_spec_l14Text
        simp only [q_spec_l14Text, hpt, Option.bind_some, Sum.elim_inl, ho, Int.reduceBEq, Bool.false_eq_true, ↓reduceIte, hlet, hp3 pre post (by omega)]
        simp (disch := omega) only [Option.bind_some, if_pos, if_neg, if_true, List.length_append, List.length_cons, List.length_nil, bytesStr_len]
  | @bin x g k t u h h2 hgt hkt ih1 ih2 =>
    intro hlen
    simp only [List.length_append, List.length_cons, List.length_nil] at hlen
    obtain ⟨b, b1, b2, b3⟩ := ih1 (by omega)
    obtain ⟨c, c1, c2, c3⟩ := ih2 (by omega)
    have hop := bin_op h h2
    have hix : idx [t, u] 0 = some t := rfl
    have hix1 : idx [t, u] 1 = some u := rfl
    have hpt : ∀ pre post : List TForm, idx (pre ++ (g ++ k ++ [x] ++ post)) (((pre ++ (g ++ k)).length : Nat) : Int) = some x := fun pre post => by
      have := idx_mid (pre ++ (g ++ k)) post x
      simpa using this
    have he : ∀ pre : List TForm, (pre.length : Int) + ((g ++ k ++ [x]).length : Int) - 1 = (((pre ++ (g ++ k)).length : Nat) : Int) := fun pre => by simp; omega
    have hfi : ∀ pre post : List TForm, pre.length + (g.length + k.length + 1) ≤ 900 → c_spec_l14First M (pre ++ (g ++ k ++ [x] ++ post)) (((pre ++ (g ++ k)).length : Nat) : Int) = some (((((pre ++ g).length : Nat) : Int) - 1, ()), ()) := fun pre post hl => by
      have := p_l14First hkt (pre ++ g) (x :: post) (by simp; omega)
      simp only [List.append_assoc, List.length_append] at this ⊢
      rw [show ((pre.length + g.length : Nat) : Int) + (k.length : Int) = ((pre.length + (g.length + k.length) : Nat) : Int) by omega] at this
      simpa using this
    have hp3 : ∀ pre post : List TForm, pre.length + (g.length + k.length + 1) ≤ 900 → c_spec_l14Text M (a, ()) (pre ++ (g ++ k ++ [x] ++ post)) ((((pre ++ g).length : Nat) : Int) - 1) = some ((b, ()), ()) := fun pre post hl => by
      have := b3 pre (k ++ x :: post) (by omega)
      simpa using this
    have hq3 : ∀ pre post : List TForm, pre.length + (g.length + k.length + 1) ≤ 900 → c_spec_l14Text M (a, ()) (pre ++ (g ++ k ++ [x] ++ post)) (IntKind.i64.wrap ((((pre ++ (g ++ k)).length : Nat) : Int) - 1)) = some ((c, ()), ()) := fun pre post hl => by
      have := c3 (pre ++ g) (x :: post) (by simp; omega)
      rw [w64 (by simp; omega) (by simp; omega)]
      simp only [List.append_assoc, List.length_append] at this ⊢
      rw [show ((pre.length + g.length : Nat) : Int) + (k.length : Int) = ((pre.length + (g.length + k.length) : Nat) : Int) by omega] at this
      simpa using this
    rcases hop with ho | ho
    · refine ⟨[40] ++ b ++ [38] ++ c ++ [41], by simp; omega, e_impl_tree_text _ _ ?_, fun pre post hl => ?_⟩
      · simp only [q_impl_tree_text, treeK, ho, Int.reduceBEq, Bool.false_eq_true, ↓reduceIte]
        simp (disch := omega) only [hix, hix1, Option.bind_some, b2, c2, if_pos, if_neg, if_true, List.length_append, List.length_cons, List.length_nil]
      · simp only [List.length_append, List.length_cons, List.length_nil] at hl
        rw [he]
        apply e_spec_l14Text
        simp only [q_spec_l14Text, hpt, Option.bind_some, Sum.elim_inl, ho, Int.reduceBEq, Bool.false_eq_true, ↓reduceIte, hfi pre post (by omega), hp3 pre post (by omega), hq3 pre post (by omega)]
        simp (disch := omega) only [Option.bind_some, Sum.elim_inl, if_pos, if_neg, if_true, List.length_append, List.length_cons, List.length_nil]
    · refine ⟨[40] ++ b ++ [124] ++ c ++ [41], by simp; omega, e_impl_tree_text _ _ ?_, fun pre post hl => ?_⟩
      · simp only [q_impl_tree_text, treeK, ho, Int.reduceBEq, Bool.false_eq_true, ↓reduceIte]
        simp (disch := omega) only [hix, hix1, Option.bind_some, b2, c2, if_pos, if_neg, if_true, List.length_append, List.length_cons, List.length_nil]
      · simp only [List.length_append, List.length_cons, List.length_nil] at hl
        rw [he]
        apply e_spec_l14Text
        simp only [q_spec_l14Text, hpt, Option.bind_some, Sum.elim_inl, ho, Int.reduceBEq, Bool.false_eq_true, ↓reduceIte, hfi pre post (by omega), hp3 pre post (by omega), hq3 pre post (by omega)]
        simp (disch := omega) only [Option.bind_some, Sum.elim_inl, if_pos, if_neg, if_true, List.length_append, List.length_cons, List.length_nil]

theorem p_FormTexts (s : TSign) (hs : s.1.length ≤ 1048576) (c : List TForm) (hc : c.length ≤ 1048576) (hx : ∀ x ∈ c, smF x) : ∃ t : List UInt8 × Bool, c_spec_FormText M s c = some ((t.1, t.2, ()), ()) ∧ c_impl_FormText M s c = some ((t.1, t.2, ()), ()) := by
  obtain ⟨t, ft, fT⟩ := p_formula s hs c
  cases h : (gS s.1 && fOK s.1 c) with
  | false =>
    rw [h] at ft
    refine ⟨([], false), e_spec_FormText _ _ ?_, e_impl_FormText _ _ ?_⟩
    · simp only [q_spec_FormText, sign_eta', p_spec_GoodForm s hs c hc hx, h, Option.bind_some]; rfl
    · simp only [q_impl_FormText, sign_eta', ft, Option.bind_some]; rfl
  | true =>
    rw [h] at ft
    have h' := h
    simp only [Bool.and_eq_true, fOK, decide_eq_true_eq] at h'
    obtain ⟨b, b1, b2, b3⟩ := p_formText h'.1 (gT_FT (fT h)) (by omega)
    have b3' := b3 [] [] (by simp; omega)
    have hpos := (gT_FT (fT h)).pos
    refine ⟨(b, true), e_spec_FormText _ _ ?_, e_impl_FormText _ _ ?_⟩
    · simp only [q_spec_FormText, sign_eta', p_spec_GoodForm s hs c hc hx, h, Option.bind_some]
      rw [w64 (by omega) (by omega)]
      simp only [List.nil_append, List.append_nil, List.length_nil, show ((0 : Nat) : Int) = 0 from rfl, Int.zero_add, sign_eta'] at b3'
      rw [b3']
      rfl
    · simp only [q_impl_FormText, sign_eta', ft, Option.bind_some]
      rw [sign_eta'] at b2
      rw [b2]
      rfl

theorem p_FnExactFormText (s : TSign) (c : List TForm) (hs : s.1.length ≤ 9223372036854775807) (hc : c.length ≤ 9223372036854775807) (hx : ∀ x ∈ c, wlF x) : c_laws_FnExactFormText M s c = some ((true, ()), ()) := by
  obtain ⟨r1, e1, g1, k1⟩ := p_szSign s 1048576 (by omega) (by omega) hs
  by_cases h1 : r1 < 0
  · apply e_laws_FnExactFormText
    simp only [q_laws_FnExactFormText, sign_eta', e1, Option.bind_some]
    rw [if_pos (by simpa using h1)]
  · obtain ⟨r2, e2, g2, k2⟩ := p_szFormS c r1 (by omega) g1 hc hx
    by_cases h2 : r2 < 0
    · apply e_laws_FnExactFormText
      simp only [q_laws_FnExactFormText, sign_eta', e1, e2, Option.bind_some]
      rw [if_neg (by simpa using h1), if_pos (by simpa using h2)]
    · have hs' := k1 (by omega)
      obtain ⟨hc', hx'⟩ := k2 (by omega)
      obtain ⟨t, t1, t2⟩ := p_FormTexts s hs' c hc' hx'
      apply e_laws_FnExactFormText
      simp only [q_laws_FnExactFormText, sign_eta', e1, e2, Option.bind_some, p_toSign s (by omega), p_toFormS c hc' hx', t1, t2, p_eqSign s (by omega), p_eqFormS c hc' hx']
      rw [if_neg (by simpa using h1), if_neg (by simpa using h2)]
      simp


end Go.Proofs.YtffdfjilpleljaaFt.Ev
