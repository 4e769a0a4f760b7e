/- Plain laws: a formula's parts by their places. No condition. -/
import Derived.Test.YtofkhmedmeihiaaPnPJ
namespace Go.Proofs.YtofkhmedmeihiaaPn.Ev
open Go
set_option autoImplicit false
set_option linter.unusedVariables false
set_option linter.unusedSimpArgs false

/-- From a part's root back to its head. -/
theorem p_first {a : List Int} {h : List TForm} {t : Tree} (hf : FT a h t) : ∀ (pre post : List TForm) (j : Nat) (r : Int), pre.length + h.length ≤ 1000 → j ≤ 1000 → j + h.length ≤ 1000 →
    l_spec_l14First_60 M (pre ++ (h ++ post)) j ((pre.length : Int) - 1) = some (.inl (r, ())) → l_spec_l14First_60 M (pre ++ (h ++ post)) ((j : Int) + 1) ((pre.length : Int) + h.length - 1) = some (.inl (r, ())) := by
  have step : ∀ (pre post : List TForm) (x : TForm) (j : Nat) (r : Int), ndOK a x = true → pre.length ≤ 1000 → j ≤ 1000 → l_spec_l14First_60 M (pre ++ x :: post) ((j : Int) + opn x.1) ((pre.length : Int) - 1) = some (.inl (r, ())) → l_spec_l14First_60 M (pre ++ x :: post) ((j : Int) + 1) (pre.length : Int) = some (.inl (r, ())) := by
    intro pre post x j r hn hp hj hr
    have ho := ndOK_opn hn
    apply el_spec_l14First_60
    simp only [ql_spec_l14First_60]
    rw [if_pos (by simp <;> omega), idx_mid]
    simp only [Option.bind_some, p_l14Arity]
    rw [w64 (x := opn x.1 - 1) (by omega) (by omega), w64 (by omega) (by omega), w64 (x := (pre.length : Int) - 1) (by omega) (by omega), show (j : Int) + 1 + (opn x.1 - 1) = (j : Int) + opn x.1 by omega]
    exact hr
  induction hf with
  | leaf h h0 =>
    intro pre post j r hp hj hjh hr
    have := step pre post _ j r h (by simp at hp; omega) hj (by rw [h0]; simpa using hr)
    simpa using this
  | @un x g t h h1 hg ih =>
    intro pre post j r hp hj hjh hr
    simp only [List.length_append, List.length_cons, List.length_nil] at hp hjh
    have e1 := ih pre (x :: post) j r (by omega) hj (by omega) (by simpa using hr)
    have := step (pre ++ g) post x j r h (by simp; omega) hj (by
      rw [h1]
      simpa using e1)
    simp only [List.append_assoc, List.length_append, List.length_cons, List.length_nil, List.singleton_append] at this ⊢
    rw [show (pre.length : Int) + ((g.length + (0 + 1) : Nat) : Int) - 1 = ((pre.length + g.length : Nat) : Int) by omega]
    exact this
  | @bin x g k t u h h2 hg hk ih1 ih2 =>
    intro pre post j r hp hj hjh hr
    simp only [List.length_append, List.length_cons, List.length_nil] at hp hjh
    have e1 := ih1 pre (k ++ x :: post) j r (by omega) hj (by omega) (by simpa using hr)
    have e2 := ih2 (pre ++ g) (x :: post) (j + 1) r (by simp; omega) (by have := hg.pos; omega) (by have := hg.pos; omega) (by
      simp only [List.append_assoc, List.length_append] at e1 ⊢
      rw [show ((j + 1 : Nat) : Int) = (j : Int) + 1 by omega, show (((pre.length + g.length : Nat) : Int) - 1) = (pre.length : Int) + g.length - 1 by omega]
      exact e1)
    have := step (pre ++ (g ++ k)) post x j r h (by simp; omega) hj (by
      rw [h2]
      simp only [List.append_assoc, List.length_append] at e2 ⊢
      rw [show ((j + 1 : Nat) : Int) + 1 = (j : Int) + 2 by omega, show ((pre.length + g.length : Nat) : Int) + (k.length : Int) - 1 = ((pre.length + (g.length + k.length) : Nat) : Int) - 1 by omega] at e2
      exact e2)
    simp only [List.append_assoc, List.length_append, List.length_cons, List.length_nil, List.singleton_append] at this ⊢
    rw [show (pre.length : Int) + ((g.length + (k.length + (0 + 1)) : Nat) : Int) - 1 = ((pre.length + (g.length + k.length) : Nat) : Int) by omega]
    exact this

theorem p_l14First {a : List Int} {h : List TForm} {t : Tree} (hf : FT a h t) (pre post : List TForm) (hl : pre.length + h.length ≤ 900) : c_spec_l14First M (pre ++ (h ++ post)) ((pre.length : Int) + h.length) = some (((pre.length : Int) - 1, ()), ()) := by
  apply e_spec_l14First
  simp only [q_spec_l14First]
  rw [w64 (by omega) (by omega)]
  have := p_first hf pre post 0 ((pre.length : Int) - 1) (by omega) (by omega) (by omega) (el_spec_l14First_60 _ _ _ (by simp [ql_spec_l14First_60]))
  rw [show ((0 : Nat) : Int) + 1 = 1 from rfl] at this
  rw [this]
  rfl

theorem leaf_op {a : List Int} {x : TForm} (h : ndOK a x = true) (h0 : opn x.1 = 0) : x.1 = 1 ∧ isT a x.2.2.1 = true ∧ isT a x.2.2.2.1 = true := by
  have h1 : x.1 = 1 := by
    unfold opn at h0
    split at h0
    · assumption
    · split at h0
      · omega
      · split at h0 <;> omega
  unfold ndOK at h
  rw [if_pos h1] at h
  simp only [isB, Bool.and_eq_true] at h
  exact ⟨h1, h.2.1.1, h.2.2.1⟩
theorem un_op {a : List Int} {x : TForm} (h : ndOK a x = true) (h0 : opn x.1 = 1) : (x.1 = 2 ∨ x.1 = 5 ∨ x.1 = 6) ∧ 0 ≤ x.2.1 ∧ x.2.1 ≤ 5 := by
  have h1 : x.1 = 2 ∨ x.1 = 5 ∨ x.1 = 6 := by
    unfold opn at h0
    split at h0
    · omega
    · split at h0
      · assumption
      · split at h0 <;> omega
  refine ⟨h1, ?_⟩
  unfold ndOK at h
  rw [if_neg (by omega)] at h
  split at h
  · split at h
    · simpa using h
    · split at h
      · simp at h; omega
      · cases h
  · cases h
theorem bin_op {a : List Int} {x : TForm} (h : ndOK a x = true) (h0 : opn x.1 = 2) : x.1 = 3 ∨ x.1 = 4 := by
  unfold opn at h0
  split at h0
  · omega
  · split at h0
    · omega
    · split at h0
      · assumption
      · omega

end Go.Proofs.YtofkhmedmeihiaaPn.Ev
