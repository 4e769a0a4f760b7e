/- A text of its own: QL; no condition but those that each theorem names. -/
import Derived.Test.YtkdceefdipljaaaTtPRc
/- Plain laws: a term's text is read back, and a text that is read is the term's; FnTermText. No condition but that bytes are bytes and fit in memory. -/
namespace Go.Proofs.YtkdceefdipljaaaTt.Ev
open Go
set_option autoImplicit false
set_option linter.unusedVariables false
set_option linter.unusedSimpArgs false

/-- What both programs read of a text. -/
def RT (a : List Int) (X : List UInt8) : (List Int × Int × Bool × Unit) × Unit :=
  if gS a = true ∧ X.length ≤ 200 then match rdT a (X.length + 1) X with
    | .bad c => (([], (c : Int), false, ()), ())
    | .ok t c => if c < X.length then (([], (c : Int), false, ()), ()) else if t.length ≤ 40 then ((t, (c : Int), true, ()), ()) else (([], 0, false, ()), ())
  else (([], 0, false, ()), ())

theorem isT_of_Tm {a t : List Int} (h : Tm a t) : isT a t = decide (t.length ≤ 40) := by
  simp only [isT, decide_eq_true h, Bool.and_true]

theorem p_spec_RT (s : TSign) (hs : s.1.length ≤ 1048576) (X : List UInt8) : c_spec_ReadTerm M s X = some (RT s.1 X) := by
  apply e_spec_ReadTerm
  simp only [q_spec_ReadTerm, sign_eta', p_spec_GoodSign s (by omega), Option.bind_some]
  unfold RT
  cases hg : gS s.1 with
  | false => rw [if_pos (by rfl), if_neg (by simp)]
  | true =>
    rw [if_neg (by simp)]
    by_cases hX : X.length ≤ 200
    · rw [if_neg (by simp; omega), if_pos ⟨rfl, hX⟩]
      have hsp := p_spT hg X (by omega) (X.length + 1) 0 (by omega) (by omega)
      rw [List.drop_zero] at hsp
      have hsp' : c_spec_l1ReadTerm M s X 0 = some (spT 0 (rdT s.1 (X.length + 1) X)) := hsp
      rw [hsp']
      simp only [Option.bind_some]
      cases hr : rdT s.1 (X.length + 1) X with
      | bad c =>
        simp only [spT, Nat.zero_add]
        rfl
      | ok t c =>
        obtain ⟨i1, i2, i3⟩ := rdT_inv hg (X.length + 1) X t c (by omega) hr
        have hle := (rdT_le (a := s.1) (X.length + 1) X).2 t c hr
        simp only [spT, Nat.zero_add]
        rw [if_neg (by simp)]
        by_cases hc : c < X.length
        · rw [if_pos (by simpa using hc), if_pos hc]
        · rw [if_neg (by simpa using hc), if_neg hc, p_l1Term s hg t (by omega)]
          simp only [Option.bind_some, isT_of_Tm i1]
          by_cases h4 : t.length ≤ 40
          · rw [if_pos h4]; simp [h4]
          · rw [if_neg h4]; simp [h4]
    · rw [if_pos (by simp; omega), if_neg (fun h => hX h.2)]

theorem p_impl_RT (s : TSign) (hs : s.1.length ≤ 1048576) (X : List UInt8) : c_impl_ReadTerm M s X = some (RT s.1 X) := by
  apply e_impl_ReadTerm
  simp only [q_impl_ReadTerm, sign_eta', p_impl_GoodSign s (by omega), Option.bind_some]
  unfold RT
  cases hg : gS s.1 with
  | false => rw [if_pos (by rfl), if_neg (by simp)]
  | true =>
    rw [if_neg (by simp)]
    by_cases hX : X.length ≤ 200
    · rw [if_neg (by simp; omega), if_pos ⟨rfl, hX⟩]
      obtain ⟨⟨⟨t1, ⟨⟩⟩, ⟨q1, ⟨⟩⟩⟩, c1, m1⟩ := p_imT hg X (by omega) (X.length + 1) 0 (by omega) (by omega)
      rw [List.drop_zero] at m1
      have c1' : c_impl_parser_term M (s, X, 0, 12, false, ()) = some ((t1, ()), (q1, ())) := c1
      rw [c1']
      simp only [Option.bind_some]
      have done : ∀ (c : Nat) (b : Bool), c_impl_parser_done M ((mkP s.1 X c b).1, (mkP s.1 X c b).2.1, (mkP s.1 X c b).2.2.1, (mkP s.1 X c b).2.2.2.1, (mkP s.1 X c b).2.2.2.2.1, ()) = some ((!(b || decide (c < X.length)), ()), (mkP s.1 X c (b || decide (c < X.length)), ())) := by
        intro c b
        apply e_impl_parser_done
        simp only [q_impl_parser_done]
        cases b with
        | true => rfl
        | false => simp
      cases hr : rdT s.1 (X.length + 1) X with
      | bad c =>
        rw [hr] at m1
        obtain ⟨j1, _⟩ := m1
        simp only [Nat.zero_add] at j1
        subst j1
        rw [done c true]
        rfl
      | ok t c =>
        rw [hr] at m1
        simp only [imT, Nat.zero_add, Prod.mk.injEq, and_true] at m1
        obtain ⟨rfl, rfl⟩ := m1
        obtain ⟨i1, i2, i3⟩ := rdT_inv hg (X.length + 1) X t1 c (by omega) hr
        rw [done c false]
        simp only [Option.bind_some]
        by_cases hc : c < X.length
        · rw [if_pos (by simp [hc]), if_pos hc]
        · rw [if_neg (by simp; omega), if_neg hc]
          by_cases h4 : t1.length ≤ 40
          · rw [if_pos h4, if_neg (by simp; omega), show (X.length : Int) = (c : Int) by omega]
          · rw [if_neg h4, if_pos (by simp; omega)]
    · rw [if_pos (by simp; omega), if_neg (fun h => hX h.2)]

/-- The text of a term, by both programs. -/
noncomputable def TT (a t : List Int) : (List UInt8 × Bool × Unit) × Unit := if gS a = true ∧ isT a t = true then ((tx a t, true, ()), ()) else (([], false, ()), ())
theorem p_impl_TT (s : TSign) (hs : s.1.length ≤ 1048576) (t : List Int) : c_impl_TermText M s t = some (TT s.1 t) := by
  apply e_impl_TermText
  simp only [q_impl_TermText, sign_eta', p_impl_GoodTerm s hs t, Option.bind_some]
  unfold TT
  cases hg : gS s.1 with
  | false => simp
  | true =>
    cases hT : isT s.1 t with
    | false => simp
    | true => simp [p_termText s hg t hT]
theorem p_spec_TT (s : TSign) (hs : s.1.length ≤ 1048576) (t : List Int) (ht : t.length ≤ 1048576) : c_spec_TermText M s t = some (TT s.1 t) := by
  apply e_spec_TermText
  simp only [q_spec_TermText, sign_eta', p_spec_GoodTerm s hs t ht, Option.bind_some]
  unfold TT
  cases hg : gS s.1 with
  | false => simp
  | true =>
    cases hT : isT s.1 t with
    | false => simp
    | true => simp [p_l1TermText s hg t hT]
theorem Tm_of_isT {a t : List Int} (h : isT a t = true) : t.length ≤ 40 ∧ Tm a t := by
  simp only [isT, Bool.and_eq_true, decide_eq_true_eq] at h
  exact h
/-- What was written is read back. -/
theorem RT_tx {a t : List Int} (hg : gS a = true) (h : isT a t = true) (hl : (tx a t).length ≤ 200) : RT a (tx a t) = ((t, ((tx a t).length : Int), true, ()), ()) := by
  obtain ⟨h4, hT⟩ := Tm_of_isT h
  have hb := back_all hg t.length t (Nat.le_refl _) (by omega) hT
  have htx : tx a t = bytesStr (tb a t) := rfl
  have hlen : (bytesStr (tb a t)).length = (tb a t).length := by simp [bytesStr]
  have hr := hb.2 ((tx a t).length + 1) [] (by rw [htx, hlen]; have := hb.1; omega)
  rw [List.append_nil] at hr
  unfold RT
  rw [if_pos ⟨hg, hl⟩]
  rw [show rdT a ((tx a t).length + 1) (tx a t) = .ok t (tb a t).length from hr]
  simp only
  rw [if_neg (by rw [htx, hlen]; omega), if_pos h4]
  rw [show ((tb a t).length : Int) = ((tx a t).length : Int) by rw [htx, hlen]]
/-- What is read is what was written. -/
theorem RT_inv (a : List Int) (X : List UInt8) : (∃ n : Nat, RT a X = (([], (n : Int), false, ()), ()) ∧ n ≤ X.length) ∨ ∃ t, RT a X = ((t, (X.length : Int), true, ()), ()) ∧ gS a = true ∧ isT a t = true ∧ X = tx a t := by
  unfold RT
  by_cases h1 : gS a = true ∧ X.length ≤ 200
  · rw [if_pos h1]
    cases hr : rdT a (X.length + 1) X with
    | bad c =>
      have := (rdT_le (a := a) (X.length + 1) X).1
      rw [hr] at this
      exact .inl ⟨c, rfl, this⟩
    | ok t c =>
      obtain ⟨i1, i2, i3⟩ := rdT_inv h1.1 (X.length + 1) X t c (by omega) hr
      simp only
      by_cases hc : c < X.length
      · rw [if_pos hc]; exact .inl ⟨c, rfl, by omega⟩
      · rw [if_neg hc]
        by_cases h4 : t.length ≤ 40
        · rw [if_pos h4]
          have hcX : c = X.length := by omega
          subst hcX
          rw [List.take_length] at i2
          exact .inr ⟨t, rfl, h1.1, by rw [isT_of_Tm i1]; simpa using h4, i2⟩
        · rw [if_neg h4]; exact .inl ⟨0, rfl, by omega⟩
  · rw [if_neg h1]; exact .inl ⟨0, rfl, by omega⟩

section
variable {code : List Int} (hb : isBytes code)
include hb
theorem d_anyTerm {a : List Int} (ha : SgD a) {j : Int} (hj : j ≤ 1000) {c : TCur} (hc : Cu code j c) : Okk (fun r => r.1.1.length ≤ 1000 ∧ Cu code (j + 10000) r.2.1) (c_spec_l1Cur_anyTerm M c (a, ())) := by
  refine Okk.lift ?_ (e_spec_l1Cur_anyTerm c (a, ()))
  simp only [q_spec_l1Cur_anyTerm, cur_eta]
  refine Okk.bind (d_pick hb hc 4 (by omega) (by omega)) ?_
  rintro ⟨⟨x, ⟨⟩⟩, ⟨c1, ⟨⟩⟩⟩ ⟨h1, h2, h3⟩
  simp only at h1 h2 h3
  rw [w64 (x := 1 + x) (by omega) (by omega)]
  refine Okk.bind (d_term hb ha 3 (by omega) 4 (1 + x) (j + 2) c1 (by omega) (by omega) (by simp [dk]; omega) h3) ?_
  rintro ⟨⟨t, ⟨⟩⟩, ⟨c2, ⟨⟩⟩⟩ ⟨g1, g2, g3⟩
  simp only [dl, dk] at g1 g2 g3
  refine Okk.bind (P := fun y => ∃ (c' : TCur) (u : List Int), y = .inl (c', u, ()) ∧ u.length ≤ 1000 ∧ Cu code (j + 10000) c') ?_ ?_
  · refine Okk.bind (d_pick hb g3 40 (by omega) (by omega)) ?_
    rintro ⟨⟨y, ⟨⟩⟩, ⟨c3, ⟨⟩⟩⟩ ⟨_, _, k3⟩
    simp only at k3
    refine Okk.ite (fun _ => ?_) fun _ => Okk.ite (fun _ => ?_) fun _ => Okk.ite (fun _ => ?_) fun _ => ?_
    · exact Okk.iteT (by simp; omega) (.pure ⟨c3, _, rfl, by simp; omega, k3.mono (by omega)⟩)
    · refine Okk.bind (d_among hb k3 _ (by omega) (by simp) (by simp)) ?_
      rintro ⟨⟨z, ⟨⟩⟩, ⟨c4, ⟨⟩⟩⟩ ⟨_, k4⟩
      simp only at k4
      refine Okk.iteT (by simp only; omega) ?_
      refine Okk.bind (Okk.get (l := t) (i := 0) g2) fun _ _ => ?_
      exact .pure ⟨c4, _, rfl, by simp; omega, k4.mono (by omega)⟩
    · refine Okk.iteT (by simp only; omega) (.pure ⟨c3, _, rfl, by simp; omega, k3.mono (by omega)⟩)
    · exact .pure ⟨c3, t, rfl, by omega, k3.mono (by omega)⟩
  · rintro _ ⟨c', u, rfl, k1, k2⟩
    exact .pure ⟨k1, k2⟩
theorem d_DrawTermText : Okk (fun r => SgD r.1.1.1 ∧ r.1.2.1.length ≤ 1000) (c_spec_DrawTermText M code) := by
  refine Okk.lift ?_ (e_spec_DrawTermText code)
  simp only [q_spec_DrawTermText]
  refine Okk.bind (P := fun r => SgD r.1.1.1 ∧ r.1.2.1.length ≤ 1000) ?_ ?_
  · refine Okk.lift ?_ (e_spec_DrawGoodTerm code)
    simp only [q_spec_DrawGoodTerm]
    refine Okk.bind (d_sign hb (by omega) (cu0 code)) ?_
    rintro ⟨⟨⟨a, ⟨⟩⟩, ⟨⟩⟩, ⟨c1, ⟨⟩⟩⟩ ⟨h1, h2⟩
    refine Okk.bind (d_anyTerm hb h1 (by omega) h2) ?_
    rintro ⟨⟨t, ⟨⟩⟩, ⟨c2, ⟨⟩⟩⟩ ⟨h3, h4⟩
    exact .pure ⟨h1, h3⟩
  · rintro ⟨⟨⟨a, ⟨⟩⟩, ⟨t, ⟨⟩⟩⟩, ⟨⟩⟩ h
    exact .pure h
theorem d_DrawReadTerm : Okk (fun r => SgD r.1.1.1 ∧ r.1.2.1.length ≤ 100000) (c_spec_DrawReadTerm M code) := by
  refine Okk.lift ?_ (e_spec_DrawReadTerm code)
  simp only [q_spec_DrawReadTerm]
  refine Okk.bind (d_sign hb (by omega) (cu0 code)) ?_
  rintro ⟨⟨⟨a, ⟨⟩⟩, ⟨⟩⟩, ⟨c1, ⟨⟩⟩⟩ ⟨h1, h2⟩
  refine Okk.bind (d_anyTerm hb h1 (by omega) h2) ?_
  rintro ⟨⟨t, ⟨⟩⟩, ⟨c2, ⟨⟩⟩⟩ ⟨h3, h4⟩
  simp only at h1 h3 h4
  have hct := p_spec_TT (a, ()) (by have := h1.1; simp only; omega) t (by omega)
  refine Okk.bind (P := fun r => r.1.1.length ≤ 3000) ⟨_, hct, ?_⟩ ?_
  · unfold TT
    split
    · rename_i h
      have := tx_len (a := a) h.1 h.2
      simp only; omega
    · simp
  · rintro ⟨⟨x, ok, ⟨⟩⟩, ⟨⟩⟩ ht
    refine Okk.bind (P := fun y => ∃ (u : List UInt8), y = .inl (([], ()), (a, ()), u, ()) ∧ u.length ≤ 100000) ?_ ?_
    · refine Okk.bind (d_one hb h4 3 (by omega) (by omega)) ?_
      rintro ⟨⟨b, ⟨⟩⟩, ⟨c3, ⟨⟩⟩⟩ h6
      simp only at ht
      refine Okk.ite (fun _ => ?_) fun _ => .pure ⟨x, rfl, by omega⟩
      refine Okk.bind (d_spoilt hb h6 x _ (by omega) (by simp) (by simp) (by omega)) ?_
      rintro ⟨⟨u, ⟨⟩⟩, ⟨c4, ⟨⟩⟩⟩ ⟨h7, _⟩
      simp only at h7
      exact .pure ⟨u, rfl, by omega⟩
    · rintro _ ⟨u, rfl, hu⟩
      exact .pure ⟨h1, hu⟩
theorem d_DrawShiftVars : Okk (fun r => SgD r.1.1.1 ∧ r.1.2.1.length ≤ 1000) (c_spec_DrawShiftVars M code) := by
  refine Okk.lift ?_ (e_spec_DrawShiftVars code)
  simp only [q_spec_DrawShiftVars]
  refine Okk.bind (d_sign hb (by omega) (cu0 code)) ?_
  rintro ⟨⟨⟨a, ⟨⟩⟩, ⟨⟩⟩, ⟨c1, ⟨⟩⟩⟩ ⟨h1, h2⟩
  refine Okk.bind (d_anyTerm hb h1 (by omega) h2) ?_
  rintro ⟨⟨t, ⟨⟩⟩, ⟨c2, ⟨⟩⟩⟩ ⟨h3, h4⟩
  refine Okk.bind (d_among hb h4 _ (by omega) (by simp) (by simp)) ?_
  rintro ⟨⟨z, ⟨⟩⟩, ⟨c4, ⟨⟩⟩⟩ ⟨_, k4⟩
  exact .pure ⟨h1, h3⟩
end

theorem SgD_len {a : List Int} (h : SgD a) : a.length ≤ 1048576 := by have := h.1; omega
theorem p_FnTermText (a b : List Int) (ha : ∀ x ∈ a, 0 ≤ x ∧ x ≤ 255) (hb : ∀ x ∈ b, 0 ≤ x ∧ x ≤ 255) (la : a.length ≤ 9223372036854775807) (lb : b.length ≤ 9223372036854775807) : c_laws_FnTermText M a b = some ((true, ()), ()) := by
  apply e_laws_FnTermText
  simp only [q_laws_FnTermText, p_big a b la lb, Option.bind_some]
  by_cases hB : (decide (1048576 < a.length) || decide (1048576 - (a.length : Int) < b.length)) = true
  · rw [if_pos hB]
  · rw [if_neg hB]
    simp only [Bool.or_eq_true, decide_eq_true_eq, not_or] at hB
    have ba : isBytes a := ⟨by omega, ha⟩
    have bb : isBytes b := ⟨by omega, hb⟩
    obtain ⟨⟨⟨⟨s, ⟨⟩⟩, ⟨t, ⟨⟩⟩⟩, ⟨⟩⟩, d1, d2, d3⟩ := d_DrawTermText ba
    obtain ⟨⟨⟨⟨u, ⟨⟩⟩, ⟨X, ⟨⟩⟩⟩, ⟨⟩⟩, f1, f2, f3⟩ := d_DrawReadTerm bb
    obtain ⟨⟨⟨⟨v, ⟨⟩⟩, ⟨z, ⟨by', ⟨⟩⟩⟩⟩, ⟨⟩⟩, h1, h2, h3⟩ := d_DrawShiftVars bb
    simp only at d2 d3 f2 f3 h2 h3
    have hs := SgD_len d2
    have hu := SgD_len f2
    have hv := SgD_len h2
    rw [d1]
    simp only [Option.bind_some, p_impl_TT (s, ()) hs t, p_spec_TT (s, ()) hs t (by omega)]
    rw [if_neg (by simp), if_neg (by simp)]
    have first : ((if (TT s t).1.2.1 = true then ((c_impl_ReadTerm M (s, ()) (TT s t).1.1).bind fun r6 => (if (decide ((List.length (TT s t).1.1 : Int) ≤ (200 : Int))) = true then (if (!r6.1.2.2.1) = true then ((some ((false, ()), ())).map .inr) else (if (r6.1.2.1 != (List.length (TT s t).1.1 : Int)) = true then ((some ((false, ()), ())).map .inr) else ((c_laws_sameTerm M r6.1.1 t).bind fun r7 => (if (!r7.1.1) = true then ((some ((false, ()), ())).map .inr) else (some (.inl (b, ()))))))) else (some (.inl (b, ()))))) else (some (.inl (b, ())))) : Option (((List Int) × Unit) ⊕ (Bool × Unit) × (Unit))) = some (.inl (b, ())) := by
      unfold TT
      by_cases hok : gS s = true ∧ isT s t = true
      · rw [if_pos hok]
        have hl := tx_len hok.1 hok.2
        simp only [↓reduceIte, p_impl_RT (s, ()) hs, Option.bind_some]
        rw [RT_tx hok.1 hok.2 (by omega), if_pos (by simp; omega), if_neg (by simp), if_neg (by simp), p_sameTerm t (by omega)]
        rfl
      · rw [if_neg hok]; rfl
    rw [first]
    simp only [Option.bind_some, Sum.elim_inl]
    rw [f1]
    simp only [Option.bind_some, p_impl_RT (u, ()) hu X, p_spec_RT (u, ()) hu X]
    rw [if_neg (by simp), if_neg (by simp)]
    have tail : ((c_spec_DrawShiftVars M b).bind fun r14 => ((c_impl_ShiftVars M (r14.1.1.1, ()) r14.1.2.1 r14.1.2.2.1).bind fun r15 => ((c_spec_ShiftVars M (r14.1.1.1, ()) r14.1.2.1 r14.1.2.2.1).bind fun r16 => (if (!(r15.1.2.1 == r16.1.2.1)) = true then (some ((false, ()), ())) else ((c_laws_sameTerm M r15.1.1 r16.1.1).bind fun r17 => (if (!r17.1.1) = true then (some ((false, ()), ())) else (if r15.1.2.1 = true then ((c_impl_SameUpTo M (r14.1.1.1, ()) r15.1.1 r14.1.2.1).bind fun r18 => (if r18.1.2.1 = true then (some ((r18.1.1, ()), ())) else (some ((false, ()), ())))) else (some ((true, ()), ()))))))))) = some ((true, ()), ()) := by
      rw [h1]
      simp only [Option.bind_some, p_impl_ShiftVars (v, ()) hv z (by omega) by', p_spec_ShiftVars (v, ()) hv z (by omega) by']
      rw [if_neg (by simp)]
      unfold SV
      by_cases hok : gS v = true ∧ isT v z = true ∧ 0 ≤ by' ∧ by' ≤ 12 ∧ isT v (z.map (shn by')) = true
      · rw [if_pos hok]
        rw [p_sameTerm _ (by simp; omega)]
        simp only [Option.bind_some]
        rw [if_neg (by simp)]
        simp only [↓reduceIte]
        rw [p_SameUpTo (v, ()) hv _ _ hok.1 hok.2.2.2.2 hok.2.1]
        simp only [Option.bind_some, ↓reduceIte]
        have := rnm_shift by' hok.2.2.1 z []
        rw [show shm by' [] = [] from rfl] at this
        simp [this]
      · rw [if_neg hok]
        rw [p_sameTerm _ (by simp)]
        simp
    rcases RT_inv u X with ⟨n, e, hn⟩ | ⟨r, e, g1, g2, g3⟩
    · rw [e]
      simp only
      rw [p_sameTerm [] (by simp)]
      simp only [Option.bind_some]
      rw [if_neg (by simp), if_neg (by simp)]
      simp only [Option.bind_some, Sum.elim_inl]
      exact tail
    · have hr40 := (Tm_of_isT g2).1
      rw [e]
      simp only
      rw [p_sameTerm r (by omega)]
      simp only [Option.bind_some]
      rw [if_neg (by simp)]
      simp only [↓reduceIte]
      rw [p_impl_TT (u, ()) hu r]
      simp only [Option.bind_some]
      have hTT : TT u r = ((X, true, ()), ()) := by
        unfold TT; rw [if_pos ⟨g1, g2⟩, g3]
      rw [hTT, if_neg (by simp), if_neg (by simp)]
      simp only [Option.bind_some, Sum.elim_inl]
      exact tail
end Go.Proofs.YtkdceefdipljaaaTt.Ev
