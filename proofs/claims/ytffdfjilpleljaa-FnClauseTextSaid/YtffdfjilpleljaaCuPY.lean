/- Plain laws: FnClauseText answers true. No condition but that the bytes are bytes and fit in memory. -/
import Derived.Test.YtffdfjilpleljaaCuPRe
import Derived.Test.YtffdfjilpleljaaCuPX
namespace Go.Proofs.YtffdfjilpleljaaCu.Ev
open Go
set_option autoImplicit false
set_option linter.unusedVariables false
set_option linter.unusedSimpArgs false

theorem p_sameInts_loop (a : List Int) (ha : a.length ≤ 17592186044416) : ∀ k i : Nat, i + k = a.length → l_laws_sameInts_58 M a a a.length i = some (.inl ()) := by
  intro k
  induction k with
  | zero =>
    intro i hi
    apply el_laws_sameInts_58
    simp only [ql_laws_sameInts_58]
    rw [if_neg (by simp; omega)]
  | succ k ih =>
    intro i hi
    have h1 : i < a.length := by omega
    apply el_laws_sameInts_58
    simp only [ql_laws_sameInts_58]
    rw [if_pos (by simpa using h1), idx_lt h1, inc_nat (by omega)]
    simp only [Option.bind_some]
    rw [if_neg (by simp)]
    exact ih (i + 1) (by omega)
theorem p_sameInts (a : List Int) (ha : a.length ≤ 17592186044416) : c_laws_sameInts M a a = some ((true, ()), ()) := by
  apply e_laws_sameInts
  simp only [q_laws_sameInts]
  have := p_sameInts_loop a ha a.length 0 (by omega)
  rw [show ((0 : Nat) : Int) = 0 from rfl] at this
  rw [if_neg (by simp), this]
  rfl
theorem p_sameTerm (a : List Int) (ha : a.length ≤ 17592186044416) : c_laws_sameTerm M a a = some ((true, ()), ()) := by
  apply e_laws_sameTerm
  simp only [q_laws_sameTerm, p_sameInts a ha, Option.bind_some]
theorem p_sameLits_loop (a : List TLit) (ha : a.length ≤ 1048576) (hx : ∀ x ∈ a, smL x) : ∀ k i : Nat, i + k = a.length → l_laws_sameLits_58 M a a a.length i = some (.inl ()) := by
  intro k
  induction k with
  | zero =>
    intro i hi
    apply el_laws_sameLits_58
    simp only [ql_laws_sameLits_58]
    rw [if_neg (by simp; omega)]
  | succ k ih =>
    intro i hi
    have h1 : i < a.length := by omega
    have h2 := hx _ (List.getElem_mem h1)
    have h3 := h2.1
    have h4 := h2.2
    apply el_laws_sameLits_58
    simp only [ql_laws_sameLits_58]
    rw [if_pos (by simpa using h1), idx_lt h1, inc_nat (by omega)]
    simp only [Option.bind_some]
    rw [if_neg (by simp), p_sameTerm _ (by omega)]
    simp only [Option.bind_some]
    rw [if_neg (by simp), p_sameTerm _ (by omega)]
    simp only [Option.bind_some]
    rw [if_neg (by simp)]
    exact ih (i + 1) (by omega)
theorem p_sameLits (a : List TLit) (ha : a.length ≤ 1048576) (hx : ∀ x ∈ a, smL x) : c_laws_sameLits M a a = some ((true, ()), ()) := by
  apply e_laws_sameLits
  simp only [q_laws_sameLits]
  have := p_sameLits_loop a ha hx a.length 0 (by omega)
  rw [show ((0 : Nat) : Int) = 0 from rfl] at this
  rw [if_neg (by simp), this]
  rfl

theorem clt_len {a : List Int} (hg : gS a = true) {c : List TLit} (h : clOK a c = true) : (clt a c).length ≤ 3000 := by
  simp only [clOK, Bool.and_eq_true, decide_eq_true_eq] at h
  have : ∀ (c : List TLit) (f : Bool), (∀ x ∈ c, litOK a x = true) → (ctx a f c).length ≤ 322 * c.length := by
    intro c
    induction c with
    | nil => intro f _; simp [ctx]
    | cons x r ih =>
      intro f hx
      have h1 := hx x (by simp)
      simp only [litOK, Bool.and_eq_true] at h1
      have l1 := tx_len hg h1.1
      have l2 := tx_len hg h1.2
      have l3 := ih false (fun y hy => hx y (by simp [hy]))
      simp only [ctx, List.length_append, List.length_cons]
      split <;> split <;> simp only [List.length_cons, List.length_nil] <;> omega
  have h2 := this c true (fun x hx => (List.all_eq_true.1 h.2) x hx)
  unfold clt
  split
  · simp
  · omega

section
variable {code : List Int} (hb : isBytes code)
include hb
theorem d_DrawClauseText : Okk (fun r => SgD r.1.1.1 ∧ r.1.2.1.length ≤ 9 ∧ ∀ x ∈ r.1.2.1, liD x) (c_spec_DrawClauseText M code) := by
  refine Okk.lift ?_ (e_spec_DrawClauseText code)
  simp only [q_spec_DrawClauseText]
  refine Okk.bind (P := fun r => SgD r.1.1.1 ∧ r.1.2.1.length ≤ 9 ∧ ∀ x ∈ r.1.2.1, liD x) ?_ ?_
  · refine Okk.lift ?_ (e_spec_DrawGoodClause code)
    simp only [q_spec_DrawGoodClause]
    refine Okk.bind (d_sign hb (by omega) (cu0 code)) ?_
    rintro ⟨⟨⟨a, ⟨⟩⟩, ⟨⟩⟩, ⟨c1, ⟨⟩⟩⟩ ⟨h1, h2⟩
    refine Okk.bind (d_clause hb h1 (by omega) h2) ?_
    rintro ⟨⟨o, ⟨⟩⟩, ⟨c2, ⟨⟩⟩⟩ ⟨h3, h4, h5⟩
    exact .pure ⟨h1, h3, h4⟩
  · rintro ⟨⟨⟨a, ⟨⟩⟩, ⟨o, ⟨⟩⟩⟩, ⟨⟩⟩ h
    exact .pure h
theorem d_DrawReadClause : Okk (fun r => SgD r.1.1.1 ∧ r.1.2.1.length ≤ 100000) (c_spec_DrawReadClause M code) := by
  refine Okk.lift ?_ (e_spec_DrawReadClause code)
  simp only [q_spec_DrawReadClause]
  refine Okk.bind (d_sign hb (by omega) (cu0 code)) ?_
  rintro ⟨⟨⟨a, ⟨⟩⟩, ⟨⟩⟩, ⟨c1, ⟨⟩⟩⟩ ⟨h1, h2⟩
  refine Okk.bind (d_clause hb h1 (by omega) h2) ?_
  rintro ⟨⟨o, ⟨⟩⟩, ⟨c2, ⟨⟩⟩⟩ ⟨h3, h4, h5⟩
  simp only at h1 h3 h4 h5
  have hct := (p_CTs (a, ()) (by have := h1.1; simp only; omega) o (by omega) (fun x hx => ⟨by have := (h4 x hx).1; omega, by have := (h4 x hx).2; omega⟩)).1
  refine Okk.bind (P := fun r => r.1.1.length ≤ 3000) ⟨_, hct, ?_⟩ ?_
  · simp only
    split
    · rename_i h
      simp only [Bool.and_eq_true] at h
      exact clt_len h.1 h.2
    · simp
  · rintro ⟨⟨t, ok, ⟨⟩⟩, ⟨⟩⟩ ht
    refine Okk.bind (P := fun y => ∃ (u : List UInt8), y = .inl (([], ()), (a, ()), u, ()) ∧ u.length ≤ 100000) ?_ ?_
    · refine Okk.bind (d_one hb h5 3 (by omega) (by omega)) ?_
      rintro ⟨⟨b, ⟨⟩⟩, ⟨c3, ⟨⟩⟩⟩ h6
      simp only at ht
      refine Okk.ite (fun _ => ?_) fun _ => .pure ⟨t, rfl, by omega⟩
      refine Okk.bind (d_spoilt hb h6 t _ (by omega) (by simp) (by simp) (by omega)) ?_
      rintro ⟨⟨u, ⟨⟩⟩, ⟨c4, ⟨⟩⟩⟩ ⟨h7, _⟩
      simp only at h7
      exact .pure ⟨u, rfl, by omega⟩
    · rintro _ ⟨u, rfl, hu⟩
      exact .pure ⟨h1, hu⟩
end

theorem p_FnClauseText (a b : List Int) (ha : ∀ x ∈ a, 0 ≤ x ∧ x ≤ 255) (hb : ∀ x ∈ b, 0 ≤ x ∧ x ≤ 255) (la : a.length ≤ 9223372036854775807) (lb : b.length ≤ 9223372036854775807) : c_laws_FnClauseText M a b = some ((true, ()), ()) := by
  apply e_laws_FnClauseText
  simp only [q_laws_FnClauseText]
  have hbig : c_laws_big M a b = some ((decide (1048576 < a.length) || decide (1048576 - (a.length : Int) < b.length), ()), ()) := by
    apply e_laws_big
    simp only [q_laws_big]
    by_cases h : 1048576 < a.length
    · rw [if_pos (by simp; omega)]; simp [h]
    · rw [if_neg (by simp; omega), w64 (by omega) (by omega)]; simp [h]
  rw [hbig]
  simp only [Option.bind_some]
  by_cases hB : (decide (1048576 < a.length) || decide (1048576 - (a.length : Int) < b.length)) = true
  · rw [if_pos hB]
  · rw [if_neg hB]
    simp only [Bool.or_eq_true, decide_eq_true_eq, not_or] at hB
    have ba : isBytes a := ⟨by omega, ha⟩
    have bb : isBytes b := ⟨by omega, hb⟩
    obtain ⟨⟨⟨⟨s, ⟨⟩⟩, ⟨c, ⟨⟩⟩⟩, ⟨⟩⟩, d1, d2, d3, d4⟩ := d_DrawClauseText ba
    simp only at d2 d3 d4
    have hs := d2.1
    have hsm : ∀ x ∈ c, smL x := fun x hx => ⟨by have := (d4 x hx).1; omega, by have := (d4 x hx).2; omega⟩
    obtain ⟨t1, t2⟩ := p_CTs (s, ()) (by simp only; omega) c (by omega) hsm
    rw [d1]
    simp only [Option.bind_some]
    rw [t2]
    simp only [Option.bind_some]
    rw [t1]
    simp only [Option.bind_some]
    rw [if_neg (by simp), if_neg (by simp)]
    have T : (c_spec_DrawReadClause M b).bind (fun r8 => ((c_impl_ReadClause M (r8.1.1.1, ()) r8.1.2.1).bind fun r9 => ((c_spec_ReadClause M (r8.1.1.1, ()) r8.1.2.1).bind fun r10 => (if (!(r9.1.2.2.1 == r10.1.2.2.1)) = true then (some ((false, ()), ())) else (if (r9.1.2.1 != r10.1.2.1) = true then (some ((false, ()), ())) else ((c_laws_sameLits M r9.1.1 r10.1.1).bind fun r11 => (if (!r11.1.1) = true then (some ((false, ()), ())) else (if r9.1.2.2.1 = true then ((c_impl_ClauseText M (r8.1.1.1, ()) r9.1.1).bind fun r12 => (if r12.1.2.1 = true then (some (((r12.1.1 == r8.1.2.1), ()), ())) else (some ((false, ()), ())))) else (if (decide (r9.1.2.1 ≥ (0 : Int))) = true then (some (((decide (r9.1.2.1 ≤ (List.length r8.1.2.1 : Int))), ()), ())) else (some ((false, ()), ()))))))))))) = some ((true, ()), ()) := by
      obtain ⟨⟨⟨⟨u, ⟨⟩⟩, ⟨X, ⟨⟩⟩⟩, ⟨⟩⟩, f1, f2, f3⟩ := d_DrawReadClause bb
      simp only at f2 f3
      have hu := f2.1
      rw [f1]
      simp only [Option.bind_some]
      rw [p_impl_ReadClause (u, ()) (by simp only; omega) X]
      simp only [Option.bind_some]
      rw [p_spec_ReadClause (u, ()) (by simp only; omega) X]
      simp only [Option.bind_some]
      rw [if_neg (by simp), if_neg (by simp)]
      have cases3 : (∃ n : Nat, RC u X = (([], (n : Int), false, ()), ()) ∧ n ≤ X.length) ∨ (∃ ls, RC u X = ((ls, (X.length : Int), true, ()), ()) ∧ gS u = true ∧ clOK u ls = true ∧ ls.length ≤ 1000 ∧ (∀ x ∈ ls, smL x) ∧ X = clt u ls) := by
        unfold RC
        by_cases h1 : gS u = true ∧ X.length ≤ 1000
        · rw [if_pos h1]
          cases hc : rdC u X with
          | bad n => exact .inl ⟨n, rfl, rdC_bad hc⟩
          | ok ls n =>
            obtain ⟨k1, k2, k3, k4⟩ := rdC_ok h1.1 h1.2 hc
            simp only
            by_cases h2 : clOK u ls = true
            · rw [if_pos h2]
              exact .inr ⟨ls, rfl, h1.1, h2, k2, k3, k4⟩
            · rw [if_neg h2]
              exact .inl ⟨0, rfl, by omega⟩
        · rw [if_neg h1]
          exact .inl ⟨0, rfl, by omega⟩
      rcases cases3 with ⟨n, e, hn⟩ | ⟨ls, e, g1, g2, g3, g4, g5⟩
      · rw [e]
        simp only
        rw [p_sameLits [] (by simp) (by simp)]
        simp only [Option.bind_some]
        rw [if_neg (by simp), if_neg (by simp), if_pos (by simp)]
        simp; omega
      · rw [e]
        simp only
        rw [p_sameLits ls (by omega) g4]
        simp only [Option.bind_some]
        rw [if_neg (by simp), if_pos trivial, (p_CTs (u, ()) (by simp only; omega) ls (by omega) g4).2]
        simp only [Option.bind_some]
        rw [g1, g2, ← g5]
        simp
    cases hok : (gS s && clOK s c) with
    | false =>
      simp only [Bool.false_eq_true, if_false, Option.bind_some, Sum.elim_inl]
      exact T
    | true =>
      have hok' := hok
      simp only [Bool.and_eq_true] at hok'
      simp only [if_true]
      by_cases hl : (clt s c).length ≤ 1000
      · rw [if_pos (by simp; omega), p_impl_ReadClause (s, ()) (by simp only; omega), RC_clt hok'.1 hok'.2 hl]
        simp only [Option.bind_some]
        rw [if_neg (by simp), if_neg (by simp), p_sameLits c (by omega) hsm]
        simp only [Option.bind_some]
        rw [if_neg (by simp)]
        simp only [Option.bind_some, Sum.elim_inl]
        exact T
      · rw [if_neg (by simp; omega)]
        simp only [Option.bind_some, Sum.elim_inl]
        exact T

end Go.Proofs.YtffdfjilpleljaaCu.Ev
