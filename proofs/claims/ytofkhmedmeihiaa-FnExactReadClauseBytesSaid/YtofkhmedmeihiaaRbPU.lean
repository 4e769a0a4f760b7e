/- Plain law: FnExactReadClauseBytes answers true. No condition but that lists fit in memory. -/
import Derived.Test.YtofkhmedmeihiaaRbPZ
import Derived.Test.YtofkhmedmeihiaaRbPEb
import Derived.Test.YtofkhmedmeihiaaRbPDe
import Derived.Test.YtofkhmedmeihiaaRbPQl
namespace Go.Proofs.YtofkhmedmeihiaaRb.Ev
open Go
set_option autoImplicit false
set_option linter.unusedVariables false
set_option linter.unusedSimpArgs false

theorem rL_le {s : List UInt8} : ∀ (m at0 : Nat) (last : Int) (l : List Int) (r : List Int) (p : Nat), at0 ≤ s.length → rL s m at0 last l = some (r, p) → p ≤ s.length
  | 0, at0, _, l, r, p, h0, h => by simp only [rL, Option.some.injEq, Prod.mk.injEq] at h; omega
  | m + 1, at0, last, l, r, p, h0, h => by
    simp only [rL] at h
    split at h
    · cases h
    · rename_i v c hv
      have := rV_le hv
      split at h
      · cases h
      · split at h
        · exact rL_le m (at0 + c) _ _ r p this.2 h
        · cases h
theorem rA_le {s : List UInt8} {at0 : Nat} {l : List Int} {p : Nat} (h : rA s at0 = some (l, p)) : p ≤ s.length := by
  unfold rA at h
  split at h
  · cases h
  · rename_i v c hv
    have := rV_le hv
    split at h
    · cases h
    · exact rL_le v (at0 + c) 0 [] l p this.2 h
theorem rA_len' {s : List UInt8} {at0 : Nat} {l : List Int} {p : Nat} (h : rA s at0 = some (l, p)) : l.length ≤ 1000 := by
  have := rA_len (s := s) (at0 := at0)
  rw [h] at this
  exact this

/-- Some literals at a place. -/
def rdB (s : List UInt8) : Nat → Nat → Option (List TLit × Nat)
  | 0, at0 => some ([], at0)
  | m + 1, at0 => match rV s at0 with
    | none => none
    | some (v, c) => if 1 < v then none else match rA s (at0 + c) with
      | none => none
      | some (l, p) => match rA s p with
        | none => none
        | some (r, q) => match rdB s m q with
          | none => none
          | some (ls, e) => some ((((v : Int) == 1), l, r, ()) :: ls, e)
theorem rdB_ok {s : List UInt8} : ∀ (m at0 : Nat) (ls : List TLit) (e : Nat), rdB s m at0 = some (ls, e) → ls.length = m ∧ ∀ x ∈ ls, smL x
  | 0, at0, ls, e, h => by simp only [rdB, Option.some.injEq, Prod.mk.injEq] at h; rw [← h.1]; simp
  | m + 1, at0, ls, e, h => by
    simp only [rdB] at h
    split at h
    · cases h
    · split at h
      · cases h
      · split at h
        · cases h
        · rename_i l p hl
          split at h
          · cases h
          · rename_i r q hr
            split at h
            · cases h
            · rename_i ls' e' hk
              simp only [Option.some.injEq, Prod.mk.injEq] at h
              obtain ⟨h1, h2⟩ := rdB_ok m q ls' e' hk
              have g1 := rA_len' hl
              have g2 := rA_len' hr
              rw [← h.1]
              refine ⟨by simp [h1], fun x hx => ?_⟩
              simp only [List.mem_cons] at hx
              rcases hx with rfl | hx
              · exact ⟨by simp only; omega, by simp only; omega⟩
              · exact h2 x hx

theorem p_l12Read_loop (s : List UInt8) (hs : s.length ≤ 20000) (a : List Int) : ∀ (m at0 : Nat) (acc : List TLit), m + acc.length ≤ 1000 → at0 ≤ s.length → l_spec_l12Read_124 M s at0 (a, ()) m acc = some (match rdB s m at0 with
    | none => .inr (([], 0, false, ()), ())
    | some (ls, e) => .inl ((e : Int), (a, ()), acc ++ ls, ())) := by
  intro m
  induction m with
  | zero =>
    intro at0 acc _ _
    apply el_spec_l12Read_124
    simp [ql_spec_l12Read_124, rdB]
  | succ m ih =>
    intro at0 acc hm ha
    apply el_spec_l12Read_124
    simp only [ql_spec_l12Read_124, rdB]
    have hr := p_l10Read s (by omega) at0 ha
    rw [if_pos (by simp <;> omega)]
    cases hv : rV s at0 with
    | none =>
      rw [hv] at hr
      simp only [ans] at hr
      rw [hr]
      rfl
    | some vc =>
      obtain ⟨v, c⟩ := vc
      rw [hv] at hr
      simp only [ans] at hr
      rw [hr]
      have hle := rV_le hv
      simp only [Option.bind_some]
      rw [if_neg (by simp)]
      by_cases h1 : 1 < v
      · rw [if_pos (by simp; omega), if_pos h1]
      · rw [if_neg (by simp; omega), if_neg h1]
        have hl := p_l10ReadList s (by omega) (at0 + c) hle.2
        cases hA : rA s (at0 + c) with
        | none =>
          rw [hA] at hl
          simp only [ansL] at hl
          rw [hl]
          rfl
        | some lp =>
          obtain ⟨l, p⟩ := lp
          rw [hA] at hl
          simp only [ansL] at hl
          rw [hl]
          have hp := rA_le hA
          simp only [Option.bind_some]
          rw [if_neg (by simp)]
          have hl2 := p_l10ReadList s (by omega) p hp
          cases hB : rA s p with
          | none =>
            rw [hB] at hl2
            simp only [ansL] at hl2
            rw [hl2]
            rfl
          | some rq =>
            obtain ⟨r, q⟩ := rq
            rw [hB] at hl2
            simp only [ansL] at hl2
            rw [hl2]
            have hq := rA_le hB
            simp only [Option.bind_some]
            rw [if_neg (by simp), if_pos (by simp only [List.length_cons, List.length_nil]; omega), w64 (x := ((m + 1 : Nat) : Int) - 1) (by omega) (by omega), show ((m + 1 : Nat) : Int) - 1 = (m : Int) by omega, ih q _ (by simp; omega) hq]
            cases rdB s m q with
            | none => rfl
            | some le => simp

/-- A clause at a place. -/
def rdCB (s : List UInt8) (at0 : Nat) : Option (List TLit × Nat) := match rV s at0 with
  | none => none
  | some (v, c) => if 8 < v then none else rdB s v (at0 + c)
def RB (a : List Int) (X : List UInt8) (p : Int) : (List TLit × Int × Bool × Unit) × Unit := if gS a = true ∧ X.length ≤ 20000 ∧ 0 ≤ p ∧ p ≤ X.length then
    match rdCB X p.toNat with
    | none => (([], 0, false, ()), ())
    | some (ls, e) => if clOK a ls = true then ((ls, (e : Int), true, ()), ()) else (([], 0, false, ()), ())
  else (([], 0, false, ()), ())

theorem p_spec_RB (s : TSign) (hs : s.1.length ≤ 1048576) (X : List UInt8) (p : Int) : c_spec_ReadClauseBytes M s X p = some (RB s.1 X p) := by
  apply e_spec_ReadClauseBytes
  simp only [q_spec_ReadClauseBytes, sign_eta, p_spec_GoodSign s (by omega), Option.bind_some]
  unfold RB
  cases hg : gS s.1 with
  | false => rw [if_pos (by rfl), if_neg (by simp)]
  | true =>
    rw [if_neg (by simp)]
    by_cases hX : X.length ≤ 20000
    · rw [if_neg (by simp; omega), p_l1In]
      simp only [Option.bind_some]
      by_cases hp : 0 ≤ p ∧ p ≤ X.length
      · rw [if_neg (by simp; omega), if_pos ⟨trivial, hX, hp⟩]
        obtain ⟨n, rfl⟩ : ∃ m : Nat, p = (m : Int) := ⟨p.toNat, by omega⟩
        have hr := p_l10Read X (by omega) n (by omega)
        have hR : c_spec_l12Read M s X (n : Int) = some (match rdCB X n with
            | none => (([], 0, false, ()), ())
            | some (ls, e) => if clOK s.1 ls = true then ((ls, (e : Int), true, ()), ()) else (([], 0, false, ()), ())) := by
          apply e_spec_l12Read
          simp only [q_spec_l12Read, sign_eta, rdCB]
          cases hv : rV X n with
          | none =>
            rw [hv] at hr
            simp only [ans] at hr
            rw [hr]
            rfl
          | some vc =>
            obtain ⟨v, c⟩ := vc
            rw [hv] at hr
            simp only [ans] at hr
            rw [hr]
            have hle := rV_le hv
            simp only [Option.bind_some]
            rw [if_neg (by simp)]
            by_cases h8 : 8 < v
            · rw [if_pos (by simp; omega), if_pos h8]
            · rw [if_neg (by simp; omega), if_neg h8]
              have hl := p_l12Read_loop X hX s.1 v (n + c) [] (by simp; omega) hle.2
              rw [show ((s.1, ()) : TSign) = s from rfl] at hl
              rw [hl]
              cases hB : rdB X v (n + c) with
              | none => rfl
              | some le =>
                obtain ⟨ls, e⟩ := le
                obtain ⟨k1, k2⟩ := rdB_ok v (n + c) ls e hB
                simp only [List.nil_append, Option.bind_some, Sum.elim_inl]
                rw [p_l4Clause s hg ls (by omega) k2]
                simp only [Option.bind_some]
                cases clOK s.1 ls with
                | false => rfl
                | true => rfl
        rw [hR]
        rfl
      · rw [if_pos (by simp; omega), if_neg (fun h => hp h.2.2)]
    · rw [if_pos (by simp; omega), if_neg (fun h => hX h.2.1)]

/-! ### The program's reader -/
theorem p_RV_out (X : List UInt8) (hX : X.length ≤ 20000) (p : Int) (hp : ¬ (0 ≤ p ∧ p ≤ X.length)) (hp2 : p < 9223372036854775808) : c_impl_ReadVarint M X p = some ((0, 0, false, ()), ()) := by
  apply e_impl_ReadVarint
  simp only [q_impl_ReadVarint]
  rw [if_neg (by simp; omega)]
  by_cases h0 : p < 0
  · rw [if_pos (by simpa using h0)]
  · have hl : l_impl_ReadVarint_122 M X p 0 0 = some (.inl ()) := by
      apply el_impl_ReadVarint_122
      simp only [ql_impl_ReadVarint_122]
      rw [if_pos (by simp), Int.add_zero, w64 (by omega) (by omega), if_neg (by simp; omega)]
    rw [if_neg (by simpa using h0), hl]
    rfl

abbrev TScan := List UInt8 × Int × Bool × Unit
theorem p_num_bad (X : List UInt8) (hX : X.length ≤ 20000) (n : Nat) (hn : n ≤ X.length) (most : Int) : c_impl_scanner_number M (X, (n : Int), true, ()) most = some ((0, ()), ((X, (n : Int), true, ()), ())) := by
  apply e_impl_scanner_number
  simp only [q_impl_scanner_number]
  rw [p_ReadVarint X (by omega) n (by omega)]
  simp only [Option.bind_some, ↓reduceIte]
theorem p_lst_bad (X : List UInt8) (hX : X.length ≤ 20000) (n : Nat) (hn : n ≤ X.length) : c_impl_scanner_list M (X, (n : Int), true, ()) = some (([], ()), ((X, (n : Int), true, ()), ())) := by
  apply e_impl_scanner_list
  simp only [q_impl_scanner_list]
  rw [p_impl_ReadList X (by omega) n (by omega)]
  simp only [Option.bind_some, ↓reduceIte]
theorem p_num (X : List UInt8) (hX : X.length ≤ 20000) (n : Nat) (hn : n ≤ X.length) (most : Nat) : c_impl_scanner_number M (X, (n : Int), false, ()) most = some (match rV X n with
    | none => ((0, ()), ((X, (n : Int), true, ()), ()))
    | some (v, c) => if most < v then ((0, ()), ((X, (n : Int), true, ()), ())) else (((v : Int), ()), ((X, ((n + c : Nat) : Int), false, ()), ()))) := by
  apply e_impl_scanner_number
  simp only [q_impl_scanner_number]
  have hr := p_ReadVarint X (by omega) n (by omega)
  cases hv : rV X n with
  | none =>
    rw [hv] at hr
    simp only [ans] at hr
    rw [hr]
    rfl
  | some vc =>
    obtain ⟨v, c⟩ := vc
    rw [hv] at hr
    simp only [ans] at hr
    rw [hr]
    simp only [Option.bind_some]
    rw [if_neg (by simp), if_neg (by simp)]
    by_cases h : most < v
    · rw [if_pos (by simp; omega), if_pos h]
    · rw [if_neg (by simp; omega), if_neg h]
theorem p_lst (X : List UInt8) (hX : X.length ≤ 20000) (n : Nat) (hn : n ≤ X.length) : c_impl_scanner_list M (X, (n : Int), false, ()) = some (match rA X n with
    | none => (([], ()), ((X, (n : Int), true, ()), ()))
    | some (l, p) => ((l, ()), ((X, (p : Int), false, ()), ()))) := by
  apply e_impl_scanner_list
  simp only [q_impl_scanner_list]
  have hr := p_impl_ReadList X (by omega) n (by omega)
  cases hv : rA X n with
  | none =>
    rw [hv] at hr
    simp only [ansL] at hr
    rw [hr]
    rfl
  | some vc =>
    obtain ⟨l, p⟩ := vc
    rw [hv] at hr
    simp only [ansL] at hr
    rw [hr]
    rfl

theorem p_scl_bad (X : List UInt8) (hX : X.length ≤ 20000) (n : Nat) (hn : n ≤ X.length) (cnt : Nat) (hc : cnt ≤ 8) : ∀ (m i : Nat) (acc : List TLit), i + m = cnt → acc.length ≤ i → ∃ o : List TLit, l_impl_scanner_clause_58 M (X, (n : Int), true, ()) acc cnt i = some (.inl ((X, (n : Int), true, ()), o, ())) := by
  intro m
  induction m with
  | zero =>
    intro i acc hi _
    refine ⟨acc, el_impl_scanner_clause_58 _ _ _ _ ?_⟩
    simp only [ql_impl_scanner_clause_58]
    rw [if_neg (by simp; omega)]
  | succ m ih =>
    intro i acc hi ha
    obtain ⟨o, ho⟩ := ih (i + 1) (acc ++ [(false, [], [], ())]) (by omega) (by simp; omega)
    refine ⟨o, el_impl_scanner_clause_58 _ _ _ _ ?_⟩
    simp only [ql_impl_scanner_clause_58]
    rw [if_pos (by simp; omega), p_num_bad X hX n hn 1]
    simp only [Option.bind_some]
    rw [p_lst_bad X hX n hn]
    simp only [Option.bind_some]
    rw [p_lst_bad X hX n hn]
    simp only [Option.bind_some]
    rw [if_pos (by simp only [List.length_cons, List.length_nil]; omega), inc_nat (by omega)]
    exact ho

theorem p_scl (X : List UInt8) (hX : X.length ≤ 20000) (cnt : Nat) (hc : cnt ≤ 8) : ∀ (m i n : Nat) (acc : List TLit), i + m = cnt → acc.length ≤ i → n ≤ X.length →
    ∃ (st : TScan) (o : List TLit), l_impl_scanner_clause_58 M (X, (n : Int), false, ()) acc cnt i = some (.inl (st, o, ())) ∧ (match rdB X m n with
      | none => st.2.2.1 = true
      | some (ls, e) => st = (X, (e : Int), false, ()) ∧ o = acc ++ ls) := by
  intro m
  induction m with
  | zero =>
    intro i n acc hi _ _
    refine ⟨(X, (n : Int), false, ()), acc, el_impl_scanner_clause_58 _ _ _ _ ?_, by simp [rdB]⟩
    simp only [ql_impl_scanner_clause_58]
    rw [if_neg (by simp; omega)]
  | succ m ih =>
    intro i n acc hi ha hn
    have pre : ∀ R, ((c_impl_scanner_number M (X, (n : Int), false, ()) (1 : Int)).bind fun r1 => ((c_impl_scanner_list M (r1.2.1.1, r1.2.1.2.1, r1.2.1.2.2.1, ())).bind fun r2 => ((c_impl_scanner_list M (r2.2.1.1, r2.2.1.2.1, r2.2.1.2.2.1, ())).bind fun r3 => (if (List.length acc + List.length ([((r1.1.1 == (1 : Int)), r2.1.1, r3.1.1, ())] : List (Bool × (List Int) × (List Int) × Unit))) * 56 ≤ 140737488355328 then (l_impl_scanner_clause_58 M (r3.2.1.1, r3.2.1.2.1, r3.2.1.2.2.1, ()) (acc ++ ([((r1.1.1 == (1 : Int)), r2.1.1, r3.1.1, ())] : List (Bool × (List Int) × (List Int) × Unit))) cnt ((i + 1 : Nat) : Int)) else none)))) = some R → l_impl_scanner_clause_58 M (X, (n : Int), false, ()) acc cnt i = some R := by
      intro R hR
      apply el_impl_scanner_clause_58
      simp only [ql_impl_scanner_clause_58]
      rw [if_pos (by simp; omega), inc_nat (by omega)]
      exact hR
    have hnum := p_num X hX n hn 1
    rw [show ((1 : Nat) : Int) = 1 from rfl] at hnum
    simp only [rdB]
    cases hv : rV X n with
    | none =>
      rw [hv] at hnum
      simp only at hnum
      obtain ⟨o, ho⟩ := p_scl_bad X hX n hn cnt hc m (i + 1) (acc ++ [(false, [], [], ())]) (by omega) (by simp; omega)
      refine ⟨(X, (n : Int), true, ()), o, pre _ ?_, rfl⟩
      rw [hnum]
      simp only [Option.bind_some]
      rw [p_lst_bad X hX n hn]
      simp only [Option.bind_some]
      rw [p_lst_bad X hX n hn]
      simp only [Option.bind_some]
      rw [if_pos (by simp only [List.length_cons, List.length_nil]; omega)]
      exact ho
    | some vc =>
      obtain ⟨v, c⟩ := vc
      rw [hv] at hnum
      simp only at hnum
      have hle := rV_le hv
      by_cases h1 : 1 < v
      · rw [if_pos h1] at hnum
        obtain ⟨o, ho⟩ := p_scl_bad X hX n hn cnt hc m (i + 1) (acc ++ [(false, [], [], ())]) (by omega) (by simp; omega)
        refine ⟨(X, (n : Int), true, ()), o, pre _ ?_, by simp [h1]⟩
        rw [hnum]
        simp only [Option.bind_some]
        rw [p_lst_bad X hX n hn]
        simp only [Option.bind_some]
        rw [p_lst_bad X hX n hn]
        simp only [Option.bind_some]
        rw [if_pos (by simp only [List.length_cons, List.length_nil]; omega)]
        exact ho
      · rw [if_neg h1] at hnum
        simp only [if_neg h1]
        have hl := p_lst X hX (n + c) hle.2
        cases hA : rA X (n + c) with
        | none =>
          rw [hA] at hl
          simp only at hl
          obtain ⟨o, ho⟩ := p_scl_bad X hX (n + c) hle.2 cnt hc m (i + 1) (acc ++ [(((v : Int) == 1), [], [], ())]) (by omega) (by simp; omega)
          refine ⟨(X, ((n + c : Nat) : Int), true, ()), o, pre _ ?_, rfl⟩
          rw [hnum]
          simp only [Option.bind_some]
          rw [hl]
          simp only [Option.bind_some]
          rw [p_lst_bad X hX (n + c) hle.2]
          simp only [Option.bind_some]
          rw [if_pos (by simp only [List.length_cons, List.length_nil]; omega)]
          exact ho
        | some lp =>
          obtain ⟨l, p⟩ := lp
          rw [hA] at hl
          simp only at hl
          have hp := rA_le hA
          have hl2 := p_lst X hX p hp
          simp only
          cases hB : rA X p with
          | none =>
            rw [hB] at hl2
            simp only at hl2
            obtain ⟨o, ho⟩ := p_scl_bad X hX p hp cnt hc m (i + 1) (acc ++ [(((v : Int) == 1), l, [], ())]) (by omega) (by simp; omega)
            refine ⟨(X, (p : Int), true, ()), o, pre _ ?_, rfl⟩
            rw [hnum]
            simp only [Option.bind_some]
            rw [hl]
            simp only [Option.bind_some]
            rw [hl2]
            simp only [Option.bind_some]
            rw [if_pos (by simp only [List.length_cons, List.length_nil]; omega)]
            exact ho
          | some rq =>
            obtain ⟨r, q⟩ := rq
            rw [hB] at hl2
            simp only at hl2
            have hq := rA_le hB
            obtain ⟨st, o, h2, h3⟩ := ih (i + 1) q (acc ++ [(((v : Int) == 1), l, r, ())]) (by omega) (by simp; omega) hq
            refine ⟨st, o, pre _ ?_, ?_⟩
            · rw [hnum]
              simp only [Option.bind_some]
              rw [hl]
              simp only [Option.bind_some]
              rw [hl2]
              simp only [Option.bind_some]
              rw [if_pos (by simp only [List.length_cons, List.length_nil]; omega)]
              exact h2
            · simp only
              cases hk : rdB X m q with
              | none => rw [hk] at h3; exact h3
              | some le =>
                obtain ⟨ls, e⟩ := le
                rw [hk] at h3
                simp only at h3 ⊢
                exact ⟨h3.1, by rw [h3.2]; simp⟩

theorem p_impl_RB (s : TSign) (hs : s.1.length ≤ 1048576) (X : List UInt8) (p : Int) (hp2 : p < 9223372036854775808) : c_impl_ReadClauseBytes M s X p = some (RB s.1 X p) := by
  apply e_impl_ReadClauseBytes
  simp only [q_impl_ReadClauseBytes, sign_eta, p_impl_GoodSign s (by omega), Option.bind_some]
  unfold RB
  cases hg : gS s.1 with
  | false => rw [if_pos (by rfl), if_neg (by simp)]
  | true =>
    rw [if_neg (by simp)]
    by_cases hX : X.length ≤ 20000
    · rw [if_neg (by simp; omega)]
      by_cases hp : 0 ≤ p ∧ p ≤ X.length
      · rw [if_pos ⟨rfl, hX, hp⟩]
        obtain ⟨n, rfl⟩ : ∃ m : Nat, p = (m : Int) := ⟨p.toNat, by omega⟩
        have hnum := p_num X hX n (by omega) 8
        rw [show ((8 : Nat) : Int) = 8 from rfl] at hnum
        have bad : c_impl_scanner_number M (X, (n : Int), false, ()) 8 = some ((0, ()), ((X, (n : Int), true, ()), ())) → c_impl_scanner_clause M (X, (n : Int), false, ()) = some (([], ()), ((X, (n : Int), true, ()), ())) := by
          intro h
          apply e_impl_scanner_clause
          simp only [q_impl_scanner_clause]
          rw [h]
          have hl : l_impl_scanner_clause_58 M (X, (n : Int), true, ()) [] 0 0 = some (.inl ((X, (n : Int), true, ()), [], ())) := by
            apply el_impl_scanner_clause_58
            simp [ql_impl_scanner_clause_58]
          simp only [Option.bind_some]
          rw [hl]
          rfl
        rw [Int.toNat_natCast]
        unfold rdCB
        cases hv : rV X n with
        | none =>
          rw [hv] at hnum
          rw [bad hnum]
          rfl
        | some vc =>
          obtain ⟨v, c⟩ := vc
          rw [hv] at hnum
          simp only at hnum
          have hle := rV_le hv
          by_cases h8 : 8 < v
          · rw [if_pos h8] at hnum
            rw [bad hnum]
            simp only [if_pos h8]
            rfl
          · rw [if_neg h8] at hnum
            simp only [if_neg h8]
            obtain ⟨st, o, k1, k2⟩ := p_scl X hX v (by omega) v 0 (n + c) [] (by omega) (by simp) hle.2
            rw [show ((0 : Nat) : Int) = 0 from rfl] at k1
            have hcl : c_impl_scanner_clause M (X, (n : Int), false, ()) = some ((o, ()), (st, ())) := by
              apply e_impl_scanner_clause
              simp only [q_impl_scanner_clause]
              rw [hnum]
              simp only [Option.bind_some]
              rw [k1]
              rfl
            rw [hcl]
            simp only [Option.bind_some]
            cases hB : rdB X v (n + c) with
            | none =>
              rw [hB] at k2
              simp only at k2
              rw [if_pos k2]
            | some le =>
              obtain ⟨ls, e⟩ := le
              rw [hB] at k2
              obtain ⟨j1, j2⟩ := rdB_ok v (n + c) ls e hB
              simp only [List.nil_append] at k2
              obtain ⟨rfl, rfl⟩ := k2
              rw [if_neg (by simp), p_isClause s hg o (by omega)]
              simp only [Option.bind_some]
              cases clOK s.1 o with
              | false => rfl
              | true => rfl
      · have hnum : c_impl_scanner_number M (X, p, false, ()) 8 = some ((0, ()), ((X, p, true, ()), ())) := by
          apply e_impl_scanner_number
          simp only [q_impl_scanner_number]
          rw [p_RV_out X hX p hp hp2]
          rfl
        have hcl : c_impl_scanner_clause M (X, p, false, ()) = some (([], ()), ((X, p, true, ()), ())) := by
          apply e_impl_scanner_clause
          simp only [q_impl_scanner_clause]
          rw [hnum]
          have hl : l_impl_scanner_clause_58 M (X, p, true, ()) [] 0 0 = some (.inl ((X, p, true, ()), [], ())) := by
            apply el_impl_scanner_clause_58
            simp [ql_impl_scanner_clause_58]
          simp only [Option.bind_some]
          rw [hl]
          rfl
        rw [hcl, if_neg (fun h => hp h.2.2)]
        rfl
    · rw [if_pos (by simp; omega), if_neg (fun h => hX h.2.1)]

theorem RB_sm (a : List Int) (X : List UInt8) (p : Int) : (RB a X p).1.1.length ≤ 8 ∧ ∀ x ∈ (RB a X p).1.1, smL x := by
  unfold RB rdCB
  split
  · split
    · simp
    · rename_i ls e h
      split at h
      · cases h
      · rename_i v c hv
        split at h
        · cases h
        · obtain ⟨k1, k2⟩ := rdB_ok _ _ _ _ h
          split
          · exact ⟨by simp only; omega, k2⟩
          · simp
  · simp

theorem p_FnExactReadClauseBytes (s : TSign) (X : List UInt8) (p : Int) (hs : s.1.length ≤ 9223372036854775807) (hp : p < 9223372036854775808) : c_laws_FnExactReadClauseBytes M s X p = some ((true, ()), ()) := by
  apply e_laws_FnExactReadClauseBytes
  simp only [q_laws_FnExactReadClauseBytes]
  by_cases h0 : (X.length : Int) > 1048576
  · rw [if_pos (by simpa using h0)]
  · rw [if_neg (by simpa using h0)]
    obtain ⟨r1, e1, g1, k1⟩ := p_szSign s 1048576 (by omega) (by omega) hs
    simp only [sign_eta, e1, Option.bind_some]
    by_cases h1 : r1 < 0
    · rw [if_pos (by simpa using h1)]
    · rw [if_neg (by simpa using h1)]
      have hs' := k1 (by omega)
      obtain ⟨o1, o2⟩ := RB_sm s.1 X p
      have b2 := totL_le (RB s.1 X p).1.1 o2
      have m1 := p_markSign s 1 (by omega) (by omega)
      have m3 := p_markLitS (RB s.1 X p).1.1 1 (by omega) (by omega) (by omega)
      have m4 := p_heldLitS (RB s.1 X p).1.1 1 (by omega) (by omega) (by omega)
      simp only [p_toSign s (by omega), p_spec_RB s hs' X p, p_impl_RB s hs' X p hp, p_eqSign s (by omega), p_eqLitS (RB s.1 X p).1.1 (by omega) o2, m1, m3, m4, Option.bind_some]
      simp
      rw [if_neg (by omega), if_neg (by omega), if_neg (by omega)]

end Go.Proofs.YtofkhmedmeihiaaRb.Ev
