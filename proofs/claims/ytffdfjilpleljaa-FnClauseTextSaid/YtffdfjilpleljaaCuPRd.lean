/- Plain laws: reading a clause: both programs read the same, and fail at the same place. No condition but sizes. -/
import Derived.Test.YtffdfjilpleljaaCuPRc
import Derived.Test.YtffdfjilpleljaaCuPEa
namespace Go.Proofs.YtffdfjilpleljaaCu.Ev
open Go
set_option autoImplicit false
set_option linter.unusedVariables false
set_option linter.unusedSimpArgs false

/-- Literals. -/
def rdL (a : List Int) (F : Nat) : Nat → List UInt8 → Rd (List TLit)
  | 0, _ => .bad 0
  | k + 1, r => match rdT a F r with
    | .bad c => .bad c
    | .ok l c => match r.drop c with
      | [] => .bad c
      | b :: r1 => if b.toNat = 61 ∨ b.toNat = 35 then match rdT a F r1 with
          | .bad c2 => .bad (c + 1 + c2)
          | .ok t c2 => match r1.drop c2 with
            | [] => .ok [(((b.toNat : Int) == 61), l, t, ())] (c + 1 + c2)
            | b2 :: r2 => if b2.toNat = 124 then match rdL a F k r2 with
                | .bad c3 => .bad (c + 1 + c2 + 1 + c3)
                | .ok ls c3 => .ok ((((b.toNat : Int) == 61), l, t, ()) :: ls) (c + 1 + c2 + 1 + c3)
              else .bad (c + 1 + c2)
        else .bad c

def spL (at0 : Nat) (acc : List TLit) : Rd (List TLit) → (List TLit × Int × Bool × Unit) × Unit
  | .bad c => (([], ((at0 + c : Nat) : Int), false, ()), ())
  | .ok t c => ((acc ++ t, ((at0 + c : Nat) : Int), true, ()), ())

theorem p_l4Read_loop {a : List Int} (hg : gS a = true) (X : List UInt8) (hX : X.length ≤ 1000) (F : Nat) (hF : X.length < F) : ∀ (k at0 : Nat) (acc : List TLit), at0 ≤ X.length → X.length - at0 < k → acc.length ≤ at0 → l_spec_l4Read_126 M X (a, ()) acc at0 = some (.inr (spL at0 acc (rdL a F k (X.drop at0)))) := by
  intro k
  induction k with
  | zero => intro at0 acc _ h; omega
  | succ k ih =>
    intro at0 acc ha hk hacc
    apply el_spec_l4Read_126
    simp only [ql_spec_l4Read_126]
    have hs := p_spT hg X hX F at0 ha (by omega)
    simp only [rdL]
    have h1 := rdT_le (a := a) F (X.drop at0)
    cases hr1 : rdT a F (X.drop at0) with
    | bad c =>
      rw [hr1] at hs
      simp only [spT] at hs
      rw [hs]
      simp [spL]
    | ok l c =>
      rw [hr1] at h1 hs
      simp only [spT] at hs
      rw [hs]
      simp only [Option.bind_some]
      have g1 := h1.1
      simp only [Rd.within, List.length_drop] at g1
      rw [if_neg (by simp), List.drop_drop]
      by_cases he : at0 + c = X.length
      · rw [if_pos (by simp [← he]), List.drop_eq_nil_of_le (by omega)]
        rfl
      · have hlt : at0 + c < X.length := by omega
        rw [if_neg (by simp; omega), idx_lt hlt, List.drop_eq_getElem_cons hlt, inc_nat (by omega)]
        simp only [Option.bind_some]
        have key : (X[at0 + c].toNat = 61 ∨ X[at0 + c].toNat = 35) → ((c_spec_l1ReadTerm M (a, ()) X ((at0 + c + 1 : Nat) : Int)).bind fun r7 => (if (!r7.1.2.2.1) = true then (some (.inr (([], r7.1.2.1, false, ()), ()))) else (if (List.length acc + List.length ([((((UInt8.toNat X[at0 + c] : Nat) : Int) == (61 : Int)), l, r7.1.1, ())] : List (Bool × (List Int) × (List Int) × Unit))) * 56 ≤ 140737488355328 then (if (r7.1.2.1 == (List.length X : Int)) = true then (some (.inr (((acc ++ ([((((UInt8.toNat X[at0 + c] : Nat) : Int) == (61 : Int)), l, r7.1.1, ())] : List (Bool × (List Int) × (List Int) × Unit))), r7.1.2.1, true, ()), ()))) else ((idx X r7.1.2.1).bind fun b9 => (if (((UInt8.toNat b9 : Nat) : Int) != (124 : Int)) = true then (some (.inr (([], r7.1.2.1, false, ()), ()))) else (l_spec_l4Read_126 M X (a, ()) (acc ++ ([((((UInt8.toNat X[at0 + c] : Nat) : Int) == (61 : Int)), l, r7.1.1, ())] : List (Bool × (List Int) × (List Int) × Unit))) (IntKind.i64.wrap (r7.1.2.1 + (1 : Int))))))) else none))) = some (.inr (spL at0 acc (match rdT a F (X.drop (at0 + c + 1)) with
          | .bad c2 => .bad (c + 1 + c2)
          | .ok t c2 => match (X.drop (at0 + c + 1)).drop c2 with
            | [] => .ok [(((X[at0 + c].toNat : Int) == 61), l, t, ())] (c + 1 + c2)
            | b2 :: r2 => if b2.toNat = 124 then match rdL a F k r2 with
                | .bad c3 => .bad (c + 1 + c2 + 1 + c3)
                | .ok ls c3 => .ok ((((X[at0 + c].toNat : Int) == 61), l, t, ()) :: ls) (c + 1 + c2 + 1 + c3)
              else .bad (c + 1 + c2)))) := by
          intro hb
          have hs2 := p_spT hg X hX F (at0 + c + 1) (by omega) (by omega)
          have h2 := rdT_le (a := a) F (X.drop (at0 + c + 1))
          cases hr2 : rdT a F (X.drop (at0 + c + 1)) with
          | bad c2 =>
            rw [hr2] at hs2
            simp only [spT] at hs2
            rw [hs2]
            simp only [Option.bind_some, spL]
            rw [if_pos (by simp), show at0 + c + 1 + c2 = at0 + (c + 1 + c2) by omega]
          | ok t c2 =>
            rw [hr2] at h2 hs2
            simp only [spT] at hs2
            rw [hs2]
            simp only [Option.bind_some]
            have g2 := h2.1
            simp only [Rd.within, List.length_drop] at g2
            rw [if_neg (by simp), if_pos (by simp only [List.length_cons, List.length_nil]; omega), List.drop_drop]
            by_cases he2 : at0 + c + 1 + c2 = X.length
            · rw [if_pos (by simp [← he2]), List.drop_eq_nil_of_le (by omega)]
              simp only [spL]
              rw [show at0 + c + 1 + c2 = at0 + (c + 1 + c2) by omega]
            · have hlt2 : at0 + c + 1 + c2 < X.length := by omega
              rw [if_neg (by simp; omega), idx_lt hlt2, List.drop_eq_getElem_cons hlt2, inc_nat (by omega)]
              simp only [Option.bind_some]
              by_cases hb2 : X[at0 + c + 1 + c2].toNat = 124
              · rw [if_neg (by simp [hb2]), if_pos hb2, ih (at0 + c + 1 + c2 + 1) _ (by omega) (by omega) (by simp; omega)]
                cases rdL a F k (X.drop (at0 + c + 1 + c2 + 1)) with
                | bad c3 => simp only [spL]; rw [show at0 + c + 1 + c2 + 1 + c3 = at0 + (c + 1 + c2 + 1 + c3) by omega]
                | ok ls c3 => simp only [spL, List.append_assoc, List.cons_append, List.nil_append]; rw [show at0 + c + 1 + c2 + 1 + c3 = at0 + (c + 1 + c2 + 1 + c3) by omega]
              · rw [if_pos (by simp; omega), if_neg hb2]
                simp only [spL]
                rw [show at0 + c + 1 + c2 = at0 + (c + 1 + c2) by omega]
        by_cases h61 : X[at0 + c].toNat = 61
        · rw [if_neg (by simp [h61]), if_pos (.inl h61)]
          exact key (.inl h61)
        · rw [if_pos (by simp; omega)]
          by_cases h35 : X[at0 + c].toNat = 35
          · rw [if_neg (by simp [h35]), if_pos (.inr h35)]
            exact key (.inr h35)
          · rw [if_pos (by simp; omega), if_neg (by omega)]
            simp only [spL]

theorem rdL_le {a : List Int} {F : Nat} : ∀ (k : Nat) (r : List UInt8), (rdL a F k r).within r.length ∧ ∀ t c, rdL a F k r = .ok t c → c = r.length ∧ t.length ≤ c ∧ 0 < t.length ∧ r.head? ≠ some 45
  | 0, _ => ⟨Nat.zero_le _, fun t c h => by simp [rdL] at h⟩
  | k + 1, r => by
    simp only [rdL]
    have h1 := rdT_le (a := a) F r
    cases hr1 : rdT a F r with
    | bad c => rw [hr1] at h1; exact ⟨h1.1, fun t c h => by simp at h⟩
    | ok l c =>
      rw [hr1] at h1
      have g1 := h1.1
      simp only [Rd.within] at g1
      have hh : r.head? ≠ some 45 := by
        intro hh
        cases r with
        | nil => simp at hh
        | cons b r =>
          simp only [List.head?_cons, Option.some.injEq] at hh
          subst hh
          cases F with
          | zero => simp [rdT] at hr1
          | succ F => simp [rdT] at hr1
      simp only
      cases hd : r.drop c with
      | nil => exact ⟨g1, fun t c h => by simp at h⟩
      | cons b r1 =>
        have hl := congrArg List.length hd
        simp only [List.length_drop, List.length_cons] at hl
        simp only
        split
        · have h2 := rdT_le (a := a) F r1
          cases hr2 : rdT a F r1 with
          | bad c2 =>
            rw [hr2] at h2
            have g2 := h2.1
            simp only [Rd.within] at g2
            exact ⟨by simp only [Rd.within]; omega, fun t c h => by simp at h⟩
          | ok t c2 =>
            rw [hr2] at h2
            have g2 := h2.1
            simp only [Rd.within] at g2
            simp only
            cases hd2 : r1.drop c2 with
            | nil =>
              have hl2 := congrArg List.length hd2
              simp only [List.length_drop, List.length_nil] at hl2
              exact ⟨by simp only [Rd.within]; omega, fun t c h => by
                simp only [Rd.ok.injEq] at h
                rw [← h.1, ← h.2]
                exact ⟨by omega, by simp; omega, by simp, hh⟩⟩
            | cons b2 r2 =>
              have hl2 := congrArg List.length hd2
              simp only [List.length_drop, List.length_cons] at hl2
              simp only
              split
              · have h3 := rdL_le (a := a) (F := F) k r2
                cases hr3 : rdL a F k r2 with
                | bad c3 =>
                  rw [hr3] at h3
                  have g3 := h3.1
                  simp only [Rd.within] at g3
                  exact ⟨by simp only [Rd.within]; omega, fun t c h => by simp at h⟩
                | ok ls c3 =>
                  rw [hr3] at h3
                  have g3 := h3.2 ls c3 rfl
                  exact ⟨by simp only [Rd.within]; omega, fun t c h => by
                    simp only [Rd.ok.injEq] at h
                    rw [← h.1, ← h.2]
                    exact ⟨by omega, by simp; omega, by simp, hh⟩⟩
              · exact ⟨by simp only [Rd.within]; omega, fun t c h => by simp at h⟩
        · exact ⟨g1, fun t c h => by simp at h⟩

def imL (a : List Int) (X : List UInt8) (i : Nat) (acc : List TLit) : Rd (List TLit) → (List TLit × Unit) × (TP × Unit) → Prop
  | .bad c, r => ∃ b, r.2.1 = mkP a X (i + c) b ∧ (b = true ∨ i + c < X.length)
  | .ok ls c, r => r = ((acc ++ ls, ()), (mkP a X (i + c) false, ()))

theorem p_clause_loop {a : List Int} (hg : gS a = true) (X : List UInt8) (hX : X.length ≤ 1000) (F : Nat) (hF : X.length < F) : ∀ (k i : Nat) (acc : List TLit), i ≤ X.length → X.length - i < k → acc.length ≤ i → ∃ r, l_impl_parser_clause_30 M (mkQ a X i false) acc = some (.inr r) ∧ imL a X i acc (rdL a F k (X.drop i)) r := by
  intro k
  induction k with
  | zero => intro i acc _ h; omega
  | succ k ih =>
    intro i acc hi hk hacc
    obtain ⟨⟨⟨l, ⟨⟩⟩, ⟨p1, ⟨⟩⟩⟩, t1, t2⟩ := p_imT hg X hX F i hi (by omega)
    have t1' : c_impl_parser_term M (((mkQ a X i false).1, ()), (mkQ a X i false).2.1, (mkQ a X i false).2.2.1, (mkQ a X i false).2.2.2.1, (mkQ a X i false).2.2.2.2.1, ()) = some ((l, ()), (p1, ())) := t1
    have h1 := rdT_le (a := a) F (X.drop i)
    cases hr1 : rdT a F (X.drop i) with
    | bad c =>
      rw [hr1] at t2
      obtain ⟨t3, -⟩ := t2
      simp only at t3
      subst t3
      refine ⟨(([], ()), (mkP a X (i + c) true, ())), el_impl_parser_clause_30 _ _ ?_, ?_⟩
      · simp only [ql_impl_parser_clause_30]
        rw [t1']
        simp only [Option.bind_some, ↓reduceIte]
      · simp only [rdL, hr1, imL]
        exact ⟨true, rfl, .inl rfl⟩
    | ok x c =>
      rw [hr1] at t2 h1
      have g1 := h1.1
      simp only [Rd.within, List.length_drop] at g1
      simp only [imT, Prod.mk.injEq, and_true] at t2
      obtain ⟨rfl, rfl⟩ := t2
      have s1 := p_take a X (i + c) (by omega) false [61, 35] (by simp)
      have s1' := s1
      rw [show mkP a X (i + c) false = (((mkP a X (i + c) false).1.1, ()), (mkP a X (i + c) false).2.1, (mkP a X (i + c) false).2.2.1, (mkP a X (i + c) false).2.2.2.1, (mkP a X (i + c) false).2.2.2.2.1, ()) from rfl] at s1'
      have pre1 : ∀ R, (c_impl_parser_take M (mkP a X (i + c) false) ([61, 35] : List UInt8)).bind (fun r2 => (if r2.2.1.2.2.2.2.1 = true then (some (.inr (([], ()), (((r2.2.1.1.1, ()), r2.2.1.2.1, r2.2.1.2.2.1, r2.2.1.2.2.2.1, r2.2.1.2.2.2.2.1, ()), ())))) else ((c_impl_parser_term M ((r2.2.1.1.1, ()), r2.2.1.2.1, r2.2.1.2.2.1, r2.2.1.2.2.2.1, r2.2.1.2.2.2.2.1, ())).bind fun r3 => (if r3.2.1.2.2.2.2.1 = true then (some (.inr (([], ()), (((r3.2.1.1.1, ()), r3.2.1.2.1, r3.2.1.2.2.1, r3.2.1.2.2.2.1, r3.2.1.2.2.2.2.1, ()), ())))) else (if (List.length acc + List.length ([((r2.1.1 == (61 : Int)), l, r3.1.1, ())] : List (Bool × (List Int) × (List Int) × Unit))) * 56 ≤ 140737488355328 then ((c_impl_parser_next M ((r3.2.1.1.1, ()), r3.2.1.2.1, r3.2.1.2.2.1, r3.2.1.2.2.2.1, r3.2.1.2.2.2.2.1, ())).bind fun r4 => (if (r4.1.1 != (124 : Int)) = true then (some (.inr (((acc ++ ([((r2.1.1 == (61 : Int)), l, r3.1.1, ())] : List (Bool × (List Int) × (List Int) × Unit))), ()), (((r4.2.1.1.1, ()), r4.2.1.2.1, r4.2.1.2.2.1, r4.2.1.2.2.2.1, r4.2.1.2.2.2.2.1, ()), ())))) else (l_impl_parser_clause_30 M (r4.2.1.1.1, r4.2.1.2.1, (IntKind.i64.wrap (r4.2.1.2.2.1 + (1 : Int))), r4.2.1.2.2.2.1, r4.2.1.2.2.2.2.1, ()) (acc ++ ([((r2.1.1 == (61 : Int)), l, r3.1.1, ())] : List (Bool × (List Int) × (List Int) × Unit)))))) else none))))) = some R → l_impl_parser_clause_30 M (mkQ a X i false) acc = some R := by
        intro R hR
        apply el_impl_parser_clause_30
        simp only [ql_impl_parser_clause_30]
        rw [t1']
        simp only [Option.bind_some]
        rw [if_neg (by simp)]
        exact hR
      simp only [rdL, hr1, List.drop_drop]
      by_cases he : i + c = X.length
      · rw [nx_end (by omega), if_neg (by simp)] at s1
        refine ⟨(([], ()), (mkP a X (i + c) true, ())), pre1 _ ?_, ?_⟩
        · rw [s1]; rfl
        · rw [List.drop_eq_nil_of_le (by omega)]
          exact ⟨true, rfl, .inl rfl⟩
      · have hlt : i + c < X.length := by omega
        rw [nx_get hlt] at s1
        rw [List.drop_eq_getElem_cons hlt]
        simp only
        by_cases hb : X[i + c].toNat = 61 ∨ X[i + c].toNat = 35
        · rw [if_pos ⟨by simp; omega, by omega⟩] at s1
          rw [if_pos hb]
          obtain ⟨⟨⟨t, ⟨⟩⟩, ⟨p2, ⟨⟩⟩⟩, u1, u2⟩ := p_imT hg X hX F (i + c + 1) (by omega) (by omega)
          have h2 := rdT_le (a := a) F (X.drop (i + c + 1))
          have u1' : c_impl_parser_term M (((mkP a X (i + c + 1) false).1.1, ()), (mkP a X (i + c + 1) false).2.1, (mkP a X (i + c + 1) false).2.2.1, (mkP a X (i + c + 1) false).2.2.2.1, (mkP a X (i + c + 1) false).2.2.2.2.1, ()) = some ((t, ()), (p2, ())) := u1
          cases hr2 : rdT a F (X.drop (i + c + 1)) with
          | bad c2 =>
            rw [hr2] at u2
            obtain ⟨u3, -⟩ := u2
            simp only at u3
            subst u3
            refine ⟨(([], ()), (mkP a X (i + c + 1 + c2) true, ())), pre1 _ ?_, ?_⟩
            · rw [s1]
              simp only [Option.bind_some]
              rw [if_neg (by simp), u1']
              rfl
            · exact ⟨true, by rw [show i + (c + 1 + c2) = i + c + 1 + c2 by omega], .inl rfl⟩
          | ok y c2 =>
            rw [hr2] at u2 h2
            have g2 := h2.1
            simp only [Rd.within, List.length_drop] at g2
            simp only [imT, Prod.mk.injEq, and_true] at u2
            obtain ⟨rfl, rfl⟩ := u2
            have n1 := p_nextP a X (i + c + 1 + c2) false
            have n1' : c_impl_parser_next M (((mkP a X (i + c + 1 + c2) false).1.1, ()), (mkP a X (i + c + 1 + c2) false).2.1, (mkP a X (i + c + 1 + c2) false).2.2.1, (mkP a X (i + c + 1 + c2) false).2.2.2.1, (mkP a X (i + c + 1 + c2) false).2.2.2.2.1, ()) = some (((nx X (i + c + 1 + c2) false : Int), ()), (mkP a X (i + c + 1 + c2) false, ())) := n1
            have pre2 : ∀ R, (if ((nx X (i + c + 1 + c2) false : Int) != (124 : Int)) = true then (some (.inr (((acc ++ [(((X[i + c].toNat : Int) == (61 : Int)), l, t, ())]), ()), (mkP a X (i + c + 1 + c2) false, ())))) else (l_impl_parser_clause_30 M (a, X, (IntKind.i64.wrap (((i + c + 1 + c2 : Nat) : Int) + (1 : Int))), 12, false, ()) (acc ++ [(((X[i + c].toNat : Int) == (61 : Int)), l, t, ())]))) = some R → l_impl_parser_clause_30 M (mkQ a X i false) acc = some R := by
              intro R hR
              apply pre1
              rw [s1]
              simp only [Option.bind_some]
              rw [if_neg (by simp), u1']
              simp only [Option.bind_some]
              rw [if_neg (by simp), if_pos (by simp only [List.length_cons, List.length_nil]; omega), n1']
              exact hR
            simp only [List.drop_drop]
            by_cases he2 : i + c + 1 + c2 = X.length
            · rw [nx_end (by omega)] at pre2
              refine ⟨_, pre2 _ (if_pos (by simp)), ?_⟩
              rw [List.drop_eq_nil_of_le (by omega)]
              simp only [imL]
              rw [show i + (c + 1 + c2) = i + c + 1 + c2 by omega]
            · have hlt2 : i + c + 1 + c2 < X.length := by omega
              rw [nx_get hlt2] at pre2
              rw [List.drop_eq_getElem_cons hlt2]
              simp only
              by_cases hb2 : X[i + c + 1 + c2].toNat = 124
              · obtain ⟨r, r1, r2⟩ := ih (i + c + 1 + c2 + 1) (acc ++ [(((X[i + c].toNat : Int) == (61 : Int)), l, t, ())]) (by omega) (by omega) (by simp; omega)
                refine ⟨r, pre2 _ (by rw [if_neg (by simp [hb2]), inc_nat (by omega)]; exact r1), ?_⟩
                rw [if_pos hb2]
                cases hr3 : rdL a F k (X.drop (i + c + 1 + c2 + 1)) with
                | bad c3 =>
                  rw [hr3] at r2
                  simp only [imL] at r2 ⊢
                  rw [show i + (c + 1 + c2 + 1 + c3) = i + c + 1 + c2 + 1 + c3 by omega]
                  exact r2
                | ok ls c3 =>
                  rw [hr3] at r2
                  simp only [imL] at r2 ⊢
                  rw [show i + (c + 1 + c2 + 1 + c3) = i + c + 1 + c2 + 1 + c3 by omega, r2]
                  simp
              · refine ⟨_, pre2 _ (if_pos (by simp; omega)), ?_⟩
                rw [if_neg hb2]
                exact ⟨false, by rw [show i + (c + 1 + c2) = i + c + 1 + c2 by omega], .inr (by omega)⟩
        · rw [if_neg (fun hh => by have := hh.1; simp at this; omega)] at s1
          rw [if_neg hb]
          refine ⟨(([], ()), (mkP a X (i + c) true, ())), pre1 _ ?_, ⟨true, rfl, .inl rfl⟩⟩
          rw [s1]; rfl

end Go.Proofs.YtffdfjilpleljaaCu.Ev
