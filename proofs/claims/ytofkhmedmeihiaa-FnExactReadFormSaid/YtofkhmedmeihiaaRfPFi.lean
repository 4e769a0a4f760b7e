/- Plain laws: reading a formula: the program's reader. No condition but sizes. -/
import Derived.Test.YtofkhmedmeihiaaRfPFr
namespace Go.Proofs.YtofkhmedmeihiaaRf.Ev
open Go
set_option autoImplicit false
set_option linter.unusedVariables false
set_option linter.unusedSimpArgs false

def imF (a : List Int) (X : List UInt8) (i : Nat) (y : Rd (List TForm)) (r : (List TForm × Unit) × (TP × Unit)) : Prop := match y with
  | .bad c => r.2.1 = mkP a X (i + c) true ∧ r.1.1.length ≤ c
  | .ok f c => r = ((f, ()), (mkP a X (i + c) false, ()))

theorem p_imF {a : List Int} (hg : gS a = true) (X : List UInt8) (hX : X.length ≤ 1000) (F : Nat) (hF : X.length < F) : ∀ (k i : Nat), i ≤ X.length → X.length - i < k → ∃ r, c_impl_parser_form M (mkP a X i false) = some r ∧ imF a X i (rdF a F k (X.drop i)) r := by
  intro k
  induction k with
  | zero => intro i _ h; omega
  | succ k ih =>
    intro i hi hk
    have hnext := p_nextP a X i false
    have hin : IntKind.i64.wrap ((i : Int) + 1) = ((i + 1 : Nat) : Int) := inc_nat (by omega)
    -- an equation
    have dflt : ((nx X i false : Int) == 126) = false → ((nx X i false : Int) == 33) = false → ((nx X i false : Int) == 63) = false → ((nx X i false : Int) == 40) = false → ∀ R, ((c_impl_parser_term M (mkP a X i false)).bind fun r12 => (if r12.2.1.2.2.2.2.1 = true then (some (([], ()), (((r12.2.1.1.1, ()), r12.2.1.2.1, r12.2.1.2.2.1, r12.2.1.2.2.2.1, r12.2.1.2.2.2.2.1, ()), ()))) else ((c_impl_parser_take M ((r12.2.1.1.1, ()), r12.2.1.2.1, r12.2.1.2.2.1, r12.2.1.2.2.2.1, r12.2.1.2.2.2.2.1, ()) ([61] : List UInt8)).bind fun r13 => (if r13.2.1.2.2.2.2.1 = true then (some (([], ()), (((r13.2.1.1.1, ()), r13.2.1.2.1, r13.2.1.2.2.1, r13.2.1.2.2.2.1, r13.2.1.2.2.2.2.1, ()), ()))) else ((c_impl_parser_term M ((r13.2.1.1.1, ()), r13.2.1.2.1, r13.2.1.2.2.1, r13.2.1.2.2.2.1, r13.2.1.2.2.2.2.1, ())).bind fun r14 => (some ((([((1 : Int), (0 : Int), r12.1.1, r14.1.1, ())] : List (Int × Int × (List Int) × (List Int) × Unit)), ()), (((r14.2.1.1.1, ()), r14.2.1.2.1, r14.2.1.2.2.1, r14.2.1.2.2.2.1, r14.2.1.2.2.2.2.1, ()), ())))))))) = some R → c_impl_parser_form M (mkP a X i false) = some R := by
      intro n126 n33 n63 n40 R hR
      apply e_impl_parser_form
      simp only [q_impl_parser_form]
      rw [show (((mkP a X i false).1.1, ()), (mkP a X i false).2.1, (mkP a X i false).2.2.1, (mkP a X i false).2.2.2.1, (mkP a X i false).2.2.2.2.1, ()) = mkP a X i false from rfl, hnext]
      simp only [Option.bind_some, n126, n33, n63, n40, Bool.false_eq_true, ↓reduceIte, Sum.elim_inl]
      exact hR
    have term : ((nx X i false : Int) == 126) = false → ((nx X i false : Int) == 33) = false → ((nx X i false : Int) == 63) = false → ((nx X i false : Int) == 40) = false → ∃ r, c_impl_parser_form M (mkP a X i false) = some r ∧ imF a X i (match rdT a F (X.drop i) with
      | .bad c => .bad c
      | .ok l c => match (X.drop i).drop c with
        | [] => .bad c
        | e :: r2 => if e.toNat = 61 then match rdT a F r2 with
            | .bad c2 => .bad (c + 1 + c2)
            | .ok t c2 => .ok [(1, 0, l, t, ())] (c + 1 + c2)
          else .bad c) r := by
      intro n126 n33 n63 n40
      have core := dflt n126 n33 n63 n40
      obtain ⟨⟨⟨l1, ⟨⟩⟩, ⟨q1, ⟨⟩⟩⟩, t1, t2⟩ := p_imT hg X hX F i hi (by omega)
      have hle := rdT_le (a := a) F (X.drop i)
      rw [t1] at core
      simp only [Option.bind_some] at core
      cases hr : rdT a F (X.drop i) with
      | bad c =>
        rw [hr] at t2
        obtain ⟨t3, -⟩ := t2
        simp only at t3
        subst t3
        refine ⟨(([], ()), (mkP a X (i + c) true, ())), core _ ?_, rfl, by simp⟩
        simp only [↓reduceIte]
      | ok l c =>
        rw [hr] at t2 hle
        have h2 := hle.1
        simp only [Rd.within, List.length_drop] at h2
        simp only [imT, Prod.mk.injEq, and_true] at t2
        obtain ⟨rfl, rfl⟩ := t2
        have core2 : ∀ R, ((c_impl_parser_take M (mkP a X (i + c) false) ([61] : List UInt8)).bind fun r13 => (if r13.2.1.2.2.2.2.1 = true then (some (([], ()), (((r13.2.1.1.1, ()), r13.2.1.2.1, r13.2.1.2.2.1, r13.2.1.2.2.2.1, r13.2.1.2.2.2.2.1, ()), ()))) else ((c_impl_parser_term M ((r13.2.1.1.1, ()), r13.2.1.2.1, r13.2.1.2.2.1, r13.2.1.2.2.2.1, r13.2.1.2.2.2.2.1, ())).bind fun r14 => (some ((([((1 : Int), (0 : Int), l1, r14.1.1, ())] : List (Int × Int × (List Int) × (List Int) × Unit)), ()), (((r14.2.1.1.1, ()), r14.2.1.2.1, r14.2.1.2.2.1, r14.2.1.2.2.2.1, r14.2.1.2.2.2.2.1, ()), ())))))) = some R → c_impl_parser_form M (mkP a X i false) = some R := by
          intro R hR
          apply core
          rw [if_neg (by simp)]
          exact hR
        have hk61 := p_take a X (i + c) (by omega) false [61] (by simp)
        simp only [List.drop_drop]
        by_cases he1 : i + c = X.length
        · rw [nx_end (by omega), if_neg (by simp)] at hk61
          rw [List.drop_eq_nil_of_le (by omega)]
          refine ⟨(([], ()), (mkP a X (i + c) true, ())), core2 _ ?_, rfl, by simp⟩
          rw [hk61]; rfl
        · have hlt1 : i + c < X.length := by omega
          rw [nx_get hlt1] at hk61
          rw [List.drop_eq_getElem_cons hlt1]
          simp only
          by_cases h61 : (X[i + c]).toNat = 61
          · rw [if_pos ⟨by simp [h61], by omega⟩] at hk61
            rw [if_pos h61]
            obtain ⟨⟨⟨l2, ⟨⟩⟩, ⟨q2, ⟨⟩⟩⟩, u1, u2⟩ := p_imT hg X hX F (i + c + 1) (by omega) (by omega)
            have pre : c_impl_parser_form M (mkP a X i false) = some (([(1, 0, l1, l2, ())], ()), (q2, ())) := by
              apply core2
              rw [hk61]
              simp only [Option.bind_some]
              rw [if_neg (by simp)]
              have u1' : c_impl_parser_term M ((a, ()), X, ((i + c + 1 : Nat) : Int), 12, false, ()) = some ((l2, ()), (q2, ())) := u1
              rw [u1']
              rfl
            cases hr2 : rdT a F (X.drop (i + c + 1)) with
            | bad c2 =>
              rw [hr2] at u2
              obtain ⟨u3, -⟩ := u2
              simp only at u3
              subst u3
              refine ⟨_, pre, ?_⟩
              simp only [imF]
              exact ⟨by rw [show i + (c + 1 + c2) = i + c + 1 + c2 by omega], by simp only [List.length_cons, List.length_nil]; omega⟩
            | ok t c2 =>
              rw [hr2] at u2
              simp only [imT, Prod.mk.injEq, and_true] at u2
              obtain ⟨rfl, rfl⟩ := u2
              refine ⟨_, pre, ?_⟩
              simp only [imF]
              rw [show i + (c + 1 + c2) = i + c + 1 + c2 by omega]
          · rw [if_neg (fun hh => by have := hh.1; simp at this; omega)] at hk61
            rw [if_neg h61]
            refine ⟨(([], ()), (mkP a X (i + c) true, ())), core2 _ ?_, rfl, by simp⟩
            rw [hk61]; rfl
    by_cases hend : i = X.length
    · have h0 := nx_end (X := X) (i := i) (by omega) false
      rw [h0] at term
      obtain ⟨r, r1, r2⟩ := term rfl rfl rfl rfl
      refine ⟨r, r1, ?_⟩
      rw [List.drop_eq_nil_of_le (by omega)] at r2 ⊢
      cases F with
      | zero => omega
      | succ F => simpa [rdT, rdF] using r2
    · have hlt : i < X.length := by omega
      have hnx := nx_get hlt
      rw [hnx] at hnext term dflt
      rw [List.drop_eq_getElem_cons hlt]
      rw [List.drop_eq_getElem_cons hlt] at term
      simp only [rdF]
      have stt : (((mkP a X i false).1.1, ()), (mkP a X i false).2.1, (mkP a X i false).2.2.1, (mkP a X i false).2.2.2.1, (mkP a X i false).2.2.2.2.1, ()) = mkP a X i false := rfl
      by_cases h126 : (X[i]).toNat = 126
      · rw [if_pos h126]
        have hb : (((X[i]).toNat : Nat) : Int) = 126 := by omega
        obtain ⟨⟨⟨f1, ⟨⟩⟩, ⟨q1, ⟨⟩⟩⟩, c1, m1⟩ := ih (i + 1) (by omega) (by omega)
        have c1' : c_impl_parser_form M ((a, ()), X, ((i + 1 : Nat) : Int), 12, false, ()) = some ((f1, ()), (q1, ())) := c1
        have hle := rdF_le (a := a) (F := F) k (X.drop (i + 1))
        have pre : f1.length ≤ 1000 → c_impl_parser_form M (mkP a X i false) = some ((f1 ++ [(2, 0, [], [], ())], ()), (q1, ())) := by
          intro hl
          apply e_impl_parser_form
          simp only [q_impl_parser_form]
          rw [stt, hnext]
          simp only [Option.bind_some, hb, beq_self_eq_true, ↓reduceIte, hin, c1']
          rw [if_pos (by simp only [List.length_cons, List.length_nil]; omega)]
        cases hr : rdF a F k (X.drop (i + 1)) with
        | bad c =>
          rw [hr] at m1 hle
          have h2 := hle.1
          simp only [Rd.within, List.length_drop] at h2
          obtain ⟨j1, j2⟩ := m1
          simp only at j1 j2
          subst j1
          refine ⟨_, pre (by omega), ?_⟩
          simp only [imF]
          exact ⟨by rw [show i + (1 + c) = i + 1 + c by omega], by simp; omega⟩
        | ok f c =>
          rw [hr] at m1 hle
          have h2 := hle.1
          simp only [Rd.within, List.length_drop] at h2
          have h3 := (hle.2 f c rfl).1
          simp only [imF, Prod.mk.injEq, and_true] at m1
          obtain ⟨rfl, rfl⟩ := m1
          refine ⟨_, pre (by omega), ?_⟩
          simp only [imF]
          rw [show i + (1 + c) = i + 1 + c by omega]
      · rw [if_neg h126]
        have n126 : ((((X[i]).toNat : Nat) : Int) == 126) = false := by simp; omega
        by_cases hq : (X[i]).toNat = 33 ∨ (X[i]).toNat = 63
        · rw [if_pos hq]
          have core : ∀ (op : Int), op = (if (X[i]).toNat = 63 then 6 else 5) → ∀ R, ((c_impl_parser_take M (mkP a X (i + 1) false) ([65, 66, 67, 68, 69, 70] : List UInt8)).bind fun r5 => (if r5.2.1.2.2.2.2.1 = true then (some (([], ()), (((r5.2.1.1.1, ()), r5.2.1.2.1, r5.2.1.2.2.1, r5.2.1.2.2.2.1, r5.2.1.2.2.2.2.1, ()), ()))) else ((c_impl_parser_form M ((r5.2.1.1.1, ()), r5.2.1.2.1, r5.2.1.2.2.1, r5.2.1.2.2.2.1, r5.2.1.2.2.2.2.1, ())).bind fun r6 => (if (List.length r6.1.1 + List.length ([(op, (IntKind.i64.wrap (IntKind.u8.wrap (r5.1.1 - (65 : Int)))), [], [], ())] : List (Int × Int × (List Int) × (List Int) × Unit))) * 64 ≤ 140737488355328 then (some (((r6.1.1 ++ ([(op, (IntKind.i64.wrap (IntKind.u8.wrap (r5.1.1 - (65 : Int)))), [], [], ())] : List (Int × Int × (List Int) × (List Int) × Unit))), ()), (((r6.2.1.1.1, ()), r6.2.1.2.1, r6.2.1.2.2.1, r6.2.1.2.2.2.1, r6.2.1.2.2.2.2.1, ()), ()))) else none)))) = some R → c_impl_parser_form M (mkP a X i false) = some R := by
            intro op hop R hR
            apply e_impl_parser_form
            simp only [q_impl_parser_form]
            rw [stt, hnext]
            rcases hq with hq | hq
            · have hb : (((X[i]).toNat : Nat) : Int) = 33 := by omega
              rw [if_neg (by omega)] at hop
              subst hop
              simp only [hb, Option.bind_some, Sum.elim_inl, Int.reduceBEq, beq_self_eq_true, Bool.false_eq_true, ↓reduceIte, hin]
              exact hR
            · have hb : (((X[i]).toNat : Nat) : Int) = 63 := by omega
              rw [if_pos hq] at hop
              subst hop
              simp only [hb, Option.bind_some, Sum.elim_inl, Int.reduceBEq, beq_self_eq_true, Bool.false_eq_true, ↓reduceIte, hin]
              exact hR
          have htk := p_take a X (i + 1) (by omega) false [65, 66, 67, 68, 69, 70] (by simp)
          by_cases he1 : i + 1 = X.length
          · rw [nx_end (by omega), if_neg (by simp)] at htk
            refine ⟨(([], ()), (mkP a X (i + 1) true, ())), core _ rfl _ (by rw [htk]; rfl), ?_⟩
            rw [List.drop_eq_nil_of_le (by omega)]
            exact ⟨rfl, by simp⟩
          · have hlt1 : i + 1 < X.length := by omega
            rw [nx_get hlt1] at htk
            rw [List.drop_eq_getElem_cons hlt1]
            have hbl := (X[i + 1]).toNat_lt
            simp only
            by_cases hv : 65 ≤ (X[i + 1]).toNat ∧ (X[i + 1]).toNat ≤ 70
            · rw [if_pos ⟨by simp; omega, by omega⟩] at htk
              rw [if_pos hv]
              obtain ⟨⟨⟨f1, ⟨⟩⟩, ⟨q1, ⟨⟩⟩⟩, c1, m1⟩ := ih (i + 1 + 1) (by omega) (by omega)
              have c1' : c_impl_parser_form M ((a, ()), X, ((i + 1 + 1 : Nat) : Int), 12, false, ()) = some ((f1, ()), (q1, ())) := c1
              have hle := rdF_le (a := a) (F := F) k (X.drop (i + 1 + 1))
              have pre : f1.length ≤ 1000 → c_impl_parser_form M (mkP a X i false) = some ((f1 ++ [((if (X[i]).toNat = 63 then 6 else 5), (((X[i + 1]).toNat : Nat) : Int) - 65, [], [], ())], ()), (q1, ())) := by
                intro hl
                apply core _ rfl
                rw [htk]
                simp only [Option.bind_some]
                rw [if_neg (by simp), c1']
                simp only [Option.bind_some]
                rw [w8 (by omega) (by omega), w64 (by omega) (by omega), if_pos (by simp only [List.length_cons, List.length_nil]; omega)]
              cases hr : rdF a F k (X.drop (i + 1 + 1)) with
              | bad c =>
                rw [hr] at m1 hle
                have h2 := hle.1
                simp only [Rd.within, List.length_drop] at h2
                obtain ⟨j1, j2⟩ := m1
                simp only at j1 j2
                subst j1
                refine ⟨_, pre (by omega), ?_⟩
                simp only [imF]
                exact ⟨by rw [show i + (2 + c) = i + 1 + 1 + c by omega], by simp; omega⟩
              | ok f c =>
                rw [hr] at m1 hle
                have h2 := hle.1
                simp only [Rd.within, List.length_drop] at h2
                have h3 := (hle.2 f c rfl).1
                simp only [imF, Prod.mk.injEq, and_true] at m1
                obtain ⟨rfl, rfl⟩ := m1
                refine ⟨_, pre (by omega), ?_⟩
                simp only [imF]
                rw [show i + (2 + c) = i + 1 + 1 + c by omega]
            · rw [if_neg (fun hh => by have := hh.1; simp at this; omega)] at htk
              rw [if_neg hv]
              refine ⟨(([], ()), (mkP a X (i + 1) true, ())), core _ rfl _ (by rw [htk]; rfl), rfl, by simp⟩
        · rw [if_neg hq]
          have n33 : ((((X[i]).toNat : Nat) : Int) == 33) = false := by simp; omega
          have n63 : ((((X[i]).toNat : Nat) : Int) == 63) = false := by simp; omega
          by_cases h40 : (X[i]).toNat = 40
          · rw [if_pos h40]
            have hb : (((X[i]).toNat : Nat) : Int) = 40 := by omega
            obtain ⟨⟨⟨f1, ⟨⟩⟩, ⟨q1, ⟨⟩⟩⟩, c1, m1⟩ := ih (i + 1) (by omega) (by omega)
            have c1' : c_impl_parser_form M ((a, ()), X, ((i + 1 : Nat) : Int), 12, false, ()) = some ((f1, ()), (q1, ())) := c1
            have hle := rdF_le (a := a) (F := F) k (X.drop (i + 1))
            cases hr : rdF a F k (X.drop (i + 1)) with
            | bad c =>
              rw [hr] at m1
              obtain ⟨j1, j2⟩ := m1
              simp only at j1 j2
              subst j1
              refine ⟨(([], ()), (mkP a X (i + 1 + c) true, ())), e_impl_parser_form _ ?_, ?_⟩
              · simp only [q_impl_parser_form]
                rw [stt, hnext]
                simp only [hb, Option.bind_some, Sum.elim_inl, Int.reduceBEq, beq_self_eq_true, Bool.false_eq_true, ↓reduceIte, hin, c1']
              · simp only [imF]
                exact ⟨by rw [show i + (1 + c) = i + 1 + c by omega], by simp⟩
            | ok f c =>
              rw [hr] at m1 hle
              have h2 := hle.1
              simp only [Rd.within, List.length_drop] at h2
              have h3 := (hle.2 f c rfl).1
              simp only [imF, Prod.mk.injEq, and_true] at m1
              obtain ⟨rfl, rfl⟩ := m1
              have htk := p_take a X (i + 1 + c) (by omega) false [38, 124] (by simp)
              have core : ∀ (y : Int) (j : Nat) (b : Bool), c_impl_parser_take M (mkP a X (i + 1 + c) false) [38, 124] = some ((y, ()), (mkP a X j b, ())) → ∀ (op : Int), op = (if (y == 124) = true then 4 else 3) → ∀ R, (if b = true then (some (([], ()), (mkP a X j b, ()))) else ((c_impl_parser_form M (mkP a X j b)).bind fun r10 => (if (List.length f1 + List.length r10.1.1) * 64 ≤ 140737488355328 then (if r10.2.1.2.2.2.2.1 = true then (some (([], ()), (((r10.2.1.1.1, ()), r10.2.1.2.1, r10.2.1.2.2.1, r10.2.1.2.2.2.1, r10.2.1.2.2.2.2.1, ()), ()))) else ((c_impl_parser_take M ((r10.2.1.1.1, ()), r10.2.1.2.1, r10.2.1.2.2.1, r10.2.1.2.2.2.1, r10.2.1.2.2.2.2.1, ()) ([41] : List UInt8)).bind fun r11 => (if (List.length (f1 ++ r10.1.1) + List.length ([(op, (0 : Int), [], [], ())] : List (Int × Int × (List Int) × (List Int) × Unit))) * 64 ≤ 140737488355328 then (some ((((f1 ++ r10.1.1) ++ ([(op, (0 : Int), [], [], ())] : List (Int × Int × (List Int) × (List Int) × Unit))), ()), (((r11.2.1.1.1, ()), r11.2.1.2.1, r11.2.1.2.2.1, r11.2.1.2.2.2.1, r11.2.1.2.2.2.2.1, ()), ()))) else none))) else none))) = some R → c_impl_parser_form M (mkP a X i false) = some R := by
                intro y j b hy op hop R hR
                have hy' : c_impl_parser_take M ((a, ()), X, ((i + 1 + c : Nat) : Int), 12, false, ()) [38, 124] = some ((y, ()), (mkP a X j b, ())) := hy
                apply e_impl_parser_form
                simp only [q_impl_parser_form]
                rw [stt, hnext]
                simp only [hb, Option.bind_some, Sum.elim_inl, Int.reduceBEq, beq_self_eq_true, Bool.false_eq_true, ↓reduceIte, hin, c1', hy']
                by_cases h124 : (y == 124) = true
                · rw [if_pos h124] at hop
                  subst hop
                  rw [if_pos h124]
                  simp only [Option.bind_some, Sum.elim_inl]
                  exact hR
                · rw [if_neg h124] at hop
                  subst hop
                  rw [if_neg h124]
                  simp only [Option.bind_some, Sum.elim_inl]
                  exact hR
              simp only [List.drop_drop]
              by_cases he1 : i + 1 + c = X.length
              · rw [nx_end (by omega), if_neg (by simp)] at htk
                rw [List.drop_eq_nil_of_le (by omega)]
                refine ⟨(([], ()), (mkP a X (i + 1 + c) true, ())), core _ _ _ htk _ rfl _ (by rw [if_pos rfl]), ?_⟩
                simp only [imF]
                exact ⟨by rw [show i + (1 + c) = i + 1 + c by omega], by simp⟩
              · have hlt1 : i + 1 + c < X.length := by omega
                rw [nx_get hlt1] at htk
                rw [List.drop_eq_getElem_cons hlt1]
                simp only
                by_cases hq2 : (X[i + 1 + c]).toNat = 38 ∨ (X[i + 1 + c]).toNat = 124
                · rw [if_pos ⟨by simp; omega, by omega⟩] at htk
                  rw [if_pos hq2]
                  have core2 := core _ _ _ htk (if (X[i + 1 + c]).toNat = 124 then 4 else 3) (by
                    by_cases h : (X[i + 1 + c]).toNat = 124
                    · rw [if_pos h, if_pos (by simp [h])]
                    · rw [if_neg h, if_neg (by simp; omega)])
                  obtain ⟨⟨⟨g1, ⟨⟩⟩, ⟨q2, ⟨⟩⟩⟩, c2, m2⟩ := ih (i + 1 + c + 1) (by omega) (by omega)
                  have hle2 := rdF_le (a := a) (F := F) k (X.drop (i + 1 + c + 1))
                  rw [c2] at core2
                  simp only [Option.bind_some] at core2
                  cases hr2 : rdF a F k (X.drop (i + 1 + c + 1)) with
                  | bad c' =>
                    rw [hr2] at m2 hle2
                    have h4 := hle2.1
                    simp only [Rd.within, List.length_drop] at h4
                    obtain ⟨j1, j2⟩ := m2
                    simp only at j1 j2
                    subst j1
                    refine ⟨(([], ()), (mkP a X (i + 1 + c + 1 + c') true, ())), core2 _ ?_, ?_⟩
                    · rw [if_neg (by simp), if_pos (by omega)]
                      simp only [↓reduceIte]
                    · simp only [imF]
                      exact ⟨by rw [show i + (1 + c + 1 + c') = i + 1 + c + 1 + c' by omega], by simp⟩
                  | ok g c' =>
                    rw [hr2] at m2 hle2
                    have h4 := hle2.1
                    simp only [Rd.within, List.length_drop] at h4
                    have h5 := (hle2.2 g c' rfl).1
                    simp only [imF, Prod.mk.injEq, and_true] at m2
                    obtain ⟨rfl, rfl⟩ := m2
                    have htk2 := p_take a X (i + 1 + c + 1 + c') (by omega) false [41] (by simp)
                    have fin : ∀ (y : Int) (j : Nat) (b : Bool), c_impl_parser_take M (mkP a X (i + 1 + c + 1 + c') false) [41] = some ((y, ()), (mkP a X j b, ())) → c_impl_parser_form M (mkP a X i false) = some (((f1 ++ g1) ++ [((if (X[i + 1 + c]).toNat = 124 then 4 else 3), 0, [], [], ())], ()), (mkP a X j b, ())) := by
                      intro y j b hy
                      have hy' : c_impl_parser_take M ((a, ()), X, ((i + 1 + c + 1 + c' : Nat) : Int), 12, false, ()) [41] = some ((y, ()), (mkP a X j b, ())) := hy
                      apply core2
                      rw [if_neg (by simp), if_pos (by omega), if_neg (by simp), hy']
                      simp only [Option.bind_some]
                      rw [if_pos (by simp only [List.length_append, List.length_cons, List.length_nil]; omega)]
                    simp only [List.drop_drop]
                    by_cases he2 : i + 1 + c + 1 + c' = X.length
                    · rw [nx_end (by omega), if_neg (by simp)] at htk2
                      rw [List.drop_eq_nil_of_le (by omega)]
                      refine ⟨_, fin _ _ _ htk2, ?_⟩
                      simp only [imF]
                      exact ⟨by rw [show i + (1 + c + 1 + c') = i + 1 + c + 1 + c' by omega], by simp; omega⟩
                    · have hlt2 : i + 1 + c + 1 + c' < X.length := by omega
                      rw [nx_get hlt2] at htk2
                      rw [List.drop_eq_getElem_cons hlt2]
                      simp only
                      by_cases h41 : (X[i + 1 + c + 1 + c']).toNat = 41
                      · rw [if_pos ⟨by simp [h41], by omega⟩] at htk2
                        rw [if_pos h41]
                        refine ⟨_, fin _ _ _ htk2, ?_⟩
                        simp only [imF]
                        rw [show i + (1 + c + 1 + c' + 1) = i + 1 + c + 1 + c' + 1 by omega]
                      · rw [if_neg (fun hh => by have := hh.1; simp at this; omega)] at htk2
                        rw [if_neg h41]
                        refine ⟨_, fin _ _ _ htk2, ?_⟩
                        simp only [imF]
                        exact ⟨by rw [show i + (1 + c + 1 + c') = i + 1 + c + 1 + c' by omega], by simp; omega⟩
                · rw [if_neg (fun hh => by have := hh.1; simp at this; omega)] at htk
                  rw [if_neg hq2]
                  refine ⟨(([], ()), (mkP a X (i + 1 + c) true, ())), core _ _ _ htk _ rfl _ (by rw [if_pos rfl]), ?_⟩
                  simp only [imF]
                  exact ⟨by rw [show i + (1 + c) = i + 1 + c by omega], by simp⟩
          · rw [if_neg h40]
            have n40 : ((((X[i]).toNat : Nat) : Int) == 40) = false := by simp; omega
            exact term n126 n33 n63 n40

end Go.Proofs.YtofkhmedmeihiaaRf.Ev
