/- Texts laid together: PFr, PFi, PFy, PRc, QO, QD, QE, QAa, QF, QGa, PW, PHo; no condition but those that each theorem names. -/
import Derived.Test.YtkdceefdipljaaaFftPRb
/- Plain laws: reading a formula: both programs read the same, and fail at the same place. No condition but sizes. -/
namespace Go.Proofs.YtkdceefdipljaaaFft.Ev
open Go
set_option autoImplicit false
set_option linter.unusedVariables false
set_option linter.unusedSimpArgs false

/-- A formula, node by node. -/
def rdF (a : List Int) (F : Nat) : Nat → List UInt8 → Rd (List TForm)
  | 0, _ => .bad 0
  | _ + 1, [] => .bad 0
  | k + 1, b :: r =>
    if b.toNat = 126 then match rdF a F k r with
      | .bad c => .bad (1 + c)
      | .ok f c => .ok (f ++ [(2, 0, [], [], ())]) (1 + c)
    else if b.toNat = 33 ∨ b.toNat = 63 then match r with
      | [] => .bad 1
      | v :: r2 => if 65 ≤ v.toNat ∧ v.toNat ≤ 70 then match rdF a F k r2 with
          | .bad c => .bad (2 + c)
          | .ok f c => .ok (f ++ [((if b.toNat = 63 then 6 else 5), (v.toNat : Int) - 65, [], [], ())]) (2 + c)
        else .bad 1
    else if b.toNat = 40 then match rdF a F k r with
      | .bad c => .bad (1 + c)
      | .ok f c => match r.drop c with
        | [] => .bad (1 + c)
        | o :: r2 => if o.toNat = 38 ∨ o.toNat = 124 then match rdF a F k r2 with
            | .bad c2 => .bad (1 + c + 1 + c2)
            | .ok g c2 => match r2.drop c2 with
              | [] => .bad (1 + c + 1 + c2)
              | z :: _ => if z.toNat = 41 then .ok ((f ++ g) ++ [((if o.toNat = 124 then 4 else 3), 0, [], [], ())]) (1 + c + 1 + c2 + 1) else .bad (1 + c + 1 + c2)
          else .bad (1 + c)
    else match rdT a F (b :: r) with
      | .bad c => .bad c
      | .ok l c => match (b :: r).drop c with
        | [] => .bad c
        | e :: r2 => if e.toNat = 61 then match rdT a F r2 with
            | .bad c2 => .bad (c + 1 + c2)
            | .ok t c2 => .ok [(1, 0, l, t, ())] (c + 1 + c2)
          else .bad c

theorem rdF_le {a : List Int} {F : Nat} : ∀ (k : Nat) (r : List UInt8), (rdF a F k r).within r.length ∧ ∀ f c, rdF a F k r = .ok f c → f.length ≤ c ∧ ∀ x ∈ f, x.2.2.1.length ≤ c ∧ x.2.2.2.1.length ≤ c
  | 0, _ => ⟨Nat.zero_le _, fun f c h => by simp [rdF] at h⟩
  | k + 1, [] => ⟨Nat.zero_le _, fun f c h => by simp [rdF] at h⟩
  | k + 1, b :: r => by
    simp only [rdF]
    have bad : ∀ n, n ≤ r.length + 1 → (Rd.bad n : Rd (List TForm)).within (b :: r).length ∧ ∀ (f : List TForm) (c : Nat), (Rd.bad n : Rd (List TForm)) = .ok f c → f.length ≤ c ∧ ∀ x ∈ f, x.2.2.1.length ≤ c ∧ x.2.2.2.1.length ≤ c :=
      fun n hn => ⟨by simp only [Rd.within, List.length_cons]; exact hn, fun f c h => by simp at h⟩
    have good : ∀ (f : List TForm) (n : Nat), n ≤ r.length + 1 → (f.length ≤ n ∧ ∀ x ∈ f, x.2.2.1.length ≤ n ∧ x.2.2.2.1.length ≤ n) → (Rd.ok f n : Rd (List TForm)).within (b :: r).length ∧ ∀ (g : List TForm) (c : Nat), (Rd.ok f n : Rd (List TForm)) = .ok g c → g.length ≤ c ∧ ∀ x ∈ g, x.2.2.1.length ≤ c ∧ x.2.2.2.1.length ≤ c :=
      fun f n hn hf => ⟨by simp only [Rd.within, List.length_cons]; exact hn, fun g c h => by
        simp only [Rd.ok.injEq] at h
        rw [← h.1, ← h.2]; exact hf⟩
    have snoc : ∀ (f : List TForm) (o v : Int) (n m : Nat), (f.length ≤ n ∧ ∀ x ∈ f, x.2.2.1.length ≤ n ∧ x.2.2.2.1.length ≤ n) → n < m → ((f ++ [(o, v, [], [], ())]).length ≤ m ∧ ∀ x ∈ f ++ [(o, v, [], [], ())], x.2.2.1.length ≤ m ∧ x.2.2.2.1.length ≤ m) := by
      intro f o v n m hf hm
      refine ⟨by simp; omega, fun x hx => ?_⟩
      simp only [List.mem_append, List.mem_singleton] at hx
      rcases hx with hx | rfl
      · have := hf.2 x hx; omega
      · simp
    split
    · have h1 := rdF_le (a := a) (F := F) k r
      cases hr : rdF a F k r with
      | bad c => rw [hr] at h1; have := h1.1; simp only [Rd.within] at this; exact bad _ (by omega)
      | ok f c =>
        rw [hr] at h1
        have h2 := h1.1
        simp only [Rd.within] at h2
        exact good _ _ (by omega) (snoc f 2 0 c (1 + c) (h1.2 f c rfl) (by omega))
    · split
      · split
        · exact bad _ (by simp)
        · rename_i v r2
          split
          · have h1 := rdF_le (a := a) (F := F) k r2
            cases hr : rdF a F k r2 with
            | bad c => rw [hr] at h1; have := h1.1; simp only [Rd.within] at this; exact bad _ (by simp; omega)
            | ok f c =>
              rw [hr] at h1
              have h2 := h1.1
              simp only [Rd.within] at h2
              exact good _ _ (by simp; omega) (snoc f _ _ c (2 + c) (h1.2 f c rfl) (by omega))
          · exact bad _ (by simp)
      · split
        · have h1 := rdF_le (a := a) (F := F) k r
          cases hr : rdF a F k r with
          | bad c => rw [hr] at h1; have := h1.1; simp only [Rd.within] at this; exact bad _ (by omega)
          | ok f c =>
            rw [hr] at h1
            have h2 := h1.1
            simp only [Rd.within] at h2
            simp only
            cases hd : r.drop c with
            | nil => exact bad _ (by omega)
            | cons o r2 =>
              have hl := congrArg List.length hd
              simp only [List.length_drop, List.length_cons] at hl
              simp only
              split
              · have h3 := rdF_le (a := a) (F := F) k r2
                cases hr2 : rdF a F k r2 with
                | bad c2 => rw [hr2] at h3; have := h3.1; simp only [Rd.within] at this; exact bad _ (by omega)
                | ok g c2 =>
                  rw [hr2] at h3
                  have h4 := h3.1
                  simp only [Rd.within] at h4
                  simp only
                  cases hd2 : r2.drop c2 with
                  | nil => exact bad _ (by omega)
                  | cons z r3 =>
                    have hl2 := congrArg List.length hd2
                    simp only [List.length_drop, List.length_cons] at hl2
                    simp only
                    have k1 := h1.2 f c rfl
                    have k2 := h3.2 g c2 rfl
                    split
                    · refine good _ _ (by omega) (snoc (f ++ g) _ _ (1 + c + 1 + c2) (1 + c + 1 + c2 + 1) ⟨by simp; omega, fun x hx => ?_⟩ (by omega))
                      simp only [List.mem_append] at hx
                      rcases hx with hx | hx
                      · have := k1.2 x hx; omega
                      · have := k2.2 x hx; omega
                    · exact bad _ (by omega)
              · exact bad _ (by omega)
        · have h1 := rdT_le (a := a) F (b :: r)
          cases hr : rdT a F (b :: r) with
          | bad c => rw [hr] at h1; have := h1.1; simp only [Rd.within, List.length_cons] at this; exact bad _ (by omega)
          | ok l c =>
            rw [hr] at h1
            have h2 := h1.1
            simp only [Rd.within, List.length_cons] at h2
            simp only
            cases hd : (b :: r).drop c with
            | nil => exact bad _ (by omega)
            | cons e r2 =>
              have hl := congrArg List.length hd
              simp only [List.length_drop, List.length_cons] at hl
              simp only
              split
              · have h3 := rdT_le (a := a) F r2
                cases hr2 : rdT a F r2 with
                | bad c2 => rw [hr2] at h3; have := h3.1; simp only [Rd.within] at this; exact bad _ (by omega)
                | ok t c2 =>
                  rw [hr2] at h3
                  have h4 := h3.1
                  simp only [Rd.within] at h4
                  have k1 := h1.2 l c rfl
                  have k2 := h3.2 t c2 rfl
                  refine good _ _ (by omega) ⟨by simp only [List.length_cons, List.length_nil]; omega, fun x hx => ?_⟩
                  simp only [List.mem_singleton] at hx
                  subst hx
                  exact ⟨by simp only; omega, by simp only; omega⟩
              · exact bad _ (by omega)

/-! ### The reference's reader -/
def spF (at0 : Nat) (y : Rd (List TForm)) (r : List TForm × Int × Bool × Unit) : Prop := match y with
  | .bad c => r.2.1 = ((at0 + c : Nat) : Int) ∧ r.2.2.1 = false ∧ r.1.length ≤ c
  | .ok f c => r = (f, ((at0 + c : Nat) : Int), true, ())

theorem p_spF {a : List Int} (hg : gS a = true) (X : List UInt8) (hX : X.length ≤ 1000) (F : Nat) (hF : X.length < F) : ∀ (k at0 : Nat), at0 ≤ X.length → X.length - at0 < k → ∃ r, c_spec_l14Read M (a, ()) X at0 = some (r, ()) ∧ spF at0 (rdF a F k (X.drop at0)) r := by
  intro k
  induction k with
  | zero => intro at0 _ h; omega
  | succ k ih =>
    intro at0 ha hk
    by_cases hend : at0 = X.length
    · refine ⟨([], (at0 : Int), false, ()), e_spec_l14Read _ _ _ ?_, ?_⟩
      · simp only [q_spec_l14Read]
        rw [if_pos (by simp [hend])]
      · rw [List.drop_eq_nil_of_le (by omega)]
        simp [rdF, spF]
    · have hlt : at0 < X.length := by omega
      have h0 : ((at0 : Int) == (X.length : Int)) = false := by simp; omega
      have hin : IntKind.i64.wrap ((at0 : Int) + 1) = ((at0 + 1 : Nat) : Int) := inc_nat (by omega)
      rw [List.drop_eq_getElem_cons hlt]
      simp only [rdF]
      by_cases h126 : (X[at0]).toNat = 126
      · rw [if_pos h126]
        have hb : (((X[at0]).toNat : Nat) : Int) = 126 := by omega
        obtain ⟨⟨f1, p1, b1, ⟨⟩⟩, c1, m1⟩ := ih (at0 + 1) (by omega) (by omega)
        have hle := rdF_le (a := a) (F := F) k (X.drop (at0 + 1))
        have pre : f1.length ≤ 1000 → c_spec_l14Read M (a, ()) X at0 = some ((f1 ++ [(2, 0, [], [], ())], p1, b1, ()), ()) := by
          intro hl
          apply e_spec_l14Read
          simp only [q_spec_l14Read, h0, idx_lt hlt, hb, Option.bind_some, beq_self_eq_true, Bool.false_eq_true, ↓reduceIte]
          rw [hin, c1]
          simp only [Option.bind_some]
          rw [if_pos (by simp only [List.length_cons, List.length_nil]; omega)]
        cases hr : rdF a F k (X.drop (at0 + 1)) with
        | bad c =>
          rw [hr] at m1 hle
          have h2 := hle.1
          simp only [Rd.within, List.length_drop] at h2
          obtain ⟨j1, j2, j3⟩ := m1
          simp only at j1 j2 j3
          refine ⟨_, pre (by omega), ?_⟩
          simp only [spF]
          exact ⟨by rw [j1, show at0 + (1 + c) = at0 + 1 + c by omega], j2, by simp; omega⟩
        | ok f c =>
          rw [hr] at m1 hle
          have h2 := hle.1
          simp only [Rd.within, List.length_drop] at h2
          have h3 := (hle.2 f c rfl).1
          simp only [spF, Prod.mk.injEq, and_true] at m1
          obtain ⟨rfl, rfl, rfl⟩ := m1
          refine ⟨_, pre (by omega), ?_⟩
          simp only [spF]
          rw [show at0 + (1 + c) = at0 + 1 + c by omega]
      · rw [if_neg h126]
        have n126 : ((((X[at0]).toNat : Nat) : Int) == 126) = false := by simp; omega
        by_cases hq : (X[at0]).toNat = 33 ∨ (X[at0]).toNat = 63
        · rw [if_pos hq]
          have core : ∀ (op : Int), op = (if (X[at0]).toNat = 63 then 6 else 5) → ∀ R, (if (((at0 + 1 : Nat) : Int) == (List.length X : Int)) = true then (some (([], ((at0 + 1 : Nat) : Int), false, ()), ())) else ((idx X ((at0 + 1 : Nat) : Int)).bind fun b6 => ((c_spec_l1In M (IntKind.i64.wrap ((UInt8.toNat b6 : Nat) : Int)) (65 : Int) (70 : Int)).bind fun r7 => (if (!r7.1.1) = true then (some (([], ((at0 + 1 : Nat) : Int), false, ()), ())) else ((c_spec_l14Read M (a, ()) X (IntKind.i64.wrap ((at0 : Int) + (2 : Int)))).bind fun r8 => ((idx X ((at0 + 1 : Nat) : Int)).bind fun b9 => (if (List.length r8.1.1 + List.length ([(op, (IntKind.i64.wrap (IntKind.u8.wrap (((UInt8.toNat b9 : Nat) : Int) - (65 : Int)))), [], [], ())] : List (Int × Int × (List Int) × (List Int) × Unit))) * 64 ≤ 140737488355328 then (some (((r8.1.1 ++ ([(op, (IntKind.i64.wrap (IntKind.u8.wrap (((UInt8.toNat b9 : Nat) : Int) - (65 : Int)))), [], [], ())] : List (Int × Int × (List Int) × (List Int) × Unit))), r8.1.2.1, r8.1.2.2.1, ()), ())) else none))))))) = some R → c_spec_l14Read M (a, ()) X at0 = some R := by
            intro op hop R hR
            apply e_spec_l14Read
            rcases hq with hq | hq
            · have hb : (((X[at0]).toNat : Nat) : Int) = 33 := by omega
              rw [if_neg (by omega)] at hop
              subst hop
              simp only [q_spec_l14Read, h0, idx_lt hlt, hb, Option.bind_some, Sum.elim_inl, Int.reduceBEq, beq_self_eq_true, Bool.false_eq_true, ↓reduceIte, hin]
              exact hR
            · have hb : (((X[at0]).toNat : Nat) : Int) = 63 := by omega
              rw [if_pos hq] at hop
              subst hop
              simp only [q_spec_l14Read, h0, idx_lt hlt, hb, Option.bind_some, Sum.elim_inl, Int.reduceBEq, beq_self_eq_true, Bool.false_eq_true, ↓reduceIte, hin]
              exact hR
          by_cases he1 : at0 + 1 = X.length
          · refine ⟨_, core _ rfl _ (if_pos (by simp; omega)), ?_⟩
            rw [List.drop_eq_nil_of_le (by omega)]
            simp [spF]
          · have hlt1 : at0 + 1 < X.length := by omega
            rw [List.drop_eq_getElem_cons hlt1]
            have hbl := (X[at0 + 1]).toNat_lt
            by_cases hv : 65 ≤ (X[at0 + 1]).toNat ∧ (X[at0 + 1]).toNat ≤ 70
            · obtain ⟨⟨f1, p1, b1, ⟨⟩⟩, c1, m1⟩ := ih (at0 + 1 + 1) (by omega) (by omega)
              have hle := rdF_le (a := a) (F := F) k (X.drop (at0 + 1 + 1))
              have pre : f1.length ≤ 1000 → c_spec_l14Read M (a, ()) X at0 = some ((f1 ++ [((if (X[at0]).toNat = 63 then 6 else 5), (((X[at0 + 1]).toNat : Nat) : Int) - 65, [], [], ())], p1, b1, ()), ()) := by
                intro hl
                apply core _ rfl
                rw [if_neg (by simp; omega), idx_lt hlt1]
                simp only [Option.bind_some, p_l1In]
                rw [w64 (x := (((X[at0 + 1]).toNat : Nat) : Int)) (by omega) (by omega), if_neg (by simp; omega), w64 (x := (at0 : Int) + 2) (by omega) (by omega), show (at0 : Int) + 2 = ((at0 + 1 + 1 : Nat) : Int) by omega, c1]
                simp only [Option.bind_some]
                rw [w8 (by omega) (by omega), w64 (by omega) (by omega), if_pos (by simp only [List.length_cons, List.length_nil]; omega)]
              simp only
              rw [if_pos hv]
              cases hr : rdF a F k (X.drop (at0 + 1 + 1)) with
              | bad c =>
                rw [hr] at m1 hle
                have h2 := hle.1
                simp only [Rd.within, List.length_drop] at h2
                obtain ⟨j1, j2, j3⟩ := m1
                simp only at j1 j2 j3
                refine ⟨_, pre (by omega), ?_⟩
                simp only [spF]
                exact ⟨by rw [j1, show at0 + (2 + c) = at0 + 1 + 1 + c by omega], j2, by simp; omega⟩
              | ok f c =>
                rw [hr] at m1 hle
                have h2 := hle.1
                simp only [Rd.within, List.length_drop] at h2
                have h3 := (hle.2 f c rfl).1
                simp only [spF, Prod.mk.injEq, and_true] at m1
                obtain ⟨rfl, rfl, rfl⟩ := m1
                refine ⟨_, pre (by omega), ?_⟩
                simp only [spF]
                rw [show at0 + (2 + c) = at0 + 1 + 1 + c by omega]
            · simp only
              rw [if_neg hv]
              refine ⟨([], ((at0 + 1 : Nat) : Int), false, ()), core _ rfl _ ?_, by simp [spF]⟩
              rw [if_neg (by simp; omega), idx_lt hlt1]
              simp only [Option.bind_some, p_l1In]
              rw [w64 (x := (((X[at0 + 1]).toNat : Nat) : Int)) (by omega) (by omega), if_pos (by simp; omega)]
        · rw [if_neg hq]
          have n33 : ((((X[at0]).toNat : Nat) : Int) == 33) = false := by simp; omega
          have n63 : ((((X[at0]).toNat : Nat) : Int) == 63) = false := by simp; omega
          by_cases h40 : (X[at0]).toNat = 40
          · rw [if_pos h40]
            have hb : (((X[at0]).toNat : Nat) : Int) = 40 := by omega
            obtain ⟨⟨f1, p1, b1, ⟨⟩⟩, c1, m1⟩ := ih (at0 + 1) (by omega) (by omega)
            have hle := rdF_le (a := a) (F := F) k (X.drop (at0 + 1))
            cases hr : rdF a F k (X.drop (at0 + 1)) with
            | bad c =>
              rw [hr] at m1
              obtain ⟨j1, j2, j3⟩ := m1
              simp only at j1 j2 j3
              subst j1
              subst j2
              refine ⟨([], ((at0 + 1 + c : Nat) : Int), false, ()), e_spec_l14Read _ _ _ ?_, ?_⟩
              · simp only [q_spec_l14Read, h0, idx_lt hlt, hb, Option.bind_some, Sum.elim_inl, Int.reduceBEq, beq_self_eq_true, Bool.false_eq_true, ↓reduceIte, hin, c1, Bool.not_false]
              · simp only [spF]
                exact ⟨by rw [show at0 + (1 + c) = at0 + 1 + c by omega], trivial, by simp⟩
            | ok f c =>
              rw [hr] at m1 hle
              have h2 := hle.1
              simp only [Rd.within, List.length_drop] at h2
              have h3 := (hle.2 f c rfl).1
              simp only [spF, Prod.mk.injEq, and_true] at m1
              obtain ⟨rfl, rfl, rfl⟩ := m1
              simp only [List.drop_drop]
              by_cases he1 : at0 + 1 + c = X.length
              · refine ⟨([], ((at0 + 1 + c : Nat) : Int), false, ()), e_spec_l14Read _ _ _ ?_, ?_⟩
                · simp only [q_spec_l14Read, h0, idx_lt hlt, hb, Option.bind_some, Sum.elim_inl, Int.reduceBEq, beq_self_eq_true, Bool.false_eq_true, ↓reduceIte, hin, c1, Bool.not_true]
                  rw [if_pos (by simp; omega)]
                · rw [List.drop_eq_nil_of_le (by omega)]
                  simp only [spF]
                  exact ⟨by rw [show at0 + (1 + c) = at0 + 1 + c by omega], trivial, by simp⟩
              · have hlt1 : at0 + 1 + c < X.length := by omega
                have hmid : (((at0 + 1 + c : Nat) : Int) == (X.length : Int)) = false := by simp; omega
                rw [List.drop_eq_getElem_cons hlt1]
                simp only
                have core : ((X[at0 + 1 + c]).toNat = 38 ∨ (X[at0 + 1 + c]).toNat = 124) → ∀ (op : Int), op = (if (X[at0 + 1 + c]).toNat = 124 then 4 else 3) → ∀ R, ((c_spec_l14Read M (a, ()) X ((at0 + 1 + c + 1 : Nat) : Int)).bind fun r15 => (if (!r15.1.2.2.1) = true then (some (([], r15.1.2.1, false, ()), ())) else (if (r15.1.2.1 == (List.length X : Int)) = true then (some (([], r15.1.2.1, false, ()), ())) else ((idx X r15.1.2.1).bind fun b16 => (if (((UInt8.toNat b16 : Nat) : Int) != (41 : Int)) = true then (some (([], r15.1.2.1, false, ()), ())) else (if (List.length f1 + List.length r15.1.1) * 64 ≤ 140737488355328 then (if (List.length (f1 ++ r15.1.1) + List.length ([(op, (0 : Int), [], [], ())] : List (Int × Int × (List Int) × (List Int) × Unit))) * 64 ≤ 140737488355328 then (some ((((f1 ++ r15.1.1) ++ ([(op, (0 : Int), [], [], ())] : List (Int × Int × (List Int) × (List Int) × Unit))), (IntKind.i64.wrap (r15.1.2.1 + (1 : Int))), true, ()), ())) else none) else none)))))) = some R → c_spec_l14Read M (a, ()) X at0 = some R := by
                  intro hq2 op hop R hR
                  have hin2 : IntKind.i64.wrap (((at0 + 1 + c : Nat) : Int) + 1) = ((at0 + 1 + c + 1 : Nat) : Int) := inc_nat (by omega)
                  apply e_spec_l14Read
                  rcases hq2 with hq2 | hq2
                  · have hb2 : (((X[at0 + 1 + c]).toNat : Nat) : Int) = 38 := by omega
                    rw [if_neg (by omega)] at hop
                    subst hop
                    simp only [q_spec_l14Read, h0, idx_lt hlt, idx_lt hlt1, hb, hb2, hmid, Option.bind_some, Sum.elim_inl, Int.reduceBEq, Int.reduceBNe, beq_self_eq_true, bne_self_eq_false, Bool.false_eq_true, ↓reduceIte, hin, hin2, c1, Bool.not_true]
                    exact hR
                  · have hb2 : (((X[at0 + 1 + c]).toNat : Nat) : Int) = 124 := by omega
                    rw [if_pos hq2] at hop
                    subst hop
                    simp only [q_spec_l14Read, h0, idx_lt hlt, idx_lt hlt1, hb, hb2, hmid, Option.bind_some, Sum.elim_inl, Int.reduceBEq, Int.reduceBNe, beq_self_eq_true, bne_self_eq_false, Bool.false_eq_true, ↓reduceIte, hin, hin2, c1, Bool.not_true]
                    exact hR
                by_cases hq2 : (X[at0 + 1 + c]).toNat = 38 ∨ (X[at0 + 1 + c]).toNat = 124
                · rw [if_pos hq2]
                  obtain ⟨⟨g1, p2, b2, ⟨⟩⟩, c2, m2⟩ := ih (at0 + 1 + c + 1) (by omega) (by omega)
                  have hle2 := rdF_le (a := a) (F := F) k (X.drop (at0 + 1 + c + 1))
                  cases hr2 : rdF a F k (X.drop (at0 + 1 + c + 1)) with
                  | bad c' =>
                    rw [hr2] at m2
                    obtain ⟨j1, j2, j3⟩ := m2
                    simp only at j1 j2 j3
                    subst j1
                    subst j2
                    refine ⟨_, core hq2 _ rfl _ (by rw [c2]; rfl), ?_⟩
                    simp only [spF]
                    exact ⟨by rw [show at0 + (1 + c + 1 + c') = at0 + 1 + c + 1 + c' by omega], trivial, by simp⟩
                  | ok g c' =>
                    rw [hr2] at m2 hle2
                    have h4 := hle2.1
                    simp only [Rd.within, List.length_drop] at h4
                    have h5 := (hle2.2 g c' rfl).1
                    simp only [spF, Prod.mk.injEq, and_true] at m2
                    obtain ⟨rfl, rfl, rfl⟩ := m2
                    simp only [List.drop_drop]
                    by_cases he2 : at0 + 1 + c + 1 + c' = X.length
                    · refine ⟨([], ((at0 + 1 + c + 1 + c' : Nat) : Int), false, ()), core hq2 _ rfl _ ?_, ?_⟩
                      · rw [c2]
                        simp only [Option.bind_some]
                        rw [if_neg (by simp), if_pos (by simp; omega)]
                      · rw [List.drop_eq_nil_of_le (by omega)]
                        simp only [spF]
                        exact ⟨by rw [show at0 + (1 + c + 1 + c') = at0 + 1 + c + 1 + c' by omega], trivial, by simp⟩
                    · have hlt2 : at0 + 1 + c + 1 + c' < X.length := by omega
                      rw [List.drop_eq_getElem_cons hlt2]
                      simp only
                      by_cases h41 : (X[at0 + 1 + c + 1 + c']).toNat = 41
                      · rw [if_pos h41]
                        refine ⟨_, core hq2 _ rfl ((((f1 ++ g1) ++ [((if (X[at0 + 1 + c]).toNat = 124 then 4 else 3), 0, [], [], ())]), ((at0 + 1 + c + 1 + c' + 1 : Nat) : Int), true, ()), ()) ?_, ?_⟩
                        · rw [c2]
                          simp only [Option.bind_some]
                          rw [if_neg (by simp), if_neg (by simp; omega), idx_lt hlt2]
                          simp only [Option.bind_some]
                          rw [if_neg (by simp [h41]), if_pos (by omega), if_pos (by simp only [List.length_append, List.length_cons, List.length_nil]; omega), inc_nat (by omega)]
                        · simp only [spF]
                          rw [show at0 + (1 + c + 1 + c' + 1) = at0 + 1 + c + 1 + c' + 1 by omega]
                      · rw [if_neg h41]
                        refine ⟨([], ((at0 + 1 + c + 1 + c' : Nat) : Int), false, ()), core hq2 _ rfl _ ?_, ?_⟩
                        · rw [c2]
                          simp only [Option.bind_some]
                          rw [if_neg (by simp), if_neg (by simp; omega), idx_lt hlt2]
                          simp only [Option.bind_some]
                          rw [if_pos (by simp; omega)]
                        · simp only [spF]
                          exact ⟨by rw [show at0 + (1 + c + 1 + c') = at0 + 1 + c + 1 + c' by omega], trivial, by simp⟩
                · rw [if_neg hq2]
                  have m38 : ((((X[at0 + 1 + c]).toNat : Nat) : Int) != 38) = true := by simp; omega
                  have m124 : ((((X[at0 + 1 + c]).toNat : Nat) : Int) != 124) = true := by simp; omega
                  refine ⟨([], ((at0 + 1 + c : Nat) : Int), false, ()), e_spec_l14Read _ _ _ ?_, ?_⟩
                  · simp only [q_spec_l14Read, h0, idx_lt hlt, idx_lt hlt1, hb, hmid, m38, m124, Option.bind_some, Sum.elim_inl, Int.reduceBEq, beq_self_eq_true, Bool.false_eq_true, ↓reduceIte, hin, c1, Bool.not_true]
                  · simp only [spF]
                    exact ⟨by rw [show at0 + (1 + c) = at0 + 1 + c by omega], trivial, by simp⟩
          · rw [if_neg h40]
            have n40 : ((((X[at0]).toNat : Nat) : Int) == 40) = false := by simp; omega
            have core : ∀ R, ((c_spec_l1ReadTerm M (a, ()) X at0).bind fun r21 => (if (!r21.1.2.2.1) = true then (some (([], r21.1.2.1, false, ()), ())) else (if (r21.1.2.1 == (List.length X : Int)) = true then (some (([], r21.1.2.1, false, ()), ())) else ((idx X r21.1.2.1).bind fun b22 => (if (((UInt8.toNat b22 : Nat) : Int) != (61 : Int)) = true then (some (([], r21.1.2.1, false, ()), ())) else ((c_spec_l1ReadTerm M (a, ()) X (IntKind.i64.wrap (r21.1.2.1 + (1 : Int)))).bind fun r23 => (some ((([((1 : Int), (0 : Int), r21.1.1, r23.1.1, ())] : List (Int × Int × (List Int) × (List Int) × Unit)), r23.1.2.1, r23.1.2.2.1, ()), ())))))))) = some R → c_spec_l14Read M (a, ()) X at0 = some R := by
              intro R hR
              apply e_spec_l14Read
              simp only [q_spec_l14Read, h0, idx_lt hlt, n126, n33, n63, n40, Option.bind_some, Sum.elim_inl, Bool.false_eq_true, ↓reduceIte]
              exact hR
            have ht := p_spT hg X hX F at0 ha (by omega)
            have hle := rdT_le (a := a) F (X.drop at0)
            rw [List.drop_eq_getElem_cons hlt] at ht hle
            cases hr : rdT a F (X[at0] :: X.drop (at0 + 1)) with
            | bad c =>
              rw [hr] at ht
              simp only [spT] at ht
              refine ⟨([], ((at0 + c : Nat) : Int), false, ()), core _ ?_, ?_⟩
              · rw [ht]; rfl
              · simp only [spF]
                exact ⟨trivial, trivial, by simp⟩
            | ok l c =>
              rw [hr] at ht hle
              simp only [spT] at ht
              have h2 := hle.1
              simp only [Rd.within, List.length_cons, List.length_drop] at h2
              have hdd : (X[at0] :: X.drop (at0 + 1)).drop c = X.drop (at0 + c) := by rw [← List.drop_eq_getElem_cons hlt, List.drop_drop]
              simp only [hdd]
              by_cases he1 : at0 + c = X.length
              · refine ⟨([], ((at0 + c : Nat) : Int), false, ()), core _ ?_, ?_⟩
                · rw [ht]
                  simp only [Option.bind_some]
                  rw [if_neg (by simp), if_pos (by simp; omega)]
                · rw [List.drop_eq_nil_of_le (by omega)]
                  simp only [spF]
                  exact ⟨trivial, trivial, by simp⟩
              · have hlt1 : at0 + c < X.length := by omega
                rw [List.drop_eq_getElem_cons hlt1]
                simp only
                by_cases h61 : (X[at0 + c]).toNat = 61
                · rw [if_pos h61]
                  have ht2 := p_spT hg X hX F (at0 + c + 1) (by omega) (by omega)
                  have pre : ∀ y, c_spec_l1ReadTerm M (a, ()) X ((at0 + c + 1 : Nat) : Int) = some (y, ()) → c_spec_l14Read M (a, ()) X at0 = some (([(1, 0, l, y.1, ())], y.2.1, y.2.2.1, ()), ()) := by
                    intro y hy
                    apply core
                    rw [ht]
                    simp only [Option.bind_some]
                    rw [if_neg (by simp), if_neg (by simp; omega), idx_lt hlt1]
                    simp only [Option.bind_some]
                    rw [if_neg (by simp [h61]), inc_nat (by omega), hy]
                    rfl
                  cases hr2 : rdT a F (X.drop (at0 + c + 1)) with
                  | bad c2 =>
                    rw [hr2] at ht2
                    refine ⟨_, pre _ ht2, ?_⟩
                    simp only [spF]
                    exact ⟨by rw [show at0 + (c + 1 + c2) = at0 + c + 1 + c2 by omega], trivial, by simp; omega⟩
                  | ok t c2 =>
                    rw [hr2] at ht2
                    refine ⟨_, pre _ ht2, ?_⟩
                    simp only [spF]
                    rw [show at0 + (c + 1 + c2) = at0 + c + 1 + c2 by omega]
                · rw [if_neg h61]
                  refine ⟨([], ((at0 + c : Nat) : Int), false, ()), core _ ?_, ?_⟩
                  · rw [ht]
                    simp only [Option.bind_some]
                    rw [if_neg (by simp), if_neg (by simp; omega), idx_lt hlt1]
                    simp only [Option.bind_some]
                    rw [if_pos (by simp; omega)]
                  · simp only [spF]
                    exact ⟨trivial, trivial, by simp⟩

end Go.Proofs.YtkdceefdipljaaaFft.Ev

/- Plain laws: reading a formula: the program's reader. No condition but sizes. -/
namespace Go.Proofs.YtkdceefdipljaaaFft.Ev
open Go
set_option autoImplicit false
set_option linter.unusedVariables false
set_option linter.unusedSimpArgs false

def imF (a : List Int) (X : List UInt8) (i : Nat) (y : Rd (List TForm)) (r : (List TForm × Unit) × (TP × Unit)) : Prop := match y with
  | .bad c => r.2.1 = mkP a X (i + c) true ∧ r.1.1.length ≤ c
  | .ok f c => r = ((f, ()), (mkP a X (i + c) false, ()))

theorem p_imF {a : List Int} (hg : gS a = true) (X : List UInt8) (hX : X.length ≤ 1000) (F : Nat) (hF : X.length < F) : ∀ (k i : Nat), i ≤ X.length → X.length - i < k → ∃ r, c_impl_parser_form M (mkP a X i false) = some r ∧ imF a X i (rdF a F k (X.drop i)) r := by
  intro k
  induction k with
  | zero => intro i _ h; omega
  | succ k ih =>
    intro i hi hk
    have hnext := p_nextP a X i false
    have hin : IntKind.i64.wrap ((i : Int) + 1) = ((i + 1 : Nat) : Int) := inc_nat (by omega)
    -- an equation
    have dflt : ((nx X i false : Int) == 126) = false → ((nx X i false : Int) == 33) = false → ((nx X i false : Int) == 63) = false → ((nx X i false : Int) == 40) = false → ∀ R, ((c_impl_parser_term M (mkP a X i false)).bind fun r12 => (if r12.2.1.2.2.2.2.1 = true then (some (([], ()), (((r12.2.1.1.1, ()), r12.2.1.2.1, r12.2.1.2.2.1, r12.2.1.2.2.2.1, r12.2.1.2.2.2.2.1, ()), ()))) else ((c_impl_parser_take M ((r12.2.1.1.1, ()), r12.2.1.2.1, r12.2.1.2.2.1, r12.2.1.2.2.2.1, r12.2.1.2.2.2.2.1, ()) ([61] : List UInt8)).bind fun r13 => (if r13.2.1.2.2.2.2.1 = true then (some (([], ()), (((r13.2.1.1.1, ()), r13.2.1.2.1, r13.2.1.2.2.1, r13.2.1.2.2.2.1, r13.2.1.2.2.2.2.1, ()), ()))) else ((c_impl_parser_term M ((r13.2.1.1.1, ()), r13.2.1.2.1, r13.2.1.2.2.1, r13.2.1.2.2.2.1, r13.2.1.2.2.2.2.1, ())).bind fun r14 => (some ((([((1 : Int), (0 : Int), r12.1.1, r14.1.1, ())] : List (Int × Int × (List Int) × (List Int) × Unit)), ()), (((r14.2.1.1.1, ()), r14.2.1.2.1, r14.2.1.2.2.1, r14.2.1.2.2.2.1, r14.2.1.2.2.2.2.1, ()), ())))))))) = some R → c_impl_parser_form M (mkP a X i false) = some R := by
      intro n126 n33 n63 n40 R hR
      apply e_impl_parser_form
      simp only [q_impl_parser_form]
      rw [show (((mkP a X i false).1.1, ()), (mkP a X i false).2.1, (mkP a X i false).2.2.1, (mkP a X i false).2.2.2.1, (mkP a X i false).2.2.2.2.1, ()) = mkP a X i false from rfl, hnext]
      simp only [Option.bind_some, n126, n33, n63, n40, Bool.false_eq_true, ↓reduceIte, Sum.elim_inl]
      exact hR
    have term : ((nx X i false : Int) == 126) = false → ((nx X i false : Int) == 33) = false → ((nx X i false : Int) == 63) = false → ((nx X i false : Int) == 40) = false → ∃ r, c_impl_parser_form M (mkP a X i false) = some r ∧ imF a X i (match rdT a F (X.drop i) with
      | .bad c => .bad c
      | .ok l c => match (X.drop i).drop c with
        | [] => .bad c
        | e :: r2 => if e.toNat = 61 then match rdT a F r2 with
            | .bad c2 => .bad (c + 1 + c2)
            | .ok t c2 => .ok [(1, 0, l, t, ())] (c + 1 + c2)
          else .bad c) r := by
      intro n126 n33 n63 n40
      have core := dflt n126 n33 n63 n40
      obtain ⟨⟨⟨l1, ⟨⟩⟩, ⟨q1, ⟨⟩⟩⟩, t1, t2⟩ := p_imT hg X hX F i hi (by omega)
      have hle := rdT_le (a := a) F (X.drop i)
      rw [t1] at core
      simp only [Option.bind_some] at core
      cases hr : rdT a F (X.drop i) with
      | bad c =>
        rw [hr] at t2
        obtain ⟨t3, -⟩ := t2
        simp only at t3
        subst t3
        refine ⟨(([], ()), (mkP a X (i + c) true, ())), core _ ?_, rfl, by simp⟩
        simp only [↓reduceIte]
      | ok l c =>
        rw [hr] at t2 hle
        have h2 := hle.1
        simp only [Rd.within, List.length_drop] at h2
        simp only [imT, Prod.mk.injEq, and_true] at t2
        obtain ⟨rfl, rfl⟩ := t2
        have core2 : ∀ R, ((c_impl_parser_take M (mkP a X (i + c) false) ([61] : List UInt8)).bind fun r13 => (if r13.2.1.2.2.2.2.1 = true then (some (([], ()), (((r13.2.1.1.1, ()), r13.2.1.2.1, r13.2.1.2.2.1, r13.2.1.2.2.2.1, r13.2.1.2.2.2.2.1, ()), ()))) else ((c_impl_parser_term M ((r13.2.1.1.1, ()), r13.2.1.2.1, r13.2.1.2.2.1, r13.2.1.2.2.2.1, r13.2.1.2.2.2.2.1, ())).bind fun r14 => (some ((([((1 : Int), (0 : Int), l1, r14.1.1, ())] : List (Int × Int × (List Int) × (List Int) × Unit)), ()), (((r14.2.1.1.1, ()), r14.2.1.2.1, r14.2.1.2.2.1, r14.2.1.2.2.2.1, r14.2.1.2.2.2.2.1, ()), ())))))) = some R → c_impl_parser_form M (mkP a X i false) = some R := by
          intro R hR
          apply core
          rw [if_neg (by simp)]
          exact hR
        have hk61 := p_take a X (i + c) (by omega) false [61] (by simp)
        simp only [List.drop_drop]
        by_cases he1 : i + c = X.length
        · rw [nx_end (by omega), if_neg (by simp)] at hk61
          rw [List.drop_eq_nil_of_le (by omega)]
          refine ⟨(([], ()), (mkP a X (i + c) true, ())), core2 _ ?_, rfl, by simp⟩
          rw [hk61]; rfl
        · have hlt1 : i + c < X.length := by omega
          rw [nx_get hlt1] at hk61
          rw [List.drop_eq_getElem_cons hlt1]
          simp only
          by_cases h61 : (X[i + c]).toNat = 61
          · rw [if_pos ⟨by simp [h61], by omega⟩] at hk61
            rw [if_pos h61]
            obtain ⟨⟨⟨l2, ⟨⟩⟩, ⟨q2, ⟨⟩⟩⟩, u1, u2⟩ := p_imT hg X hX F (i + c + 1) (by omega) (by omega)
            have pre : c_impl_parser_form M (mkP a X i false) = some (([(1, 0, l1, l2, ())], ()), (q2, ())) := by
              apply core2
              rw [hk61]
              simp only [Option.bind_some]
              rw [if_neg (by simp)]
              have u1' : c_impl_parser_term M ((a, ()), X, ((i + c + 1 : Nat) : Int), 12, false, ()) = some ((l2, ()), (q2, ())) := u1
              rw [u1']
              rfl
            cases hr2 : rdT a F (X.drop (i + c + 1)) with
            | bad c2 =>
              rw [hr2] at u2
              obtain ⟨u3, -⟩ := u2
              simp only at u3
              subst u3
              refine ⟨_, pre, ?_⟩
              simp only [imF]
              exact ⟨by rw [show i + (c + 1 + c2) = i + c + 1 + c2 by omega], by simp only [List.length_cons, List.length_nil]; omega⟩
            | ok t c2 =>
              rw [hr2] at u2
              simp only [imT, Prod.mk.injEq, and_true] at u2
              obtain ⟨rfl, rfl⟩ := u2
              refine ⟨_, pre, ?_⟩
              simp only [imF]
              rw [show i + (c + 1 + c2) = i + c + 1 + c2 by omega]
          · rw [if_neg (fun hh => by have := hh.1; simp at this; omega)] at hk61
            rw [if_neg h61]
            refine ⟨(([], ()), (mkP a X (i + c) true, ())), core2 _ ?_, rfl, by simp⟩
            rw [hk61]; rfl
    by_cases hend : i = X.length
    · have h0 := nx_end (X := X) (i := i) (by omega) false
      rw [h0] at term
      obtain ⟨r, r1, r2⟩ := term rfl rfl rfl rfl
      refine ⟨r, r1, ?_⟩
      rw [List.drop_eq_nil_of_le (by omega)] at r2 ⊢
      cases F with
      | zero => omega
      | succ F => simpa [rdT, rdF] using r2
    · have hlt : i < X.length := by omega
      have hnx := nx_get hlt
      rw [hnx] at hnext term dflt
      rw [List.drop_eq_getElem_cons hlt]
      rw [List.drop_eq_getElem_cons hlt] at term
      simp only [rdF]
      have stt : (((mkP a X i false).1.1, ()), (mkP a X i false).2.1, (mkP a X i false).2.2.1, (mkP a X i false).2.2.2.1, (mkP a X i false).2.2.2.2.1, ()) = mkP a X i false := rfl
      by_cases h126 : (X[i]).toNat = 126
      · rw [if_pos h126]
        have hb : (((X[i]).toNat : Nat) : Int) = 126 := by omega
        obtain ⟨⟨⟨f1, ⟨⟩⟩, ⟨q1, ⟨⟩⟩⟩, c1, m1⟩ := ih (i + 1) (by omega) (by omega)
        have c1' : c_impl_parser_form M ((a, ()), X, ((i + 1 : Nat) : Int), 12, false, ()) = some ((f1, ()), (q1, ())) := c1
        have hle := rdF_le (a := a) (F := F) k (X.drop (i + 1))
        have pre : f1.length ≤ 1000 → c_impl_parser_form M (mkP a X i false) = some ((f1 ++ [(2, 0, [], [], ())], ()), (q1, ())) := by
          intro hl
          apply e_impl_parser_form
          simp only [q_impl_parser_form]
          rw [stt, hnext]
          simp only [Option.bind_some, hb, beq_self_eq_true, ↓reduceIte, hin, c1']
          rw [if_pos (by simp only [List.length_cons, List.length_nil]; omega)]
        cases hr : rdF a F k (X.drop (i + 1)) with
        | bad c =>
          rw [hr] at m1 hle
          have h2 := hle.1
          simp only [Rd.within, List.length_drop] at h2
          obtain ⟨j1, j2⟩ := m1
          simp only at j1 j2
          subst j1
          refine ⟨_, pre (by omega), ?_⟩
          simp only [imF]
          exact ⟨by rw [show i + (1 + c) = i + 1 + c by omega], by simp; omega⟩
        | ok f c =>
          rw [hr] at m1 hle
          have h2 := hle.1
          simp only [Rd.within, List.length_drop] at h2
          have h3 := (hle.2 f c rfl).1
          simp only [imF, Prod.mk.injEq, and_true] at m1
          obtain ⟨rfl, rfl⟩ := m1
          refine ⟨_, pre (by omega), ?_⟩
          simp only [imF]
          rw [show i + (1 + c) = i + 1 + c by omega]
      · rw [if_neg h126]
        have n126 : ((((X[i]).toNat : Nat) : Int) == 126) = false := by simp; omega
        by_cases hq : (X[i]).toNat = 33 ∨ (X[i]).toNat = 63
        · rw [if_pos hq]
          have core : ∀ (op : Int), op = (if (X[i]).toNat = 63 then 6 else 5) → ∀ R, ((c_impl_parser_take M (mkP a X (i + 1) false) ([65, 66, 67, 68, 69, 70] : List UInt8)).bind fun r5 => (if r5.2.1.2.2.2.2.1 = true then (some (([], ()), (((r5.2.1.1.1, ()), r5.2.1.2.1, r5.2.1.2.2.1, r5.2.1.2.2.2.1, r5.2.1.2.2.2.2.1, ()), ()))) else ((c_impl_parser_form M ((r5.2.1.1.1, ()), r5.2.1.2.1, r5.2.1.2.2.1, r5.2.1.2.2.2.1, r5.2.1.2.2.2.2.1, ())).bind fun r6 => (if (List.length r6.1.1 + List.length ([(op, (IntKind.i64.wrap (IntKind.u8.wrap (r5.1.1 - (65 : Int)))), [], [], ())] : List (Int × Int × (List Int) × (List Int) × Unit))) * 64 ≤ 140737488355328 then (some (((r6.1.1 ++ ([(op, (IntKind.i64.wrap (IntKind.u8.wrap (r5.1.1 - (65 : Int)))), [], [], ())] : List (Int × Int × (List Int) × (List Int) × Unit))), ()), (((r6.2.1.1.1, ()), r6.2.1.2.1, r6.2.1.2.2.1, r6.2.1.2.2.2.1, r6.2.1.2.2.2.2.1, ()), ()))) else none)))) = some R → c_impl_parser_form M (mkP a X i false) = some R := by
            intro op hop R hR
            apply e_impl_parser_form
            simp only [q_impl_parser_form]
            rw [stt, hnext]
            rcases hq with hq | hq
            · have hb : (((X[i]).toNat : Nat) : Int) = 33 := by omega
              rw [if_neg (by omega)] at hop
              subst hop
              simp only [hb, Option.bind_some, Sum.elim_inl, Int.reduceBEq, beq_self_eq_true, Bool.false_eq_true, ↓reduceIte, hin]
              exact hR
            · have hb : (((X[i]).toNat : Nat) : Int) = 63 := by omega
              rw [if_pos hq] at hop
              subst hop
              simp only [hb, Option.bind_some, Sum.elim_inl, Int.reduceBEq, beq_self_eq_true, Bool.false_eq_true, ↓reduceIte, hin]
              exact hR
          have htk := p_take a X (i + 1) (by omega) false [65, 66, 67, 68, 69, 70] (by simp)
          by_cases he1 : i + 1 = X.length
          · rw [nx_end (by omega), if_neg (by simp)] at htk
            refine ⟨(([], ()), (mkP a X (i + 1) true, ())), core _ rfl _ (by rw [htk]; rfl), ?_⟩
            rw [List.drop_eq_nil_of_le (by omega)]
            exact ⟨rfl, by simp⟩
          · have hlt1 : i + 1 < X.length := by omega
            rw [nx_get hlt1] at htk
            rw [List.drop_eq_getElem_cons hlt1]
            have hbl := (X[i + 1]).toNat_lt
            simp only
            by_cases hv : 65 ≤ (X[i + 1]).toNat ∧ (X[i + 1]).toNat ≤ 70
            · rw [if_pos ⟨by simp; omega, by omega⟩] at htk
              rw [if_pos hv]
              obtain ⟨⟨⟨f1, ⟨⟩⟩, ⟨q1, ⟨⟩⟩⟩, c1, m1⟩ := ih (i + 1 + 1) (by omega) (by omega)
              have c1' : c_impl_parser_form M ((a, ()), X, ((i + 1 + 1 : Nat) : Int), 12, false, ()) = some ((f1, ()), (q1, ())) := c1
              have hle := rdF_le (a := a) (F := F) k (X.drop (i + 1 + 1))
              have pre : f1.length ≤ 1000 → c_impl_parser_form M (mkP a X i false) = some ((f1 ++ [((if (X[i]).toNat = 63 then 6 else 5), (((X[i + 1]).toNat : Nat) : Int) - 65, [], [], ())], ()), (q1, ())) := by
                intro hl
                apply core _ rfl
                rw [htk]
                simp only [Option.bind_some]
                rw [if_neg (by simp), c1']
                simp only [Option.bind_some]
                rw [w8 (by omega) (by omega), w64 (by omega) (by omega), if_pos (by simp only [List.length_cons, List.length_nil]; omega)]
              cases hr : rdF a F k (X.drop (i + 1 + 1)) with
              | bad c =>
                rw [hr] at m1 hle
                have h2 := hle.1
                simp only [Rd.within, List.length_drop] at h2
                obtain ⟨j1, j2⟩ := m1
                simp only at j1 j2
                subst j1
                refine ⟨_, pre (by omega), ?_⟩
                simp only [imF]
                exact ⟨by rw [show i + (2 + c) = i + 1 + 1 + c by omega], by simp; omega⟩
              | ok f c =>
                rw [hr] at m1 hle
                have h2 := hle.1
                simp only [Rd.within, List.length_drop] at h2
                have h3 := (hle.2 f c rfl).1
                simp only [imF, Prod.mk.injEq, and_true] at m1
                obtain ⟨rfl, rfl⟩ := m1
                refine ⟨_, pre (by omega), ?_⟩
                simp only [imF]
                rw [show i + (2 + c) = i + 1 + 1 + c by omega]
            · rw [if_neg (fun hh => by have := hh.1; simp at this; omega)] at htk
              rw [if_neg hv]
              refine ⟨(([], ()), (mkP a X (i + 1) true, ())), core _ rfl _ (by rw [htk]; rfl), rfl, by simp⟩
        · rw [if_neg hq]
          have n33 : ((((X[i]).toNat : Nat) : Int) == 33) = false := by simp; omega
          have n63 : ((((X[i]).toNat : Nat) : Int) == 63) = false := by simp; omega
          by_cases h40 : (X[i]).toNat = 40
          · rw [if_pos h40]
            have hb : (((X[i]).toNat : Nat) : Int) = 40 := by omega
            obtain ⟨⟨⟨f1, ⟨⟩⟩, ⟨q1, ⟨⟩⟩⟩, c1, m1⟩ := ih (i + 1) (by omega) (by omega)
            have c1' : c_impl_parser_form M ((a, ()), X, ((i + 1 : Nat) : Int), 12, false, ()) = some ((f1, ()), (q1, ())) := c1
            have hle := rdF_le (a := a) (F := F) k (X.drop (i + 1))
            cases hr : rdF a F k (X.drop (i + 1)) with
            | bad c =>
              rw [hr] at m1
              obtain ⟨j1, j2⟩ := m1
              simp only at j1 j2
              subst j1
              refine ⟨(([], ()), (mkP a X (i + 1 + c) true, ())), e_impl_parser_form _ ?_, ?_⟩
              · simp only [q_impl_parser_form]
                rw [stt, hnext]
                simp only [hb, Option.bind_some, Sum.elim_inl, Int.reduceBEq, beq_self_eq_true, Bool.false_eq_true, ↓reduceIte, hin, c1']
              · simp only [imF]
                exact ⟨by rw [show i + (1 + c) = i + 1 + c by omega], by simp⟩
            | ok f c =>
              rw [hr] at m1 hle
              have h2 := hle.1
              simp only [Rd.within, List.length_drop] at h2
              have h3 := (hle.2 f c rfl).1
              simp only [imF, Prod.mk.injEq, and_true] at m1
              obtain ⟨rfl, rfl⟩ := m1
              have htk := p_take a X (i + 1 + c) (by omega) false [38, 124] (by simp)
              have core : ∀ (y : Int) (j : Nat) (b : Bool), c_impl_parser_take M (mkP a X (i + 1 + c) false) [38, 124] = some ((y, ()), (mkP a X j b, ())) → ∀ (op : Int), op = (if (y == 124) = true then 4 else 3) → ∀ R, (if b = true then (some (([], ()), (mkP a X j b, ()))) else ((c_impl_parser_form M (mkP a X j b)).bind fun r10 => (if (List.length f1 + List.length r10.1.1) * 64 ≤ 140737488355328 then (if r10.2.1.2.2.2.2.1 = true then (some (([], ()), (((r10.2.1.1.1, ()), r10.2.1.2.1, r10.2.1.2.2.1, r10.2.1.2.2.2.1, r10.2.1.2.2.2.2.1, ()), ()))) else ((c_impl_parser_take M ((r10.2.1.1.1, ()), r10.2.1.2.1, r10.2.1.2.2.1, r10.2.1.2.2.2.1, r10.2.1.2.2.2.2.1, ()) ([41] : List UInt8)).bind fun r11 => (if (List.length (f1 ++ r10.1.1) + List.length ([(op, (0 : Int), [], [], ())] : List (Int × Int × (List Int) × (List Int) × Unit))) * 64 ≤ 140737488355328 then (some ((((f1 ++ r10.1.1) ++ ([(op, (0 : Int), [], [], ())] : List (Int × Int × (List Int) × (List Int) × Unit))), ()), (((r11.2.1.1.1, ()), r11.2.1.2.1, r11.2.1.2.2.1, r11.2.1.2.2.2.1, r11.2.1.2.2.2.2.1, ()), ()))) else none))) else none))) = some R → c_impl_parser_form M (mkP a X i false) = some R := by
                intro y j b hy op hop R hR
                have hy' : c_impl_parser_take M ((a, ()), X, ((i + 1 + c : Nat) : Int), 12, false, ()) [38, 124] = some ((y, ()), (mkP a X j b, ())) := hy
                apply e_impl_parser_form
                simp only [q_impl_parser_form]
                rw [stt, hnext]
                simp only [hb, Option.bind_some, Sum.elim_inl, Int.reduceBEq, beq_self_eq_true, Bool.false_eq_true, ↓reduceIte, hin, c1', hy']
                by_cases h124 : (y == 124) = true
                · rw [if_pos h124] at hop
                  subst hop
                  rw [if_pos h124]
                  simp only [Option.bind_some, Sum.elim_inl]
                  exact hR
                · rw [if_neg h124] at hop
                  subst hop
                  rw [if_neg h124]
                  simp only [Option.bind_some, Sum.elim_inl]
                  exact hR
              simp only [List.drop_drop]
              by_cases he1 : i + 1 + c = X.length
              · rw [nx_end (by omega), if_neg (by simp)] at htk
                rw [List.drop_eq_nil_of_le (by omega)]
                refine ⟨(([], ()), (mkP a X (i + 1 + c) true, ())), core _ _ _ htk _ rfl _ (by rw [if_pos rfl]), ?_⟩
                simp only [imF]
                exact ⟨by rw [show i + (1 + c) = i + 1 + c by omega], by simp⟩
              · have hlt1 : i + 1 + c < X.length := by omega
                rw [nx_get hlt1] at htk
                rw [List.drop_eq_getElem_cons hlt1]
                simp only
                by_cases hq2 : (X[i + 1 + c]).toNat = 38 ∨ (X[i + 1 + c]).toNat = 124
                · rw [if_pos ⟨by simp; omega, by omega⟩] at htk
                  rw [if_pos hq2]
                  have core2 := core _ _ _ htk (if (X[i + 1 + c]).toNat = 124 then 4 else 3) (by
                    by_cases h : (X[i + 1 + c]).toNat = 124
                    · rw [if_pos h, if_pos (by simp [h])]
                    · rw [if_neg h, if_neg (by simp; omega)])
                  obtain ⟨⟨⟨g1, ⟨⟩⟩, ⟨q2, ⟨⟩⟩⟩, c2, m2⟩ := ih (i + 1 + c + 1) (by omega) (by omega)
                  have hle2 := rdF_le (a := a) (F := F) k (X.drop (i + 1 + c + 1))
                  rw [c2] at core2
                  simp only [Option.bind_some] at core2
                  cases hr2 : rdF a F k (X.drop (i + 1 + c + 1)) with
                  | bad c' =>
                    rw [hr2] at m2 hle2
                    have h4 := hle2.1
                    simp only [Rd.within, List.length_drop] at h4
                    obtain ⟨j1, j2⟩ := m2
                    simp only at j1 j2
                    subst j1
                    refine ⟨(([], ()), (mkP a X (i + 1 + c + 1 + c') true, ())), core2 _ ?_, ?_⟩
                    · rw [if_neg (by simp), if_pos (by omega)]
                      simp only [↓reduceIte]
                    · simp only [imF]
                      exact ⟨by rw [show i + (1 + c + 1 + c') = i + 1 + c + 1 + c' by omega], by simp⟩
                  | ok g c' =>
                    rw [hr2] at m2 hle2
                    have h4 := hle2.1
                    simp only [Rd.within, List.length_drop] at h4
                    have h5 := (hle2.2 g c' rfl).1
                    simp only [imF, Prod.mk.injEq, and_true] at m2
                    obtain ⟨rfl, rfl⟩ := m2
                    have htk2 := p_take a X (i + 1 + c + 1 + c') (by omega) false [41] (by simp)
                    have fin : ∀ (y : Int) (j : Nat) (b : Bool), c_impl_parser_take M (mkP a X (i + 1 + c + 1 + c') false) [41] = some ((y, ()), (mkP a X j b, ())) → c_impl_parser_form M (mkP a X i false) = some (((f1 ++ g1) ++ [((if (X[i + 1 + c]).toNat = 124 then 4 else 3), 0, [], [], ())], ()), (mkP a X j b, ())) := by
                      intro y j b hy
                      have hy' : c_impl_parser_take M ((a, ()), X, ((i + 1 + c + 1 + c' : Nat) : Int), 12, false, ()) [41] = some ((y, ()), (mkP a X j b, ())) := hy
                      apply core2
                      rw [if_neg (by simp), if_pos (by omega), if_neg (by simp), hy']
                      simp only [Option.bind_some]
                      rw [if_pos (by simp only [List.length_append, List.length_cons, List.length_nil]; omega)]
                    simp only [List.drop_drop]
                    by_cases he2 : i + 1 + c + 1 + c' = X.length
                    · rw [nx_end (by omega), if_neg (by simp)] at htk2
                      rw [List.drop_eq_nil_of_le (by omega)]
                      refine ⟨_, fin _ _ _ htk2, ?_⟩
                      simp only [imF]
                      exact ⟨by rw [show i + (1 + c + 1 + c') = i + 1 + c + 1 + c' by omega], by simp; omega⟩
                    · have hlt2 : i + 1 + c + 1 + c' < X.length := by omega
                      rw [nx_get hlt2] at htk2
                      rw [List.drop_eq_getElem_cons hlt2]
                      simp only
                      by_cases h41 : (X[i + 1 + c + 1 + c']).toNat = 41
                      · rw [if_pos ⟨by simp [h41], by omega⟩] at htk2
                        rw [if_pos h41]
                        refine ⟨_, fin _ _ _ htk2, ?_⟩
                        simp only [imF]
                        rw [show i + (1 + c + 1 + c' + 1) = i + 1 + c + 1 + c' + 1 by omega]
                      · rw [if_neg (fun hh => by have := hh.1; simp at this; omega)] at htk2
                        rw [if_neg h41]
                        refine ⟨_, fin _ _ _ htk2, ?_⟩
                        simp only [imF]
                        exact ⟨by rw [show i + (1 + c + 1 + c') = i + 1 + c + 1 + c' by omega], by simp; omega⟩
                · rw [if_neg (fun hh => by have := hh.1; simp at this; omega)] at htk
                  rw [if_neg hq2]
                  refine ⟨(([], ()), (mkP a X (i + 1 + c) true, ())), core _ _ _ htk _ rfl _ (by rw [if_pos rfl]), ?_⟩
                  simp only [imF]
                  exact ⟨by rw [show i + (1 + c) = i + 1 + c by omega], by simp⟩
          · rw [if_neg h40]
            have n40 : ((((X[i]).toNat : Nat) : Int) == 40) = false := by simp; omega
            exact term n126 n33 n63 n40

end Go.Proofs.YtkdceefdipljaaaFft.Ev

/- Plain laws: both programs read the same formulas. No condition but sizes. -/
namespace Go.Proofs.YtkdceefdipljaaaFft.Ev
open Go
set_option autoImplicit false
set_option linter.unusedVariables false
set_option linter.unusedSimpArgs false

theorem p_impl_GoodForm' (s : TSign) (hs : s.1.length ≤ 1048576) (f : List TForm) : c_impl_GoodForm M s f = some ((gS s.1 && fOK s.1 f, ()), ()) := by
  obtain ⟨t, h, _⟩ := p_formula s hs f
  apply e_impl_GoodForm
  simp only [q_impl_GoodForm, sign_eta', h, Option.bind_some]

/-- What both answer. -/
def RF (a : List Int) (X : List UInt8) : (List TForm × Int × Bool × Unit) × Unit := if gS a = true ∧ X.length ≤ 1000 then
    match rdF a (X.length + 1) (X.length + 1) X with
    | .bad c => (([], (c : Int), false, ()), ())
    | .ok f c => if c < X.length then (([], (c : Int), false, ()), ()) else if fOK a f = true then ((f, (c : Int), true, ()), ()) else (([], 0, false, ()), ())
  else (([], 0, false, ()), ())

theorem p_spec_RF (s : TSign) (hs : s.1.length ≤ 1048576) (X : List UInt8) : c_spec_ReadForm M s X = some (RF s.1 X) := by
  apply e_spec_ReadForm
  simp only [q_spec_ReadForm, sign_eta', p_spec_GoodSign s (by omega), Option.bind_some]
  unfold RF
  cases hg : gS s.1 with
  | false => rw [if_pos (by rfl), if_neg (by simp)]
  | true =>
    rw [if_neg (by simp)]
    by_cases hX : X.length ≤ 1000
    · rw [if_neg (by simp; omega), if_pos ⟨rfl, hX⟩]
      obtain ⟨⟨f1, p1, b1, ⟨⟩⟩, c1, m1⟩ := p_spF hg X hX (X.length + 1) (by omega) (X.length + 1) 0 (by omega) (by omega)
      rw [List.drop_zero] at m1
      have hle := rdF_le (a := s.1) (F := X.length + 1) (X.length + 1) X
      have c1' : c_spec_l14Read M s X 0 = some ((f1, p1, b1, ()), ()) := c1
      rw [c1']
      simp only [Option.bind_some]
      cases hr : rdF s.1 (X.length + 1) (X.length + 1) X with
      | bad c =>
        rw [hr] at m1
        obtain ⟨j1, j2, _⟩ := m1
        simp only [Nat.zero_add] at j1 j2
        subst j1
        subst j2
        rw [if_pos (by rfl)]
      | ok f c =>
        rw [hr] at m1 hle
        simp only [spF, Nat.zero_add, Prod.mk.injEq, and_true] at m1
        obtain ⟨rfl, rfl, rfl⟩ := m1
        rw [if_neg (by simp)]
        have h2 := hle.1
        simp only [Rd.within] at h2
        have h3 := hle.2 f1 c rfl
        simp only
        by_cases hc : c < X.length
        · rw [if_pos (by simp; omega), if_pos hc]
        · rw [if_neg (by simp; omega), if_neg hc, p_l14Form s hg f1 (by omega) (fun x hx => ⟨by have := (h3.2 x hx).1; omega, by have := (h3.2 x hx).2; omega⟩)]
          simp only [Option.bind_some]
          cases fOK s.1 f1 with
          | false => rfl
          | true => rfl
    · rw [if_pos (by simp; omega), if_neg (fun h => hX h.2)]

theorem p_impl_RF (s : TSign) (hs : s.1.length ≤ 1048576) (X : List UInt8) : c_impl_ReadForm M s X = some (RF s.1 X) := by
  apply e_impl_ReadForm
  simp only [q_impl_ReadForm, sign_eta', p_impl_GoodSign s (by omega), Option.bind_some]
  unfold RF
  cases hg : gS s.1 with
  | false => rw [if_pos (by rfl), if_neg (by simp)]
  | true =>
    rw [if_neg (by simp)]
    by_cases hX : X.length ≤ 1000
    · rw [if_neg (by simp; omega), if_pos ⟨rfl, hX⟩]
      obtain ⟨⟨⟨f1, ⟨⟩⟩, ⟨q1, ⟨⟩⟩⟩, c1, m1⟩ := p_imF hg X hX (X.length + 1) (by omega) (X.length + 1) 0 (by omega) (by omega)
      rw [List.drop_zero] at m1
      have hle := rdF_le (a := s.1) (F := X.length + 1) (X.length + 1) X
      have c1' : c_impl_parser_form M (s, X, 0, 12, false, ()) = some ((f1, ()), (q1, ())) := c1
      rw [c1']
      simp only [Option.bind_some]
      have done : ∀ (c : Nat) (b : Bool), c_impl_parser_done M ((mkP s.1 X c b).1, (mkP s.1 X c b).2.1, (mkP s.1 X c b).2.2.1, (mkP s.1 X c b).2.2.2.1, (mkP s.1 X c b).2.2.2.2.1, ()) = some ((!(b || decide (c < X.length)), ()), (mkP s.1 X c (b || decide (c < X.length)), ())) := by
        intro c b
        apply e_impl_parser_done
        simp only [q_impl_parser_done]
        cases b with
        | true => rfl
        | false => simp
      cases hr : rdF s.1 (X.length + 1) (X.length + 1) X with
      | bad c =>
        rw [hr] at m1
        obtain ⟨j1, _⟩ := m1
        simp only [Nat.zero_add] at j1
        subst j1
        rw [done c true]
        rfl
      | ok f c =>
        rw [hr] at m1 hle
        simp only [imF, Nat.zero_add, Prod.mk.injEq, and_true] at m1
        obtain ⟨rfl, rfl⟩ := m1
        have h2 := hle.1
        simp only [Rd.within] at h2
        rw [done c false]
        simp only [Option.bind_some]
        by_cases hc : c < X.length
        · rw [if_pos (by simp [hc]), if_pos hc]
        · rw [if_neg (by simp; omega), if_neg hc, p_impl_GoodForm' s hs f1]
          simp only [Option.bind_some, hg, Bool.true_and]
          cases fOK s.1 f1 with
          | false => rfl
          | true => simp only [Bool.not_true, Bool.false_eq_true, ↓reduceIte]; rw [show (X.length : Int) = (c : Int) by omega]
    · rw [if_pos (by simp; omega), if_neg (fun h => hX h.2)]

theorem RF_sm (a : List Int) (X : List UInt8) : (RF a X).1.1.length ≤ 1000 ∧ ∀ x ∈ (RF a X).1.1, smF x := by
  unfold RF
  split
  · rename_i h
    have hle := rdF_le (a := a) (F := X.length + 1) (X.length + 1) X
    split
    · simp
    · rename_i f c hr
      rw [hr] at hle
      have h2 := hle.1
      simp only [Rd.within] at h2
      have h3 := hle.2 f c rfl
      split
      · simp
      · split
        · exact ⟨by simp only; omega, fun x hx => ⟨by have := (h3.2 x hx).1; omega, by have := (h3.2 x hx).2; omega⟩⟩
        · simp
  · simp

end Go.Proofs.YtkdceefdipljaaaFft.Ev

/- Plain laws: reading a term inverts writing it, and writing what was read. No condition but sizes. -/
namespace Go.Proofs.YtkdceefdipljaaaFft.Ev
open Go
set_option autoImplicit false
set_option linter.unusedVariables false
set_option linter.unusedSimpArgs false

theorem bytesStr_cons (n : Int) (r : List Int) : bytesStr (n :: r) = bytesStr [n] ++ bytesStr r := by simp [bytesStr]
theorem bytesStr_nat {n : Nat} (h : n < 256) : ∃ b : UInt8, bytesStr [(n : Int)] = [b] ∧ b.toNat = n := by
  refine ⟨UInt8.ofNat n, by simp [bytesStr], ?_⟩
  simp; omega
theorem bytesStr_int {n : Int} (h : 0 ≤ n) (k : n < 256) : ∃ b : UInt8, bytesStr [n] = [b] ∧ (b.toNat : Int) = n := by
  obtain ⟨m, rfl⟩ : ∃ m : Nat, n = (m : Int) := ⟨n.toNat, by omega⟩
  obtain ⟨b, h1, h2⟩ := bytesStr_nat (n := m) (by omega)
  exact ⟨b, h1, by omega⟩
theorem bytesStr_byte (b : UInt8) {n : Int} (h : n = (b.toNat : Int)) : bytesStr [n] = [b] := by
  subst h; simp [bytesStr]

/-- What was written is read back. -/
def Back (a u : List Int) : Prop := u.length ≤ (tb a u).length ∧ ∀ (f : Nat) (post : List UInt8), u.length ≤ f → rdT a f (bytesStr (tb a u) ++ post) = .ok u (tb a u).length

theorem rdK_gl {a : List Int} {T : List UInt8 → Rd (List Int)} : ∀ (us : List (List Int)) (fl : Bool) (post : List UInt8), (∀ u ∈ us, ∀ post, T (bytesStr (tb a u) ++ post) = .ok u (tb a u).length) → rdK T (if fl = true then 40 else 44) us.length (bytesStr (gl a fl us) ++ post) = .ok us.flatten (gl a fl us).length := by
  intro us
  induction us with
  | nil => intro fl post _; rfl
  | cons u us ih =>
    intro fl post h
    have hu := h u (by simp)
    have hus := ih false post (fun v hv => h v (by simp [hv]))
    obtain ⟨b, hb1, hb2⟩ := bytesStr_nat (n := if fl = true then 40 else 44) (by split <;> omega)
    have e : bytesStr (gl a fl (u :: us)) ++ post = b :: (bytesStr (tb a u) ++ (bytesStr (gl a false us) ++ post)) := by
      simp only [gl]
      rw [bytesStr_cons, show (if fl = true then (40 : Int) else 44) = ((if fl = true then 40 else 44 : Nat) : Int) by split <;> rfl, hb1, bytesStr_app]
      simp
    rw [e]
    simp only [List.length_cons, rdK]
    rw [if_pos hb2, hu]
    have hd : (bytesStr (tb a u) ++ (bytesStr (gl a false us) ++ post)).drop (tb a u).length = bytesStr (gl a false us) ++ post := by
      rw [← bytesStr_len (tb a u), List.drop_left]
    simp only [hd]
    rw [show (44 : Nat) = if false = true then 40 else 44 from rfl, hus]
    simp [gl]; omega
theorem gl_ge {a : List Int} : ∀ (us : List (List Int)) (fl : Bool), (∀ u ∈ us, u.length ≤ (tb a u).length) → us.flatten.length ≤ (gl a fl us).length
  | [], _, _ => by simp [gl]
  | u :: us, fl, h => by
    have h1 := h u (by simp)
    have h2 := gl_ge us false (fun v hv => h v (by simp [hv]))
    simp only [gl, List.length_cons, List.length_append, List.flatten_cons]
    omega

theorem back_all {a : List Int} (hg : gS a = true) : ∀ (N : Nat) (u : List Int), u.length ≤ N → N ≤ 1000 → Tm a u → Back a u := by
  have hsl : a.length ≤ 10 := by simp only [gS, Bool.and_eq_true, decide_eq_true_eq] at hg; exact hg.2.1
  intro N
  induction N with
  | zero => intro u hu _ h; have := h.pos; omega
  | succ N ih =>
    intro u hu hN h
    obtain ⟨n, us, rfl, hb, hl, hk⟩ := h.parts hg
    simp only [List.length_cons] at hu
    have hsub : ∀ v ∈ us, v.length ≤ us.flatten.length := fun v hv => (List.sublist_flatten_of_mem hv).length_le
    have kid : ∀ v ∈ us, TX a v (tb a v) := fun v hv => tb_ok (TX_all hg N v (by have := hsub v hv; omega) (by omega) (hk v hv))
    have kb : ∀ v ∈ us, Back a v := fun v hv => ih v (by have := hsub v hv; omega) (by omega) (hk v hv)
    have hb' := hb
    unfold badN at hb'
    by_cases h0 : n < 0
    · have h3 : ar a n = 0 := by simp [ar, h0]
      obtain rfl : us = [] := List.eq_nil_of_length_eq_zero (by omega)
      have e := tb_eq (by simp) (TX_var hsl hb h0)
      obtain ⟨b, b1, b2⟩ := bytesStr_int (n := 64 - n) (by omega) (by omega)
      refine ⟨by simp only [List.flatten_nil, e, List.length_cons, List.length_nil]; omega, fun f post hf => ?_⟩
      simp only [List.flatten_nil] at hf ⊢
      rw [e, b1]
      cases f with
      | zero => simp at hf
      | succ f =>
        simp only [List.cons_append, List.nil_append, rdT]
        rw [if_pos (by omega), show -1 - ((b.toNat : Int) - 65) = n by omega]
        rfl
    · have hn := ar_ge hg n
      have e := tb_eq (by simp [-List.length_flatten]; omega) (TX_app hg hb h0 hl hk kid (by omega))
      obtain ⟨b, b1, b2⟩ := bytesStr_int (n := 97 + n) (by omega) (by omega)
      have hge := gl_ge us true (fun v hv => (kb v hv).1)
      refine ⟨by rw [e]; simp only [List.length_cons, List.length_append]; omega, fun f post hf => ?_⟩
      rw [e]
      cases f with
      | zero => simp at hf
      | succ f =>
        simp only [List.length_cons] at hf
        rw [bytesStr_cons, b1, bytesStr_app]
        simp only [List.cons_append, List.nil_append, List.append_assoc, rdT]
        rw [if_neg (by omega), if_pos (by omega), show (b.toNat : Int) - 97 = n by omega]
        have hk2 := rdK_gl (a := a) (T := rdT a f) us true (bytesStr (if 0 < ar a n then [41] else []) ++ post) (fun v hv p => (kb v hv).2 f p (by have := hsub v hv; omega))
        rw [if_pos rfl, show us.length = (ar a n).toNat by omega] at hk2
        rw [hk2]
        simp only
        by_cases h4 : 0 < ar a n
        · rw [if_neg (by omega), if_pos h4]
          rw [← bytesStr_len (gl a true us), List.drop_left]
          have : bytesStr [(41 : Int)] = [41] := rfl
          rw [this]
          simp [bytesStr_len]; omega
        · rw [if_pos (by omega), if_neg h4]
          simp; omega

/-! ### What was read is written back -/
theorem rdK_inv {a : List Int} {T : List UInt8 → Rd (List Int)} (hT : ∀ r t c, r.length ≤ 1000 → T r = .ok t c → Tm a t ∧ r.take c = bytesStr (tb a t) ∧ c ≤ r.length) : ∀ (m : Nat) (fl : Bool) (r : List UInt8) (t : List Int) (c : Nat), r.length ≤ 1000 → rdK T (if fl = true then 40 else 44) m r = .ok t c → ∃ us : List (List Int), us.length = m ∧ t = us.flatten ∧ (∀ u ∈ us, Tm a u) ∧ r.take c = bytesStr (gl a fl us) ∧ c ≤ r.length := by
  intro m
  induction m with
  | zero =>
    intro fl r t c hr h
    simp only [rdK, Rd.ok.injEq] at h
    exact ⟨[], rfl, by rw [← h.1]; rfl, by simp, by rw [← h.2]; simp [gl, bytesStr], by omega⟩
  | succ m ih =>
    intro fl r t c hr h
    cases r with
    | nil => simp [rdK] at h
    | cons b r =>
      simp only [List.length_cons] at hr
      simp only [rdK] at h
      by_cases hb : b.toNat = (if fl = true then 40 else 44)
      · rw [if_pos hb] at h
        cases h1 : T r with
        | bad c1 => rw [h1] at h; simp at h
        | ok t1 c1 =>
          rw [h1] at h
          simp only at h
          obtain ⟨g1, g2, g3⟩ := hT r t1 c1 (by omega) h1
          cases h2 : rdK T 44 m (r.drop c1) with
          | bad c2 => rw [h2] at h; simp at h
          | ok t2 c2 =>
            rw [h2] at h
            simp only [Rd.ok.injEq] at h
            obtain ⟨us, u1, u2, u3, u4, u5⟩ := ih false (r.drop c1) t2 c2 (by simp; omega) (by simpa using h2)
            simp only [List.length_drop] at u5
            refine ⟨t1 :: us, by simp [u1], by rw [← h.1, u2]; simp, by simpa using ⟨g1, u3⟩, ?_, by rw [← h.2]; simp only [List.length_cons]; omega⟩
            rw [← h.2, show 1 + c1 + c2 = (c1 + c2) + 1 by omega, List.take_succ_cons, List.take_add, g2, u4]
            simp only [gl]
            rw [bytesStr_cons, bytesStr_byte b (by rw [hb]; cases fl <;> rfl), bytesStr_app]
            simp
      · rw [if_neg hb] at h; simp at h

theorem rdT_inv {a : List Int} (hg : gS a = true) : ∀ (f : Nat) (r : List UInt8) (t : List Int) (c : Nat), r.length ≤ 1000 → rdT a f r = .ok t c → Tm a t ∧ r.take c = bytesStr (tb a t) ∧ c ≤ r.length := by
  have hsl : a.length ≤ 10 := by simp only [gS, Bool.and_eq_true, decide_eq_true_eq] at hg; exact hg.2.1
  intro f
  induction f with
  | zero => intro r t c _ h; simp [rdT] at h
  | succ f ih =>
    intro r t c hr h
    have hle := rdT_le (a := a) (f + 1) r
    rw [h] at hle
    have hw := hle.1
    have hl := hle.2 t c rfl
    simp only [Rd.within] at hw
    cases r with
    | nil => simp [rdT] at h
    | cons b r =>
      have hbl := b.toNat_lt
      simp only [List.length_cons] at hr hw
      simp only [rdT] at h
      split at h
      · rename_i h1
        simp only [Rd.ok.injEq] at h
        have hbn : ¬ badN a (-1 - ((b.toNat : Int) - 65)) := by unfold badN; omega
        have e := tb_eq (by simp) (TX_var hsl hbn (by omega))
        obtain ⟨rfl, rfl⟩ := h
        refine ⟨?_, ?_, by simp⟩
        · unfold Tm sE
          rw [if_neg (by omega), if_neg hbn]
          have : ar a (-1 - ((b.toNat : Int) - 65)) = 0 := by unfold ar; rw [if_pos (by omega)]
          rw [this]
          simp [sE]
        · rw [e, bytesStr_byte b (by omega)]; simp
      · split at h
        · rename_i h1 h2
          have hbn : ¬ badN a ((b.toNat : Int) - 97) := by unfold badN; omega
          have har := ar_ge hg ((b.toNat : Int) - 97)
          cases hk : rdK (rdT a f) 40 (ar a ((b.toNat : Int) - 97)).toNat r with
          | bad c1 => rw [hk] at h; simp at h
          | ok t1 c1 =>
            rw [hk] at h
            simp only at h
            obtain ⟨us, u1, u2, u3, u4, u5⟩ := rdK_inv (a := a) (T := rdT a f) (fun r t c => ih r t c) _ true r t1 c1 (by omega) (by simpa using hk)
            subst u2
            have hul : (us.length : Int) = ar a ((b.toNat : Int) - 97) := by omega
            have fin : ∀ q : List UInt8, t = ((b.toNat : Int) - 97) :: us.flatten → (b :: r).take c = b :: (r.take c1 ++ q) → q = bytesStr (if 0 < ar a ((b.toNat : Int) - 97) then [41] else []) → Tm a t ∧ (b :: r).take c = bytesStr (tb a t) := by
              intro q q1 q2 q3
              subst q1
              have hlu : us.flatten.length ≤ 999 := by simp only [List.length_cons] at hl; omega
              have hsub : ∀ v ∈ us, v.length ≤ us.flatten.length := fun v hv => (List.sublist_flatten_of_mem hv).length_le
              have kid : ∀ v ∈ us, TX a v (tb a v) := fun v hv => tb_ok (TX_all hg 1000 v (by have := hsub v hv; omega) (by omega) (u3 v hv))
              have e := tb_eq (by simp [-List.length_flatten]; omega) (TX_app hg hbn (by omega) hul u3 kid hlu)
              refine ⟨?_, ?_⟩
              · have kids : ∀ (us : List (List Int)), (∀ u ∈ us, Tm a u) → sE a us.length us.flatten = some [] := by
                  intro us
                  induction us with
                  | nil => intro _; simp [sE]
                  | cons v us ih2 =>
                    intro hv
                    have := sE_app hg v 1 us.length us.flatten (by omega) (by omega) (hv v (by simp))
                    rw [List.flatten_cons, List.length_cons, show ((us.length + 1 : Nat) : Int) = 1 + (us.length : Int) by omega, this]
                    exact ih2 (fun w hw => hv w (by simp [hw]))
                unfold Tm sE
                rw [if_neg (by omega), if_neg hbn, ← hul, show (1 : Int) - 1 + (us.length : Int) = us.length by omega]
                exact kids us u3
              · rw [e, q2, bytesStr_cons, bytesStr_byte b (by omega), bytesStr_app, u4, q3]
                rfl
            by_cases h3 : ar a ((b.toNat : Int) - 97) ≤ 0
            · rw [if_pos h3] at h
              simp only [Rd.ok.injEq] at h
              have := fin [] h.1.symm (by rw [← h.2, show 1 + c1 = c1 + 1 by omega, List.take_succ_cons]; simp) (by rw [if_neg (by omega)]; rfl)
              exact ⟨this.1, this.2, by simp only [List.length_cons]; omega⟩
            · rw [if_neg h3] at h
              cases hd : r.drop c1 with
              | nil => rw [hd] at h; simp at h
              | cons b' r' =>
                rw [hd] at h
                simp only at h
                split at h
                · rename_i hb'
                  simp only [Rd.ok.injEq] at h
                  have := fin [b'] h.1.symm (by rw [← h.2, show 1 + c1 + 1 = (c1 + 1) + 1 by omega, List.take_succ_cons, List.take_add, hd]; simp) (by rw [if_pos (by omega), bytesStr_byte b' (by omega)])
                  exact ⟨this.1, this.2, by simp only [List.length_cons]; omega⟩
                · simp at h
        · simp at h

end Go.Proofs.YtkdceefdipljaaaFft.Ev

/- Plain laws: a formula's text is read back, and a text that is read is the formula's. No condition but sizes. -/
namespace Go.Proofs.YtkdceefdipljaaaFft.Ev
open Go
set_option autoImplicit false
set_option linter.unusedVariables false
set_option linter.unusedSimpArgs false

theorem ftx_leaf (a : List Int) (x : TForm) : ftx a (mkT x []) = tx a x.2.2.1 ++ [61] ++ tx a x.2.2.2.1 := by simp [ftx]
theorem ftx_not (a : List Int) (x : TForm) (t : Tree) (h : x.1 = 2) : ftx a (mkT x [t]) = 126 :: ftx a t := by simp [ftx, h]
theorem ftx_all (a : List Int) (x : TForm) (t : Tree) (h : x.1 = 5) : ftx a (mkT x [t]) = 33 :: (bytesStr [65 + x.2.1] ++ ftx a t) := by simp [ftx, h]
theorem ftx_some (a : List Int) (x : TForm) (t : Tree) (h : x.1 = 6) : ftx a (mkT x [t]) = 63 :: (bytesStr [65 + x.2.1] ++ ftx a t) := by simp [ftx, h]
theorem ftx_bin (a : List Int) (x : TForm) (t u : Tree) : ftx a (mkT x [t, u]) = 40 :: (ftx a t ++ (if x.1 = 3 then 38 else 124) :: (ftx a u ++ [41])) := by
  simp only [ftx]
  split <;> simp

theorem tx_len_eq (a u : List Int) : (tx a u).length = (tb a u).length := by
  have : tx a u = bytesStr (tb a u) := rfl
  rw [this]; simp [bytesStr]
theorem tx_back {a : List Int} (hg : gS a = true) {u : List Int} (h : isT a u = true) (f : Nat) (post : List UInt8) (hf : (tx a u).length ≤ f) : rdT a f (tx a u ++ post) = .ok u (tx a u).length := by
  simp only [isT, Bool.and_eq_true, decide_eq_true_eq] at h
  have hb := back_all hg u.length u (Nat.le_refl _) (by omega) h.2
  have h1 := hb.1
  rw [tx_len_eq] at hf ⊢
  exact hb.2 f post (by omega)
/-- A term begins with a letter. -/
theorem rdT_first {a : List Int} {f : Nat} {b : UInt8} {r : List UInt8} {t : List Int} {c : Nat} (h : rdT a f (b :: r) = .ok t c) : b.toNat ≠ 126 ∧ b.toNat ≠ 33 ∧ b.toNat ≠ 63 ∧ b.toNat ≠ 40 ∨ 97 + a.length > 126 := by
  cases f with
  | zero => simp [rdT] at h
  | succ f =>
    simp only [rdT] at h
    split at h
    · left; omega
    · split at h
      · omega
      · cases h

theorem nd_eq {a : List Int} {x : TForm} (h : ndOK a x = true) (h1 : x.1 = 2 ∨ x.1 = 3 ∨ x.1 = 4) : x = (x.1, 0, [], [], ()) := by
  obtain ⟨op, v, l, r, ⟨⟩⟩ := x
  unfold ndOK at h
  simp only at h h1 ⊢
  rw [if_neg (by omega)] at h
  split at h
  · rename_i hlr
    obtain ⟨rfl, rfl⟩ := hlr
    rw [if_neg (by omega)] at h
    simp only [decide_eq_true_eq] at h
    rw [h]
  · cases h
theorem nd_quant {a : List Int} {x : TForm} (h : ndOK a x = true) (h1 : x.1 = 5 ∨ x.1 = 6) : x = (x.1, x.2.1, [], [], ()) ∧ 0 ≤ x.2.1 ∧ x.2.1 ≤ 5 := by
  obtain ⟨op, v, l, r, ⟨⟩⟩ := x
  unfold ndOK at h
  simp only at h h1 ⊢
  rw [if_neg (by omega)] at h
  split at h
  · rename_i hlr
    obtain ⟨rfl, rfl⟩ := hlr
    simp only [Bool.and_eq_true, decide_eq_true_eq] at h
    exact ⟨rfl, h.1, h.2⟩
  · cases h
theorem nd_leaf {a : List Int} {x : TForm} (h : ndOK a x = true) (h1 : x.1 = 1) : x = (1, 0, x.2.2.1, x.2.2.2.1, ()) := by
  obtain ⟨op, v, l, r, ⟨⟩⟩ := x
  unfold ndOK at h
  simp only at h h1 ⊢
  rw [if_pos h1] at h
  simp only [Bool.and_eq_true, decide_eq_true_eq] at h
  rw [h1, h.1]

theorem FT.txpos {a : List Int} {g : List TForm} {t : Tree} (h : FT a g t) : g.length ≤ (ftx a t).length := by
  induction h with
  | @leaf x h h0 => rw [ftx_leaf]; simp; omega
  | @un x g t h h1 hg ih =>
    obtain ⟨ho, _⟩ := un_op h h1
    rcases ho with ho | ho | ho
    · rw [ftx_not a x t ho]; simp; omega
    · rw [ftx_all a x t ho]; simp; omega
    · rw [ftx_some a x t ho]; simp; omega
  | @bin x g k t u h h2 hg hk ih1 ih2 => rw [ftx_bin]; simp; omega
/-- What was written is read back. -/
theorem rdF_back {a : List Int} (hg : gS a = true) {f : List TForm} {t : Tree} (hf : FT a f t) : ∀ (F k : Nat) (post : List UInt8), (ftx a t).length ≤ F → f.length ≤ k → rdF a F k (ftx a t ++ post) = .ok f (ftx a t).length := by
  have hsl : a.length ≤ 10 := by simp only [gS, Bool.and_eq_true, decide_eq_true_eq] at hg; exact hg.2.1
  induction hf with
  | @leaf x h h0 =>
    intro F k post hF hk
    obtain ⟨ho, tl, tr⟩ := leaf_op h h0
    rw [ftx_leaf] at hF ⊢
    simp only [List.length_append, List.length_cons, List.length_nil] at hF hk
    obtain ⟨k, rfl⟩ : ∃ j, k = j + 1 := ⟨k - 1, by omega⟩
    have e1 : rdT a F (tx a x.2.2.1 ++ (61 :: (tx a x.2.2.2.1 ++ post))) = .ok x.2.2.1 (tx a x.2.2.1).length := tx_back hg tl F _ (by omega)
    have e2 := tx_back hg tr F post (by omega)
    rw [show tx a x.2.2.1 ++ [61] ++ tx a x.2.2.2.1 ++ post = tx a x.2.2.1 ++ (61 :: (tx a x.2.2.2.1 ++ post)) by simp]
    cases hb : tx a x.2.2.1 ++ (61 :: (tx a x.2.2.2.1 ++ post)) with
    | nil => simp at hb
    | cons b r =>
      rw [hb] at e1
      have hfst := rdT_first e1
      rw [show rdF a F (k + 1) (b :: r) = (match rdT a F (b :: r) with
        | .bad c => .bad c
        | .ok l c => match (b :: r).drop c with
          | [] => .bad c
          | e :: r2 => if e.toNat = 61 then match rdT a F r2 with
              | .bad c2 => .bad (c + 1 + c2)
              | .ok t c2 => .ok [(1, 0, l, t, ())] (c + 1 + c2)
            else .bad c) by
        simp only [rdF]
        rw [if_neg (by omega), if_neg (by omega), if_neg (by omega)]
        first | done | rfl]
      rw [e1]
      simp only
      rw [← hb, List.drop_left]
      simp only
      rw [if_pos (by rfl), e2]
      simp only
      rw [nd_leaf h ho]
      simp
      omega
  | @un x g t h h1 hgt ih =>
    intro F k post hF hk
    simp only [List.length_append, List.length_cons, List.length_nil] at hk
    obtain ⟨k, rfl⟩ : ∃ j, k = j + 1 := ⟨k - 1, by omega⟩
    obtain ⟨ho, v0, v5⟩ := un_op h h1
    by_cases ho2 : x.1 = 2
    · rw [ftx_not a x t ho2] at hF ⊢
      simp only [List.length_cons] at hF
      rw [List.cons_append]
      simp only [rdF]
      rw [if_pos (by rfl), ih F k post (by omega) (by omega)]
      simp only [List.length_cons]
      have hx := nd_eq h (.inl ho2)
      rw [ho2] at hx
      rw [hx, Nat.add_comm]
    · obtain ⟨hx, _⟩ := nd_quant h (by omega)
      obtain ⟨vb, hv1, hv2⟩ := bytesStr_int (n := 65 + x.2.1) (by omega) (by omega)
      have key : ∀ (b : UInt8) (op : Int), x.1 = op → (op = 5 ∧ b = 33 ∨ op = 6 ∧ b = 63) → (b :: (bytesStr [65 + x.2.1] ++ ftx a t)).length ≤ F → rdF a F (k + 1) (b :: (bytesStr [65 + x.2.1] ++ ftx a t) ++ post) = .ok (g ++ [x]) (b :: (bytesStr [65 + x.2.1] ++ ftx a t)).length := by
        intro b op hop hb hF'
        rw [hv1] at hF' ⊢
        simp only [List.length_cons, List.cons_append, List.nil_append] at hF' ⊢
        have hbn : b.toNat = 33 ∨ b.toNat = 63 := by
          rcases hb with ⟨_, rfl⟩ | ⟨_, rfl⟩
          · left; rfl
          · right; rfl
        simp only [rdF]
        rw [if_neg (by omega), if_pos hbn]
        rw [if_pos (by omega), ih F k post (by omega) (by omega)]
        simp only
        rw [hx, hop, show 2 + (ftx a t).length = (ftx a t).length + 1 + 1 by omega, show ((vb.toNat : Int) - 65) = x.2.1 by omega]
        rcases hb with ⟨rfl, rfl⟩ | ⟨rfl, rfl⟩ <;> rfl
      rcases ho with h2 | h5 | h6
      · exact absurd h2 ho2
      · rw [ftx_all a x t h5] at hF ⊢
        exact key 33 5 h5 (.inl ⟨rfl, rfl⟩) hF
      · rw [ftx_some a x t h6] at hF ⊢
        exact key 63 6 h6 (.inr ⟨rfl, rfl⟩) hF
  | @bin x g k' t u h h2 hgt hkt ih1 ih2 =>
    intro F k post hF hk
    simp only [List.length_append, List.length_cons, List.length_nil] at hk
    obtain ⟨k, rfl⟩ : ∃ j, k = j + 1 := ⟨k - 1, by omega⟩
    have ho := bin_op h h2
    rw [ftx_bin] at hF ⊢
    simp only [List.length_cons, List.length_append, List.length_nil] at hF ⊢
    rw [List.cons_append, List.append_assoc, List.cons_append, List.append_assoc, List.singleton_append]
    simp only [rdF]
    rw [if_neg (by decide), if_neg (by decide), if_pos (by decide), ih1 F k _ (by omega) (by omega)]
    simp only
    rw [List.drop_left]
    simp only
    rw [if_pos (by split <;> decide), ih2 F k _ (by omega) (by omega)]
    simp only
    rw [List.drop_left]
    simp only
    rw [if_pos (by rfl)]
    have hx := nd_eq h (.inr ho)
    rcases ho with ho | ho
    · rw [ho] at hx
      rw [if_pos ho, hx]
      exact congr (congrArg Rd.ok rfl) (by omega)
    · rw [ho] at hx
      rw [if_neg (show ¬ x.1 = 3 by omega), hx]
      exact congr (congrArg Rd.ok rfl) (by omega)

/-! ### What is read was written -/
theorem take_two {α : Type} (A B : List α) (o z : α) (C : List α) : (A ++ o :: (B ++ z :: C)).take (A.length + (B.length + 2)) = A ++ o :: (B ++ [z]) := by
  rw [show A ++ o :: (B ++ z :: C) = (A ++ o :: (B ++ [z])) ++ C by simp]
  exact List.take_left' (by simp)
theorem take_one {α : Type} (A : List α) (o : α) (B : List α) (n : Nat) : (A ++ o :: B).take (A.length + (n + 1)) = A ++ o :: B.take n := by
  rw [List.take_append, List.take_of_length_le (by omega), Nat.add_sub_cancel_left, List.take_succ_cons]
/-- Nodes that list a tree, each with as many trees as its kind asks. -/
inductive FP : List TForm → Tree → Prop
  | leaf {x : TForm} (h0 : opn x.1 = 0) : FP [x] (mkT x [])
  | un {x : TForm} {g : List TForm} {t : Tree} (h1 : opn x.1 = 1) (hg : FP g t) : FP (g ++ [x]) (mkT x [t])
  | bin {x : TForm} {g k : List TForm} {t u : Tree} (h2 : opn x.1 = 2) (hg : FP g t) (hk : FP k u) : FP (g ++ k ++ [x]) (mkT x [t, u])
theorem FP.gts {a : List Int} {f : List TForm} {t : Tree} (h : FP f t) : ∀ (st z : List Tree) (r : List TForm), gT a st (f ++ r) = some z → gT a (st ++ [t]) r = some z := by
  induction h with
  | @leaf x h0 =>
    intro st z r hz
    simp only [List.singleton_append, Ev.gT] at hz
    split at hz
    · rw [h0] at hz
      simpa using hz
    · cases hz
  | @un x g t h1 hg ih =>
    intro st z r hz
    rw [List.append_assoc] at hz
    have := ih st z _ hz
    simp only [List.singleton_append, Ev.gT] at this
    split at this
    · rw [h1] at this
      simpa using this
    · cases this
  | @bin x g k t u h2 hg hk ih1 ih2 =>
    intro st z r hz
    rw [List.append_assoc, List.append_assoc] at hz
    have e1 := ih1 st z _ hz
    have e2 := ih2 _ z _ e1
    simp only [List.singleton_append, Ev.gT] at e2
    split at e2
    · rw [h2] at e2
      have hl : (st ++ [t] ++ [u]).length - (2 : Int).toNat = st.length := by simp
      rw [hl] at e2
      simpa using e2
    · cases e2
theorem FP.uniq {a : List Int} {f : List TForm} {t t' : Tree} (h : FP f t) (h' : gT a [] f = some [t']) : t = t' := by
  have := h.gts (a := a) [] [t'] [] (by simpa using h')
  simp only [List.nil_append, Ev.gT, Option.some.injEq, List.cons.injEq, and_true] at this
  exact this
theorem rdF_inv {a : List Int} (hg : gS a = true) (F : Nat) : ∀ (k : Nat) (r : List UInt8) (f : List TForm) (c : Nat), r.length ≤ 1000 → rdF a F k r = .ok f c → ∃ t, FP f t ∧ r.take c = ftx a t ∧ c ≤ r.length := by
  intro k
  induction k with
  | zero => intro r f c _ h; simp [rdF] at h
  | succ k ih =>
    intro r f c hr h
    cases r with
    | nil => simp [rdF] at h
    | cons b r =>
      simp only [List.length_cons] at hr
      have b8 : ∀ (x y : UInt8), x.toNat = y.toNat → x = y := fun x y h => UInt8.toNat_inj.1 h
      simp only [rdF] at h
      split at h
      · rename_i h126
        obtain rfl : b = 126 := b8 _ _ h126
        split at h
        · cases h
        · rename_i g c1 h1
          simp only [Rd.ok.injEq] at h
          obtain ⟨rfl, rfl⟩ := h
          obtain ⟨t, q1, q2, q3⟩ := ih r g c1 (by omega) h1
          refine ⟨mkT (2, 0, [], [], ()) [t], .un (by decide) q1, ?_, by simp; omega⟩
          rw [ftx_not a _ t rfl, Nat.add_comm, List.take_succ_cons, q2]
      · split at h
        · rename_i hq
          split at h
          · cases h
          · rename_i v r2
            split at h
            · rename_i hv
              split at h
              · cases h
              · rename_i g c1 h1
                simp only [Rd.ok.injEq] at h
                obtain ⟨rfl, rfl⟩ := h
                simp only [List.length_cons] at hr
                obtain ⟨t, q1, q2, q3⟩ := ih r2 g c1 (by omega) h1
                have hvb : bytesStr [65 + ((v.toNat : Int) - 65)] = [v] := bytesStr_byte v (by omega)
                by_cases h63 : b.toNat = 63
                · obtain rfl : b = 63 := b8 _ _ h63
                  refine ⟨mkT (6, (v.toNat : Int) - 65, [], [], ()) [t], .un (x := (6, (v.toNat : Int) - 65, [], [], ())) (by show opn 6 = 1; decide) q1, ?_, by simp; omega⟩
                  rw [ftx_some a _ t rfl, show 2 + c1 = c1 + 1 + 1 by omega, List.take_succ_cons, List.take_succ_cons, q2]
                  simp only
                  rw [hvb]; rfl
                · obtain rfl : b = 33 := b8 _ _ (by have : (33 : UInt8).toNat = 33 := rfl; omega)
                  refine ⟨mkT (5, (v.toNat : Int) - 65, [], [], ()) [t], .un (x := (5, (v.toNat : Int) - 65, [], [], ())) (by show opn 5 = 1; decide) q1, ?_, by simp; omega⟩
                  rw [ftx_all a _ t rfl, show 2 + c1 = c1 + 1 + 1 by omega, List.take_succ_cons, List.take_succ_cons, q2]
                  simp only
                  rw [hvb]; rfl
            · cases h
        · split at h
          · rename_i h40
            obtain rfl : b = 40 := b8 _ _ h40
            split at h
            · cases h
            · rename_i g c1 h1
              obtain ⟨t, q1, q2, q3⟩ := ih r g c1 (by omega) h1
              split at h
              · cases h
              · rename_i o r2 hd
                have hl2 : r2.length + 1 = r.length - c1 := by
                  have := congrArg List.length hd
                  rw [List.length_drop] at this
                  simp only [List.length_cons] at this; omega
                split at h
                · rename_i ho
                  split at h
                  · cases h
                  · rename_i g2 c2 h2
                    obtain ⟨u, w1, w2, w3⟩ := ih r2 g2 c2 (by omega) h2
                    split at h
                    · cases h
                    · rename_i z r3 hd2
                      have hl3 : r3.length + 1 = r2.length - c2 := by
                        have := congrArg List.length hd2
                        rw [List.length_drop] at this
                        simp only [List.length_cons] at this; omega
                      split at h
                      · rename_i h41
                        obtain rfl : z = 41 := b8 _ _ h41
                        simp only [Rd.ok.injEq] at h
                        obtain ⟨rfl, rfl⟩ := h
                        have hlt : (r.take c1).length = c1 := by rw [List.length_take]; omega
                        have hlt2 : (r2.take c2).length = c2 := by rw [List.length_take]; omega
                        have hr12 : r = r.take c1 ++ o :: (r2.take c2 ++ 41 :: r3) := by rw [← hd2, List.take_append_drop, ← hd, List.take_append_drop]
                        have htk := take_two (r.take c1) (r2.take c2) o 41 r3
                        rw [← hr12, hlt, hlt2, q2, w2] at htk
                        have htake : (40 :: r).take (1 + c1 + 1 + c2 + 1) = 40 :: (ftx a t ++ o :: (ftx a u ++ [41])) := by
                          rw [show 1 + c1 + 1 + c2 + 1 = (c1 + (c2 + 2)) + 1 by omega, List.take_succ_cons, htk]
                        refine ⟨mkT ((if o.toNat = 124 then 4 else 3), 0, [], [], ()) [t, u], .bin (by split <;> decide) q1 w1, ?_, by simp only [List.length_cons]; omega⟩
                        rw [htake, ftx_bin]
                        rcases ho with ho | ho
                        · obtain rfl : o = 38 := b8 _ _ ho
                          rfl
                        · obtain rfl : o = 124 := b8 _ _ ho
                          rfl
                      · cases h
                · cases h
          · split at h
            · cases h
            · rename_i l c1 h1
              obtain ⟨i1, i2, i3⟩ := rdT_inv hg F (b :: r) l c1 (by simp; omega) h1
              split at h
              · cases h
              · rename_i e r2 hd
                have hl2 : r2.length + 1 = (b :: r).length - c1 := by
                  have := congrArg List.length hd
                  rw [List.length_drop] at this
                  simp only [List.length_cons] at this ⊢; omega
                split at h
                · rename_i he
                  obtain rfl : e = 61 := b8 _ _ he
                  split at h
                  · cases h
                  · rename_i t c2 h2
                    simp only [List.length_cons] at hl2 i3
                    obtain ⟨j1, j2, j3⟩ := rdT_inv hg F r2 t c2 (by omega) h2
                    simp only [Rd.ok.injEq] at h
                    obtain ⟨rfl, rfl⟩ := h
                    refine ⟨mkT (1, 0, l, t, ()) [], .leaf (x := (1, 0, l, t, ())) (by show opn 1 = 0; decide), ?_, by simp only [List.length_cons]; omega⟩
                    have hlt : ((b :: r).take c1).length = c1 := by rw [List.length_take]; simp only [List.length_cons]; omega
                    have hr1 : b :: r = (b :: r).take c1 ++ 61 :: r2 := by rw [← hd, List.take_append_drop]
                    have htk := take_one ((b :: r).take c1) 61 r2 c2
                    rw [← hr1, hlt, i2, j2] at htk
                    rw [ftx_leaf, show c1 + 1 + c2 = c1 + (c2 + 1) by omega, htk]
                    simp [tx]
                · cases h

/-- A formula's text is read back. -/
theorem RF_ftx {a : List Int} (hg : gS a = true) {f : List TForm} {t : Tree} (hf : fOK a f = true) (ht : gT a [] f = some [t]) (hl : (ftx a t).length ≤ 1000) : RF a (ftx a t) = ((f, ((ftx a t).length : Int), true, ()), ()) := by
  have h := gT_FT ht
  have hp := h.txpos
  have hb := rdF_back hg h ((ftx a t).length + 1) ((ftx a t).length + 1) [] (by omega) (by omega)
  rw [List.append_nil] at hb
  unfold RF
  rw [if_pos ⟨hg, hl⟩, hb]
  simp only
  rw [if_neg (by omega), if_pos hf]
/-- What is read was written. -/
theorem RF_inv (a : List Int) (X : List UInt8) : (∃ n : Nat, RF a X = (([], (n : Int), false, ()), ()) ∧ n ≤ X.length) ∨ ∃ f, RF a X = ((f, (X.length : Int), true, ()), ()) ∧ gS a = true ∧ fOK a f = true ∧ f.length ≤ 1000 ∧ (∀ x ∈ f, smF x) ∧ ∀ t, gT a [] f = some [t] → X = ftx a t := by
  have hsm := RF_sm a X
  unfold RF at hsm ⊢
  by_cases h1 : gS a = true ∧ X.length ≤ 1000
  · rw [if_pos h1] at hsm ⊢
    cases hr : rdF a (X.length + 1) (X.length + 1) X with
    | bad c =>
      have := (rdF_le (a := a) (F := X.length + 1) (X.length + 1) X).1
      rw [hr] at this
      exact .inl ⟨c, rfl, this⟩
    | ok f c =>
      rw [hr] at hsm
      obtain ⟨t, i1, i2, i3⟩ := rdF_inv h1.1 (X.length + 1) (X.length + 1) X f c h1.2 hr
      simp only at hsm ⊢
      by_cases hc : c < X.length
      · rw [if_pos hc]; exact .inl ⟨c, rfl, by omega⟩
      · rw [if_neg hc] at hsm ⊢
        by_cases h4 : fOK a f = true
        · rw [if_pos h4] at hsm ⊢
          obtain rfl : c = X.length := by omega
          rw [List.take_length] at i2
          exact .inr ⟨f, rfl, h1.1, h4, hsm.1, hsm.2, fun t' ht' => by rw [i2, i1.uniq ht']⟩
        · rw [if_neg h4]; exact .inl ⟨0, rfl, by omega⟩
  · rw [if_neg h1]; exact .inl ⟨0, rfl, by omega⟩
end Go.Proofs.YtkdceefdipljaaaFft.Ev

/- Plain laws: rows that are searched; rows that rise; variables of terms in rising order. No condition but sizes. -/
namespace Go.Proofs.YtkdceefdipljaaaFft.Ev
open Go
set_option autoImplicit false
set_option linter.unusedVariables false
set_option linter.unusedSimpArgs false

theorem p_Index_loop (a : List Int) (x : Int) (ha : a.length ≤ 17592186044416) : ∀ k i : Nat, i + k = a.length → ∃ r, l_slices_Index_int_int_26 M a x a.length i = some r ∧ (match r with | .inl _ => x ∉ a.drop i | .inr r => 0 ≤ r.1.1 ∧ x ∈ a.drop i) := by
  intro k
  induction k with
  | zero =>
    intro i hi
    obtain rfl : i = a.length := by omega
    exact ⟨.inl (), el_slices_Index_int_int_26 _ _ _ _ (by simp [ql_slices_Index_int_int_26]), by simp⟩
  | succ k ih =>
    intro i hi
    have h1 : i < a.length := by omega
    obtain ⟨r, hr, hm⟩ := ih (i + 1) (by omega)
    rw [List.drop_eq_getElem_cons h1]
    by_cases hx : x = a[i]
    · refine ⟨.inr (((i : Int), ()), ()), el_slices_Index_int_int_26 _ _ _ _ ?_, Int.natCast_nonneg i, hx ▸ List.mem_cons_self⟩
      simp only [ql_slices_Index_int_int_26]
      rw [if_pos (by simpa using h1), idx_lt h1]
      simp only [Option.bind_some]
      rw [if_pos (by simpa using hx)]
    · refine ⟨r, el_slices_Index_int_int_26 _ _ _ _ ?_, ?_⟩
      · simp only [ql_slices_Index_int_int_26]
        rw [if_pos (by simpa using h1), idx_lt h1]
        simp only [Option.bind_some]
        rw [if_neg (by simpa using hx), inc_nat (by omega)]
        exact hr
      · cases r with
        | inl r => simp only [List.mem_cons, not_or]; exact ⟨hx, hm⟩
        | inr r => exact ⟨hm.1, List.mem_cons_of_mem _ hm.2⟩
theorem p_Contains (a : List Int) (x : Int) (ha : a.length ≤ 17592186044416) : c_slices_Contains_int_int M a x = some ((decide (x ∈ a), ()), ()) := by
  obtain ⟨r, hr, hm⟩ := p_Index_loop a x ha a.length 0 (by omega)
  rw [show ((0 : Nat) : Int) = 0 from rfl] at hr
  rw [List.drop_zero] at hm
  apply e_slices_Contains_int_int
  cases r with
  | inl r =>
    rw [q_slices_Contains_int_int, e_slices_Index_int_int a x (r := ((-1, ()), ())) (by simp only [q_slices_Index_int_int, hr, Option.bind_some, Sum.elim_inl])]
    have : decide (x ∈ a) = false := by simpa using hm
    rw [this]; rfl
  | inr r =>
    rw [q_slices_Contains_int_int, e_slices_Index_int_int a x (r := r) (by simp only [q_slices_Index_int_int, hr, Option.bind_some, Sum.elim_inr])]
    have : decide (x ∈ a) = true := by simpa using hm.2
    rw [this]
    simp [hm.1]

/-- A row that rises. -/
def Up (l : List Int) : Prop := l.Pairwise (· < ·)
theorem Up.ext {l k : List Int} (hl : Up l) (hk : Up k) (h : ∀ x, x ∈ l ↔ x ∈ k) : l = k := by
  induction l generalizing k with
  | nil =>
    cases k with
    | nil => rfl
    | cons y k => exact absurd ((h y).2 (by simp)) (by simp)
  | cons x l ih =>
    cases k with
    | nil => exact absurd ((h x).1 (by simp)) (by simp)
    | cons y k =>
      have hl' := List.pairwise_cons.1 hl
      have hk' := List.pairwise_cons.1 hk
      have hxy : x = y := by
        have a1 := (h x).1 (by simp)
        have a2 := (h y).2 (by simp)
        rcases List.mem_cons.1 a1 with a1 | a1
        · exact a1
        · rcases List.mem_cons.1 a2 with a2 | a2
          · exact a2.symm
          · have := hl'.1 _ a2; have := hk'.1 _ a1; omega
      subst hxy
      rw [ih hl'.2 hk'.2 fun z => ?_]
      constructor
      · intro hz
        rcases List.mem_cons.1 ((h z).1 (by simp [hz])) with e | e
        · have := hl'.1 _ hz; omega
        · exact e
      · intro hz
        rcases List.mem_cons.1 ((h z).2 (by simp [hz])) with e | e
        · have := hk'.1 _ hz; omega
        · exact e
/-- Some of the numbers from 0 to 11, rising. -/
def upTo (p : Int → Bool) : List Int := ((List.range 12).map Int.ofNat).filter p
theorem upTo_up (p : Int → Bool) : Up (upTo p) := by
  unfold Up upTo
  exact List.Pairwise.filter _ (by decide)
theorem mem_upTo {p : Int → Bool} {v : Int} : v ∈ upTo p ↔ 0 ≤ v ∧ v ≤ 11 ∧ p v = true := by
  simp only [upTo, List.mem_filter, List.mem_map, List.mem_range]
  constructor
  · rintro ⟨⟨n, h, rfl⟩, hp⟩
    exact ⟨Int.natCast_nonneg n, by simp only [Int.ofNat_eq_natCast]; omega, hp⟩
  · rintro ⟨h1, h2, hp⟩
    exact ⟨⟨v.toNat, by omega, by simp only [Int.ofNat_eq_natCast]; omega⟩, hp⟩
theorem upTo_len (p : Int → Bool) : (upTo p).length ≤ 12 := by
  unfold upTo
  exact Nat.le_trans (List.length_filter_le _ _) (by simp)
/-- The loop that gathers them. -/
theorem upTo_part (p : Int → Bool) (i : Nat) (hi : i ≤ 12) : ∀ o, o = (((List.range i).map Int.ofNat).filter p) → (i < 12 → ((((List.range (i + 1)).map Int.ofNat).filter p) = if p i = true then o ++ [(i : Int)] else o)) := by
  intro o ho _
  subst ho
  rw [List.range_succ, List.map_append, List.filter_append]
  simp only [List.map_cons, List.map_nil, Int.ofNat_eq_natCast]
  cases h : p i <;> simp [h]

/-- A number put into a rising row. -/
def putN : List Int → Int → List Int
  | [], n => [n]
  | x :: r, n => if x < n then x :: putN r n else if x = n then x :: r else n :: x :: r
theorem mem_putN {l : List Int} {n x : Int} : x ∈ putN l n ↔ x ∈ l ∨ x = n := by
  induction l with
  | nil => simp [putN]
  | cons y r ih =>
    simp only [putN]
    split
    · simp only [List.mem_cons, ih, or_assoc]
    · split
      · rename_i h; subst h
        simp only [List.mem_cons]
        constructor
        · intro h; exact .inl h
        · rintro (h | rfl)
          · exact h
          · exact .inl rfl
      · simp only [List.mem_cons]
        constructor
        · rintro (h | h)
          · exact .inr h
          · exact .inl h
        · rintro (h | h)
          · exact .inr h
          · exact .inl h
theorem up_putN {l : List Int} (h : Up l) (n : Int) : Up (putN l n) := by
  induction l with
  | nil => simp [putN, Up]
  | cons y r ih =>
    have h' := List.pairwise_cons.1 h
    simp only [putN]
    split
    · refine List.pairwise_cons.2 ⟨fun z hz => ?_, ih h'.2⟩
      rcases mem_putN.1 hz with hz | rfl
      · exact h'.1 _ hz
      · assumption
    · split
      · exact h
      · refine List.pairwise_cons.2 ⟨fun z hz => ?_, h⟩
        rcases List.mem_cons.1 hz with rfl | hz
        · omega
        · have := h'.1 _ hz; omega
theorem putN_len (l : List Int) (n : Int) : (putN l n).length ≤ l.length + 1 := by
  induction l with
  | nil => simp [putN]
  | cons y r ih =>
    simp only [putN]
    split
    · simp only [List.length_cons]; omega
    · split <;> simp
theorem putN_split (n : Int) : ∀ (P R : List Int), (∀ x ∈ P, x < n) → (∀ y, R.head? = some y → n ≤ y) → putN (P ++ R) n = if R.head? = some n then P ++ R else P ++ n :: R
  | [], [], _, _ => by simp [putN]
  | [], y :: R, _, h => by
    have := h y rfl
    simp only [List.nil_append, putN, List.head?_cons, Option.some.injEq]
    rw [if_neg (by omega)]
  | x :: P, R, h, h' => by
    have ih := putN_split n P R (fun y hy => h y (by simp [hy])) h'
    simp only [List.cons_append, putN]
    rw [if_pos (h x (by simp)), ih]
    split <;> rfl

theorem p_l1Put_at (l : List Int) (hl : l.length ≤ 1000) (n : Int) : ∀ k i : Nat, i + k = l.length → (∀ x ∈ l.take i, x < n) → ∃ j : Nat, j ≤ l.length ∧ l_spec_l1Put_28 M l n i = some (.inl (l, n, j, ())) ∧ (∀ x ∈ l.take j, x < n) ∧ (∀ y, (l.drop j).head? = some y → n ≤ y) := by
  intro k
  induction k with
  | zero =>
    intro i hi h
    obtain rfl : i = l.length := by omega
    exact ⟨l.length, Nat.le_refl _, el_spec_l1Put_28 _ _ _ (by simp [ql_spec_l1Put_28]), h, by simp⟩
  | succ k ih =>
    intro i hi h
    have h1 : i < l.length := by omega
    by_cases hx : l[i] < n
    · obtain ⟨j, g2, g3, g4⟩ := ih (i + 1) (by omega) (by
        intro x hx'
        rw [List.take_succ_eq_append_getElem h1, List.mem_append] at hx'
        rcases hx' with hx' | hx'
        · exact h x hx'
        · simp at hx'; omega)
      refine ⟨j, g2, el_spec_l1Put_28 _ _ _ ?_, g4⟩
      simp only [ql_spec_l1Put_28]
      rw [if_pos (by simpa using h1), if_pos (by omega), Int.toNat_natCast, List.getElem?_eq_getElem h1]
      simp only [Option.bind_some]
      rw [if_pos (by simpa using hx), inc_nat (by omega)]
      exact g3
    · refine ⟨i, by omega, el_spec_l1Put_28 _ _ _ ?_, h, ?_⟩
      · simp only [ql_spec_l1Put_28]
        rw [if_pos (by simpa using h1), if_pos (by omega), Int.toNat_natCast, List.getElem?_eq_getElem h1]
        simp only [Option.bind_some]
        rw [if_neg (by simpa using hx)]
      · intro y hy
        rw [List.drop_eq_getElem_cons h1] at hy
        simp only [List.head?_cons, Option.some.injEq] at hy; omega
theorem p_putN (l : List Int) (hl : l.length ≤ 1000) (n : Int) : c_spec_l1Put M l n = some ((putN l n, ()), ()) := by
  obtain ⟨j, g2, g3, g4, g5⟩ := p_l1Put_at l hl n l.length 0 (by omega) (by simp)
  rw [show ((0 : Nat) : Int) = 0 from rfl] at g3
  have key := putN_split n (l.take j) (l.drop j) g4 g5
  rw [List.take_append_drop] at key
  apply e_spec_l1Put
  simp only [q_spec_l1Put, g3, Option.bind_some, Sum.elim_inl]
  by_cases h1 : j < l.length
  · have hh : (l.drop j).head? = some l[j] := by rw [List.drop_eq_getElem_cons h1]; rfl
    rw [if_pos (by simpa using h1), if_pos (by omega), Int.toNat_natCast, List.getElem?_eq_getElem h1]
    simp only [Option.bind_some, Int.toNat_natCast, Int.toNat_zero, List.drop_zero, List.nil_append, List.length_nil, List.length_append, List.length_take, List.length_drop, List.length_cons, List.take_length]
    rw [hh] at key
    by_cases h2 : l[j] = n
    · rw [if_pos (by simpa using h2), key, if_pos (by rw [h2])]
    · rw [if_neg (by simpa using h2), if_pos (by omega), if_pos (by omega), if_pos (by omega), if_pos (by omega), if_pos (by omega), key, if_neg (by simpa using h2)]
      simp
  · have hd : l.drop j = [] := List.drop_of_length_le (by omega)
    rw [hd] at key
    rw [if_neg (by simpa using h1)]
    simp only [Option.bind_some, Int.toNat_natCast, Int.toNat_zero, List.drop_zero, List.nil_append, List.length_nil, List.length_append, List.length_take, List.length_drop, List.length_cons, List.take_length]
    rw [if_pos (by omega), if_pos (by omega), if_pos (by omega), if_pos (by omega), if_pos (by omega), key, hd]
    simp
theorem Up.le12 {L : List Int} (h : Up L) (hb : ∀ v ∈ L, 0 ≤ v ∧ v ≤ 11) : L = upTo (fun v => decide (v ∈ L)) := by
  refine Up.ext h (upTo_up _) fun x => ?_
  rw [mem_upTo]
  constructor
  · intro hx; exact ⟨(hb x hx).1, (hb x hx).2, by simpa using hx⟩
  · rintro ⟨_, _, hx⟩; simpa using hx
theorem Up.len12 {L : List Int} (h : Up L) (hb : ∀ v ∈ L, 0 ≤ v ∧ v ≤ 11) : L.length ≤ 12 := by
  rw [h.le12 hb]; exact upTo_len _

theorem foldPut_len : ∀ (vs o : List Int), (vs.foldl putN o).length ≤ o.length + vs.length
  | [], o => by simp
  | v :: vs, o => by
    have h1 := foldPut_len vs (putN o v)
    have h2 := putN_len o v
    simp only [List.foldl_cons, List.length_cons]
    omega
theorem mem_foldPut : ∀ (vs o : List Int) (x : Int), x ∈ vs.foldl putN o ↔ x ∈ o ∨ x ∈ vs
  | [], o, x => by simp
  | v :: vs, o, x => by
    simp only [List.foldl_cons, mem_foldPut vs, mem_putN, List.mem_cons, or_assoc]
theorem up_foldPut : ∀ (vs o : List Int), Up o → Up (vs.foldl putN o)
  | [], o, h => h
  | v :: vs, o, h => up_foldPut vs _ (up_putN h v)
end Go.Proofs.YtkdceefdipljaaaFft.Ev

/- Plain laws: the variables of some terms, in rising order, as the program gathers them. No condition but sizes. -/
namespace Go.Proofs.YtkdceefdipljaaaFft.Ev
open Go
set_option autoImplicit false
set_option linter.unusedVariables false
set_option linter.unusedSimpArgs false

theorem p_vi1 (t : List Int) (v : Int) (ht : t.length ≤ 17592186044416) (h0 : -1000 ≤ v) (h1 : v ≤ 1000) : c_impl_varsIn_1 M t v = some ((decide (-1 - v ∈ t), ()), ()) := by
  apply e_impl_varsIn_1
  simp only [q_impl_varsIn_1]
  rw [w64 (x := -1 - v) (by omega) (by omega), p_Contains t _ ht]
  rfl
/-- Whether a variable is in one of some terms. -/
def inV (ts : List (List Int)) (v : Int) : Bool := ts.any fun t => decide (-1 - v ∈ t)
theorem p_viIdx_loop (ts : List (List Int)) (v : Int) (h0 : -1000 ≤ v) (h1 : v ≤ 1000) (hl : ts.length ≤ 17592186044416) (hx : ∀ t ∈ ts, t.length ≤ 17592186044416) : ∀ k i : Nat, i + k = ts.length → ∃ r, l_slices_IndexFunc_SS_int_int__impl_varsIn_1_26 M ts (v, ()) ts.length i = some r ∧ (match r with | .inl _ => inV (ts.drop i) v = false | .inr r => 0 ≤ r.1.1 ∧ inV (ts.drop i) v = true) := by
  intro k
  induction k with
  | zero =>
    intro i hi
    obtain rfl : i = ts.length := by omega
    exact ⟨.inl (), el_slices_IndexFunc_SS_int_int__impl_varsIn_1_26 _ _ _ _ (by simp [ql_slices_IndexFunc_SS_int_int__impl_varsIn_1_26]), by simp [inV]⟩
  | succ k ih =>
    intro i hi
    have h2 : i < ts.length := by omega
    obtain ⟨r, hr, hm⟩ := ih (i + 1) (by omega)
    rw [List.drop_eq_getElem_cons h2]
    have hc := p_vi1 ts[i] v (hx _ (List.getElem_mem h2)) h0 h1
    cases hp : decide (-1 - v ∈ ts[i]) with
    | false =>
      refine ⟨r, el_slices_IndexFunc_SS_int_int__impl_varsIn_1_26 _ _ _ _ ?_, ?_⟩
      · simp only [ql_slices_IndexFunc_SS_int_int__impl_varsIn_1_26]
        rw [if_pos (by simpa using h2), idx_lt h2]
        simp only [Option.bind_some, hc, hp, Bool.false_eq_true, if_false]
        rw [inc_nat (by omega)]
        exact hr
      · cases r with
        | inl r => simp only [inV, List.any_cons, hp, Bool.false_or]; exact hm
        | inr r => simp only [inV, List.any_cons, hp, Bool.false_or]; exact hm
    | true =>
      refine ⟨.inr (((i : Int), ()), ()), el_slices_IndexFunc_SS_int_int__impl_varsIn_1_26 _ _ _ _ ?_, Int.natCast_nonneg i, ?_⟩
      · simp only [ql_slices_IndexFunc_SS_int_int__impl_varsIn_1_26]
        rw [if_pos (by simpa using h2), idx_lt h2]
        simp only [Option.bind_some, hc, hp, if_true]
      · simp only [inV, List.any_cons, hp, Bool.true_or]
theorem p_viContains (ts : List (List Int)) (v : Int) (h0 : -1000 ≤ v) (h1 : v ≤ 1000) (hl : ts.length ≤ 17592186044416) (hx : ∀ t ∈ ts, t.length ≤ 17592186044416) : c_slices_ContainsFunc_SS_int_int__impl_varsIn_1 M ts (v, ()) = some ((inV ts v, ()), ()) := by
  obtain ⟨r, hr, hm⟩ := p_viIdx_loop ts v h0 h1 hl hx ts.length 0 (by omega)
  rw [show ((0 : Nat) : Int) = 0 from rfl] at hr
  rw [List.drop_zero] at hm
  apply e_slices_ContainsFunc_SS_int_int__impl_varsIn_1
  cases r with
  | inl r =>
    rw [q_slices_ContainsFunc_SS_int_int__impl_varsIn_1, e_slices_IndexFunc_SS_int_int__impl_varsIn_1 ts (v, ()) (r := ((-1, ()), ())) (by simp only [q_slices_IndexFunc_SS_int_int__impl_varsIn_1, hr, Option.bind_some, Sum.elim_inl])]
    simp only at hm
    simp [hm]
  | inr r =>
    rw [q_slices_ContainsFunc_SS_int_int__impl_varsIn_1, e_slices_IndexFunc_SS_int_int__impl_varsIn_1 ts (v, ()) (r := r) (by simp only [q_slices_IndexFunc_SS_int_int__impl_varsIn_1, hr, Option.bind_some, Sum.elim_inr])]
    simp only at hm
    simp [hm]
theorem p_varsIn_loop (ts : List (List Int)) (hl : ts.length ≤ 17592186044416) (hx : ∀ t ∈ ts, t.length ≤ 17592186044416) : ∀ k i : Nat, i + k = 12 → ∀ o : List Int, o = ((List.range i).map Int.ofNat).filter (inV ts) → l_impl_varsIn_58 M ts o i = some (.inl (upTo (inV ts), ())) := by
  intro k
  induction k with
  | zero =>
    intro i hi o ho
    obtain rfl : i = 12 := by omega
    subst ho
    exact el_impl_varsIn_58 _ _ _ (by simp [ql_impl_varsIn_58, upTo])
  | succ k ih =>
    intro i hi o ho
    have hp := upTo_part (inV ts) i (by omega) o ho (by omega)
    have hol : o.length ≤ 12 := by rw [ho]; exact Nat.le_trans (List.length_filter_le _ _) (by simp; omega)
    apply el_impl_varsIn_58
    simp only [ql_impl_varsIn_58]
    rw [if_pos (by simp; omega), p_viContains ts i (by omega) (by omega) hl hx]
    simp only [Option.bind_some]
    cases hv : inV ts (i : Int) with
    | true =>
      rw [hv, if_pos rfl] at hp
      rw [if_pos rfl, if_pos (by simp; omega)]
      simp only [Option.bind_some, Sum.elim_inl]
      rw [inc_nat (by omega)]
      exact ih (i + 1) (by omega) _ hp.symm
    | false =>
      rw [hv, if_neg (by simp)] at hp
      rw [if_neg (by simp)]
      simp only [Option.bind_some, Sum.elim_inl]
      rw [inc_nat (by omega)]
      exact ih (i + 1) (by omega) _ hp.symm
theorem p_varsIn (ts : List (List Int)) (hl : ts.length ≤ 17592186044416) (hx : ∀ t ∈ ts, t.length ≤ 17592186044416) : c_impl_varsIn M ts = some ((upTo (inV ts), ()), ()) := by
  apply e_impl_varsIn
  simp only [q_impl_varsIn]
  have := p_varsIn_loop ts hl hx 12 0 (by omega) [] (by simp)
  rw [show ((0 : Nat) : Int) = 0 from rfl] at this
  rw [this]
  rfl
end Go.Proofs.YtkdceefdipljaaaFft.Ev

/- Plain laws: nodes that are good are small. No condition but sizes. -/
namespace Go.Proofs.YtkdceefdipljaaaFft.Ev
open Go
set_option autoImplicit false
set_option linter.unusedVariables false
set_option linter.unusedSimpArgs false

theorem ndOK_sm {a : List Int} {x : TForm} (h : ndOK a x = true) : x.2.2.1.length ≤ 40 ∧ x.2.2.2.1.length ≤ 40 := by
  unfold ndOK at h
  split at h
  · simp only [isB, isT, Bool.and_eq_true, decide_eq_true_eq] at h
    exact ⟨h.2.1.1.1, h.2.2.1.1⟩
  · split at h
    · rename_i h2; rw [h2.1, h2.2]; simp
    · cases h
theorem ndOK_smF {a : List Int} {x : TForm} (h : ndOK a x = true) : smF x := by
  have := ndOK_sm h
  unfold smF; omega
end Go.Proofs.YtkdceefdipljaaaFft.Ev

/- Plain laws: the free variables of a formula, by both programs; FnExactFreeIn. No condition but sizes. -/
namespace Go.Proofs.YtkdceefdipljaaaFft.Ev
open Go
set_option autoImplicit false
set_option linter.unusedVariables false
set_option linter.unusedSimpArgs false

theorem mget_mput {α : Type} (m : List (Int × α)) (k v : Int) (y z : α) : mget (mput m k y) v z = if k = v then y else mget m v z := by
  induction m with
  | nil => simp [mput, mget]
  | cons p r ih =>
    obtain ⟨a, b⟩ := p
    simp only [mput]
    by_cases h : a = k
    · subst h
      rw [if_pos rfl]
      simp only [mget]
      by_cases hv : a = v <;> simp [hv]
    · rw [if_neg h]
      simp only [mget, ih]
      by_cases hv : a = v
      · subst hv; rw [if_pos rfl, if_neg (fun e => h e.symm), if_pos rfl]
      · rw [if_neg hv, if_neg hv]

/-! ### The reference -/
theorem p_freePut1 (vs : List Int) (hl : vs.length ≤ 500) : ∀ k i : Nat, i + k = vs.length → ∀ o : List Int, o.length ≤ 400 + i → l_spec_l14Free_3754 M o vs vs.length i = some (.inl ((vs.drop i).foldl putN o, ())) := by
  intro k
  induction k with
  | zero =>
    intro i hi o ho
    obtain rfl : i = vs.length := by omega
    exact el_spec_l14Free_3754 _ _ _ _ (by simp [ql_spec_l14Free_3754])
  | succ k ih =>
    intro i hi o ho
    have h1 : i < vs.length := by omega
    apply el_spec_l14Free_3754
    simp only [ql_spec_l14Free_3754]
    rw [if_pos (by simpa using h1), if_pos (by omega), Int.toNat_natCast, List.getElem?_eq_getElem h1]
    simp only [Option.bind_some, p_putN o (by omega)]
    have := putN_len o vs[i]
    rw [inc_nat (by omega), ih (i + 1) (by omega) _ (by omega), List.drop_eq_getElem_cons h1]
    rfl
theorem p_freePut2 (vs : List Int) (hl : vs.length ≤ 500) : ∀ k i : Nat, i + k = vs.length → ∀ o : List Int, o.length ≤ 400 + i → l_spec_l14Free_250 M o vs vs.length i = some (.inl ((vs.drop i).foldl putN o, ())) := by
  intro k
  induction k with
  | zero =>
    intro i hi o ho
    obtain rfl : i = vs.length := by omega
    exact el_spec_l14Free_250 _ _ _ _ (by simp [ql_spec_l14Free_250])
  | succ k ih =>
    intro i hi o ho
    have h1 : i < vs.length := by omega
    apply el_spec_l14Free_250
    simp only [ql_spec_l14Free_250]
    rw [if_pos (by simpa using h1), if_pos (by omega), Int.toNat_natCast, List.getElem?_eq_getElem h1]
    simp only [Option.bind_some, p_putN o (by omega)]
    have := putN_len o vs[i]
    rw [inc_nat (by omega), ih (i + 1) (by omega) _ (by omega), List.drop_eq_getElem_cons h1]
    rfl
theorem p_l8Drop_loop (V : Int) (vs : List Int) (hl : vs.length ≤ 500) : ∀ k i : Nat, i + k = vs.length → ∀ o : List Int, o.length ≤ i → l_spec_l8Drop_58 M V o vs vs.length i = some (.inl (o ++ (vs.drop i).filter (fun x => x != V), ())) := by
  intro k
  induction k with
  | zero =>
    intro i hi o ho
    obtain rfl : i = vs.length := by omega
    exact el_spec_l8Drop_58 _ _ _ _ _ (by simp [ql_spec_l8Drop_58])
  | succ k ih =>
    intro i hi o ho
    have h1 : i < vs.length := by omega
    apply el_spec_l8Drop_58
    simp only [ql_spec_l8Drop_58]
    rw [if_pos (by simpa using h1), idx_lt h1, List.drop_eq_getElem_cons h1]
    simp only [Option.bind_some]
    by_cases hv : vs[i] = V
    · rw [if_neg (by simpa using hv)]
      simp only [Option.bind_some, Sum.elim_inl]
      rw [inc_nat (by omega), ih (i + 1) (by omega) _ (by omega), List.filter_cons, if_neg (by simpa using hv)]
    · rw [if_pos (by simpa using hv), if_pos (by simp; omega)]
      simp only [Option.bind_some, Sum.elim_inl]
      rw [inc_nat (by omega), ih (i + 1) (by omega) _ (by simp; omega), List.filter_cons, if_pos (by simpa using hv)]
      simp
theorem p_l8Drop (vs : List Int) (V : Int) (hl : vs.length ≤ 500) : c_spec_l8Drop M vs V = some ((vs.filter (fun x => x != V), ()), ()) := by
  apply e_spec_l8Drop
  have := p_l8Drop_loop V vs hl vs.length 0 (by omega) [] (by simp)
  rw [show ((0 : Nat) : Int) = 0 from rfl] at this
  simp only [q_spec_l8Drop, this, Option.bind_some, Sum.elim_inl, List.nil_append, List.drop_zero]

/-! ### The program -/
theorem p_free_vars (T : Tree) (bd : List Int) (hb : bd.length ≤ 1000) (nd : TForm) (vs : List Int) (hl : vs.length ≤ 1000) : ∀ k i : Nat, i + k = vs.length → ∀ m : List (Int × Bool), ∃ m', l_impl_tree_free_26 M T m bd nd vs vs.length i = some (.inl (T, m', bd, nd, ())) ∧ ∀ v, mget m' v false = (mget m v false || (decide (v ∈ vs.drop i) && !decide (v ∈ bd))) := by
  intro k
  induction k with
  | zero =>
    intro i hi m
    obtain rfl : i = vs.length := by omega
    exact ⟨m, el_impl_tree_free_26 _ _ _ _ _ _ _ (by simp [ql_impl_tree_free_26]), by simp⟩
  | succ k ih =>
    intro i hi m
    have h1 : i < vs.length := by omega
    have dm : ∀ v, decide (v ∈ vs.drop i) = (decide (v = vs[i]) || decide (v ∈ vs.drop (i + 1))) := by
      intro v
      rw [List.drop_eq_getElem_cons h1, Bool.eq_iff_iff]
      simp only [decide_eq_true_eq, Bool.or_eq_true, List.mem_cons]
    obtain ⟨m', g1, g2⟩ := ih (i + 1) (by omega) (mput m vs[i] (mget m vs[i] false || !decide (vs[i] ∈ bd)))
    refine ⟨m', el_impl_tree_free_26 _ _ _ _ _ _ _ ?_, fun v => ?_⟩
    · simp only [ql_impl_tree_free_26]
      rw [if_pos (by simpa using h1), if_pos (by omega), Int.toNat_natCast, List.getElem?_eq_getElem h1]
      simp only [Option.bind_some, p_Contains bd _ (by omega)]
      rw [inc_nat (by omega)]
      cases hm : mget m vs[i] false with
      | true => rw [hm] at g1; rw [if_pos rfl]; exact g1
      | false => rw [hm] at g1; rw [if_neg (by simp)]; exact g1
    · rw [g2 v, mget_mput, dm v]
      by_cases hv : vs[i] = v
      · subst hv
        cases mget m vs[i] false <;> cases decide (vs[i] ∈ bd) <;> simp
      · have : decide (v = vs[i]) = false := by simpa using fun e => hv (Eq.symm e)
        rw [if_neg hv, this, Bool.false_or]
theorem p_free_node (x : TForm) (ts : List Tree) (hx : smF x) (m : List (Int × Bool)) (bd : List Int) (hb : bd.length ≤ 1000) : ∃ m1 : List (Int × Bool), (∀ v, mget m1 v false = (mget m v false || (decide (v ∈ upTo (inV [x.2.2.1, x.2.2.2.1])) && !decide (v ∈ bd)))) ∧
    ∀ m2, l_impl_tree_free_62 M m1 (if x.1 = 5 ∨ x.1 = 6 then bd ++ [x.2.1] else bd) ts ts.length 0 = some (.inl (m2, ())) → c_impl_tree_free M (mkT x ts) m bd = some ((), (m2, ())) := by
  have hv := p_varsIn [x.2.2.1, x.2.2.2.1] (by simp) (by
    intro t ht
    have := hx.1; have := hx.2
    simp only [List.mem_cons, List.not_mem_nil, or_false] at ht
    rcases ht with rfl | rfl <;> omega)
  have hl12 := upTo_len (inV [x.2.2.1, x.2.2.2.1])
  obtain ⟨m1, g1, g2⟩ := p_free_vars (mkT x ts) bd hb x (upTo (inV [x.2.2.1, x.2.2.2.1])) (by omega) (upTo (inV [x.2.2.1, x.2.2.2.1])).length 0 (by omega) m
  rw [show ((0 : Nat) : Int) = 0 from rfl] at g1
  refine ⟨m1, fun v => by rw [g2 v, List.drop_zero], fun m2 h => e_impl_tree_free _ _ _ ?_⟩
  simp only [q_impl_tree_free, treeK, form_eta, hv, Option.bind_some]
  rw [g1]
  simp only [Option.bind_some, Sum.elim_inl]
  by_cases h5 : x.1 = 5
  · rw [if_pos (.inl h5)] at h
    rw [if_pos (by simpa using h5), if_pos (by omega), if_pos (by simp; omega)]
    simp only [Option.bind_some, Sum.elim_inl, treeK, h]
  · rw [if_neg (by simpa using h5)]
    by_cases h6 : x.1 = 6
    · rw [if_pos (.inr h6)] at h
      rw [if_pos (by simpa using h6), if_pos (by omega), if_pos (by simp; omega)]
      simp only [Option.bind_some, Sum.elim_inl, treeK, h]
    · rw [if_neg (by omega)] at h
      rw [if_neg (by simpa using h6)]
      simp only [Option.bind_some, Sum.elim_inl, treeK, h]
theorem p_free_end (m : List (Int × Bool)) (bd : List Int) (ts : List Tree) : l_impl_tree_free_62 M m bd ts ts.length ts.length = some (.inl (m, ())) := by
  apply el_impl_tree_free_62
  simp [ql_impl_tree_free_62]
theorem p_free_step (m m' m2 : List (Int × Bool)) (bd : List Int) (ts : List Tree) (i : Nat) (hi : i < ts.length) (hl : ts.length ≤ 1000) (h : c_impl_tree_free M ts[i] m bd = some ((), (m', ()))) (hr : l_impl_tree_free_62 M m' bd ts ts.length ((i + 1 : Nat) : Int) = some (.inl (m2, ()))) :
    l_impl_tree_free_62 M m bd ts ts.length (i : Int) = some (.inl (m2, ())) := by
  apply el_impl_tree_free_62
  simp only [ql_impl_tree_free_62]
  rw [if_pos (by simpa using hi), idx_lt hi]
  simp only [Option.bind_some, h]
  rw [inc_nat (by omega)]
  exact hr

theorem nd_flat {a : List Int} {x : TForm} (h : ndOK a x = true) (h1 : x.1 ≠ 1) : x.2.2.1 = [] ∧ x.2.2.2.1 = [] := by
  unfold ndOK at h
  rw [if_neg h1] at h
  split at h
  · assumption
  · cases h
theorem inV_nil (x : TForm) (h : x.2.2.1 = [] ∧ x.2.2.2.1 = []) (v : Int) : decide (v ∈ upTo (inV [x.2.2.1, x.2.2.2.1])) = false := by
  rw [h.1, h.2]
  simp only [decide_eq_false_iff_not, mem_upTo, inV, List.any_cons, List.any_nil, List.not_mem_nil, decide_false, Bool.or_self, Bool.false_eq_true, and_false, not_false_eq_true]

/-- The free variables of a formula, rising: what both programs find. -/
theorem p_free {a : List Int} {h : List TForm} {t : Tree} (hf : FT a h t) : ∃ L : List Int, Up L ∧ (∀ v ∈ L, 0 ≤ v ∧ v ≤ 11) ∧ (∀ pre post : List TForm, pre.length + h.length ≤ 100 → c_spec_l14Free M (pre ++ (h ++ post)) ((pre.length : Int) + h.length - 1) = some ((L, ()), ())) ∧
    ∀ (m : List (Int × Bool)) (bd : List Int), bd.length + h.length ≤ 900 → ∃ m', c_impl_tree_free M t m bd = some ((), (m', ())) ∧ ∀ v, mget m' v false = (mget m v false || (decide (v ∈ L) && !decide (v ∈ bd))) := by
  induction hf with
  | @leaf x h h0 =>
    obtain ⟨ho, tl, tr⟩ := leaf_op h h0
    have hx := ndOK_smF h
    obtain ⟨l1, l2⟩ := isT_ge tl
    obtain ⟨r1, r2⟩ := isT_ge tr
    obtain ⟨vl, e1, e2, e3⟩ := p_l1Vars _ (by omega) l2
    obtain ⟨vr, f1, f2, f3⟩ := p_l1Vars _ (by omega) r2
    have hmem : ∀ v, v ∈ (vl ++ vr).foldl putN [] ↔ ∃ n, (n ∈ x.2.2.1 ∨ n ∈ x.2.2.2.1) ∧ n < 0 ∧ v = -1 - n := by
      intro v
      rw [mem_foldPut, List.mem_append, e3, f3]
      constructor
      · rintro (h | ⟨n, h1, h2⟩ | ⟨n, h1, h2⟩)
        · cases h
        · exact ⟨n, .inl h1, h2⟩
        · exact ⟨n, .inr h1, h2⟩
      · rintro ⟨n, h1 | h1, h2⟩
        · exact .inr (.inl ⟨n, h1, h2⟩)
        · exact .inr (.inr ⟨n, h1, h2⟩)
    have hbd : ∀ v ∈ (vl ++ vr).foldl putN [], 0 ≤ v ∧ v ≤ 11 := by
      intro v hv
      obtain ⟨n, h1, h2, rfl⟩ := (hmem v).1 hv
      rcases h1 with h1 | h1
      · have := l2 n h1; omega
      · have := r2 n h1; omega
    refine ⟨(vl ++ vr).foldl putN [], up_foldPut _ _ List.Pairwise.nil, hbd, fun pre post hp => ?_, fun m bd hb => ?_⟩
    · simp only [List.length_cons, List.length_nil] at hp ⊢
      rw [show (pre.length : Int) + ((0 + 1 : Nat) : Int) - 1 = (pre.length : Int) by omega, List.singleton_append]
      apply e_spec_l14Free
      simp only [q_spec_l14Free, idx_mid, Option.bind_some, ho, e1, f1, Int.reduceBEq, ↓reduceIte]
      rw [if_pos (by omega)]
      have := p_freePut1 (vl ++ vr) (by simp; omega) (vl ++ vr).length 0 (by omega) [] (by simp)
      rw [show ((0 : Nat) : Int) = 0 from rfl, List.drop_zero] at this
      rw [this]
      rfl
    · simp only [List.length_cons, List.length_nil] at hb
      obtain ⟨m1, k1, k2⟩ := p_free_node x [] hx m bd (by omega)
      refine ⟨m1, k2 m1 (p_free_end _ _ []), fun v => ?_⟩
      rw [k1 v]
      congr 2
      rw [Bool.eq_iff_iff, decide_eq_true_eq, decide_eq_true_eq, mem_upTo, hmem]
      simp only [inV, List.any_cons, List.any_nil, Bool.or_false, Bool.or_eq_true, decide_eq_true_eq]
      constructor
      · rintro ⟨v0, v1, hv⟩
        exact ⟨-1 - v, hv, by omega, by omega⟩
      · rintro ⟨n, h1, h2, rfl⟩
        have := hbd (-1 - n) ((hmem _).2 ⟨n, h1, h2, rfl⟩)
        refine ⟨this.1, this.2, ?_⟩
        rw [show -1 - (-1 - n) = n by omega]
        exact h1
  | @un x g t h h1 hg ih =>
    have hx := ndOK_smF h
    obtain ⟨h256, v0, v5⟩ := un_op h h1
    have hfl := nd_flat h (by omega)
    obtain ⟨L, u1, u2, u3, u4⟩ := ih
    have hL12 := u1.len12 u2
    by_cases h2 : x.1 = 2
    · refine ⟨L, u1, u2, fun pre post hp => ?_, fun m bd hb => ?_⟩
      · simp only [List.length_append, List.length_cons, List.length_nil] at hp ⊢
        apply e_spec_l14Free
        rw [show (pre.length : Int) + ((g.length + (0 + 1) : Nat) : Int) - 1 = ((pre ++ g).length : Int) by simp; omega, show pre ++ (g ++ [x] ++ post) = (pre ++ g) ++ x :: post by simp]
        simp only [q_spec_l14Free, idx_mid, Option.bind_some, form_eta, h2, Int.reduceBEq, Bool.false_eq_true, ↓reduceIte, Sum.elim_inl]
        rw [w64 (by omega) (by simp; omega), show ((pre ++ g).length : Int) - 1 = (pre.length : Int) + g.length - 1 by simp, List.append_assoc, u3 pre (x :: post) (by omega)]
        rfl
      · simp only [List.length_append, List.length_cons, List.length_nil] at hb
        obtain ⟨m1, k1, k2⟩ := p_free_node x [t] hx m bd (by omega)
        rw [if_neg (by omega)] at k2
        obtain ⟨m2, q1, q2⟩ := u4 m1 bd (by omega)
        refine ⟨m2, k2 m2 (p_free_step _ _ _ _ [t] 0 (by simp) (by simp) q1 (p_free_end _ _ [t])), fun v => ?_⟩
        rw [q2 v, k1 v, inV_nil x hfl v]
        simp
    · have h56 : x.1 = 5 ∨ x.1 = 6 := by omega
      refine ⟨L.filter (fun v => v != x.2.1), List.Pairwise.filter _ u1, fun v hv => u2 v (List.mem_filter.1 hv).1, fun pre post hp => ?_, fun m bd hb => ?_⟩
      · simp only [List.length_append, List.length_cons, List.length_nil] at hp ⊢
        apply e_spec_l14Free
        rw [show (pre.length : Int) + ((g.length + (0 + 1) : Nat) : Int) - 1 = ((pre ++ g).length : Int) by simp; omega, show pre ++ (g ++ [x] ++ post) = (pre ++ g) ++ x :: post by simp]
        have fin : ∀ b : Bool, b = true → (if b = true then ((c_spec_l14Free M ((pre ++ g) ++ x :: post) (IntKind.i64.wrap (((pre ++ g).length : Int) - (1 : Int)))).bind fun r7 => ((c_spec_l8Drop M r7.1.1 x.2.1).bind fun r8 => (some ((r8.1.1, ()), ())))) else none : Option ((List Int × Unit) × Unit)) = some ((L.filter (fun v => v != x.2.1), ()), ()) := by
          intro b hb
          rw [if_pos hb, w64 (by omega) (by simp; omega), show ((pre ++ g).length : Int) - 1 = (pre.length : Int) + g.length - 1 by simp, List.append_assoc, u3 pre (x :: post) (by omega)]
          simp only [Option.bind_some, p_l8Drop L _ (by omega)]
        rcases h56 with h5 | h6
        · simp only [q_spec_l14Free, idx_mid, Option.bind_some, form_eta, h5, Int.reduceBEq, Bool.false_eq_true, ↓reduceIte, Sum.elim_inl]
          exact fin true rfl
        · simp only [q_spec_l14Free, idx_mid, Option.bind_some, form_eta, h6, Int.reduceBEq, Bool.false_eq_true, ↓reduceIte, Sum.elim_inl]
          exact fin true rfl
      · simp only [List.length_append, List.length_cons, List.length_nil] at hb
        obtain ⟨m1, k1, k2⟩ := p_free_node x [t] hx m bd (by omega)
        rw [if_pos h56] at k2
        obtain ⟨m2, q1, q2⟩ := u4 m1 (bd ++ [x.2.1]) (by simp; omega)
        refine ⟨m2, k2 m2 (p_free_step _ _ _ _ [t] 0 (by simp) (by simp) q1 (p_free_end _ _ [t])), fun v => ?_⟩
        rw [q2 v, k1 v, inV_nil x hfl v]
        simp only [Bool.false_and, Bool.or_false]
        congr 1
        rw [Bool.eq_iff_iff]
        simp only [Bool.and_eq_true, decide_eq_true_eq, Bool.not_eq_true', decide_eq_false_iff_not, List.mem_append, List.mem_cons, List.not_mem_nil, or_false, not_or, List.mem_filter, bne_iff_ne]
        constructor
        · rintro ⟨a1, a2, a3⟩; exact ⟨⟨a1, a3⟩, a2⟩
        · rintro ⟨⟨a1, a3⟩, a2⟩; exact ⟨a1, a2, a3⟩
  | @bin x g k t u h h2 hg hk ih1 ih2 =>
    have hx := ndOK_smF h
    have h34 := bin_op h h2
    have hfl := nd_flat h (by omega)
    obtain ⟨L1, a1, a2, a3, a4⟩ := ih1
    obtain ⟨L2, b1, b2, b3, b4⟩ := ih2
    have hL1 := a1.len12 a2
    have hL2 := b1.len12 b2
    refine ⟨L1.foldl putN L2, up_foldPut _ _ b1, ?_, fun pre post hp => ?_, fun m bd hb => ?_⟩
    · intro v hv
      rcases (mem_foldPut _ _ _).1 hv with hv | hv
      · exact b2 v hv
      · exact a2 v hv
    · simp only [List.length_append, List.length_cons, List.length_nil] at hp ⊢
      apply e_spec_l14Free
      rw [show (pre.length : Int) + ((g.length + k.length + (0 + 1) : Nat) : Int) - 1 = (((pre ++ g) ++ k).length : Int) by simp; omega, show pre ++ (g ++ k ++ [x] ++ post) = ((pre ++ g) ++ k) ++ x :: post by simp]
      have e1 := a3 pre (k ++ x :: post) (by omega)
      have e2 := b3 (pre ++ g) (x :: post) (by simp; omega)
      have e3 := p_l14First hk (pre ++ g) (x :: post) (by simp; omega)
      have n5 : (x.1 == 5) = false := by simp; omega
      have n6 : (x.1 == 6) = false := by simp; omega
      have n1 : (x.1 == 1) = false := by simp; omega
      have n2 : (x.1 == 2) = false := by simp; omega
      simp only [q_spec_l14Free, idx_mid, Option.bind_some, form_eta, n1, n2, n5, n6, Bool.false_eq_true, ↓reduceIte, Sum.elim_inl]
      rw [w64 (by omega) (by simp; omega), show (((pre ++ g) ++ k).length : Int) - 1 = ((pre ++ g).length : Int) + k.length - 1 by simp; omega, show (((pre ++ g) ++ k).length : Int) = ((pre ++ g).length : Int) + k.length by simp; omega, List.append_assoc (pre ++ g) k, e2]
      simp only [Option.bind_some]
      rw [e3]
      simp only [Option.bind_some]
      rw [show ((pre ++ g).length : Int) - 1 = (pre.length : Int) + g.length - 1 by simp, List.append_assoc pre g, e1]
      simp only [Option.bind_some]
      have := p_freePut2 L1 (by omega) L1.length 0 (by omega) L2 (by omega)
      rw [show ((0 : Nat) : Int) = 0 from rfl, List.drop_zero] at this
      rw [this]
      rfl
    · simp only [List.length_append, List.length_cons, List.length_nil] at hb
      obtain ⟨m1, k1, k2⟩ := p_free_node x [t, u] hx m bd (by omega)
      rw [if_neg (by omega)] at k2
      obtain ⟨m2, q1, q2⟩ := a4 m1 bd (by omega)
      obtain ⟨m3, q3, q4⟩ := b4 m2 bd (by omega)
      refine ⟨m3, k2 m3 (p_free_step _ _ _ _ [t, u] 0 (by simp) (by simp) q1 (p_free_step _ _ _ _ [t, u] 1 (by simp) (by simp) q3 (p_free_end _ _ [t, u]))), fun v => ?_⟩
      rw [q4 v, q2 v, k1 v, inV_nil x hfl v]
      have : decide (v ∈ L1.foldl putN L2) = (decide (v ∈ L2) || decide (v ∈ L1)) := by
        rw [Bool.eq_iff_iff]; simp only [decide_eq_true_eq, mem_foldPut, Bool.or_eq_true]
      rw [this]
      cases mget m v false <;> cases decide (v ∈ L1) <;> cases decide (v ∈ L2) <;> cases decide (v ∈ bd) <;> rfl

theorem p_freeIn_loop (m : List (Int × Bool)) : ∀ k i : Nat, i + k = 12 → ∀ o : List Int, o = ((List.range i).map Int.ofNat).filter (fun v => mget m v false) → l_impl_tree_freeIn_250 M m o i = some (.inl (upTo (fun v => mget m v false), ())) := by
  intro k
  induction k with
  | zero =>
    intro i hi o ho
    obtain rfl : i = 12 := by omega
    subst ho
    exact el_impl_tree_freeIn_250 _ _ _ (by simp [ql_impl_tree_freeIn_250, upTo])
  | succ k ih =>
    intro i hi o ho
    have hp := upTo_part (fun v => mget m v false) i (by omega) o ho (by omega)
    have hol : o.length ≤ 12 := by rw [ho]; exact Nat.le_trans (List.length_filter_le _ _) (by simp; omega)
    apply el_impl_tree_freeIn_250
    simp only [ql_impl_tree_freeIn_250]
    rw [if_pos (by simp; omega)]
    cases hv : mget m (i : Int) false with
    | true =>
      rw [hv, if_pos rfl] at hp
      rw [if_pos rfl, if_pos (by simp; omega)]
      simp only [Option.bind_some, Sum.elim_inl]
      rw [inc_nat (by omega)]
      exact ih (i + 1) (by omega) _ hp.symm
    | false =>
      rw [hv, if_neg (by simp)] at hp
      rw [if_neg (by simp)]
      simp only [Option.bind_some, Sum.elim_inl]
      rw [inc_nat (by omega)]
      exact ih (i + 1) (by omega) _ hp.symm
theorem p_freeIn {a : List Int} {h : List TForm} {t : Tree} (hf : FT a h t) (hl : h.length ≤ 100) : ∃ L : List Int, Up L ∧ (∀ v ∈ L, 0 ≤ v ∧ v ≤ 11) ∧ c_spec_l14Free M h ((h.length : Int) - 1) = some ((L, ()), ()) ∧ c_impl_tree_freeIn M t = some ((L, ()), ()) := by
  obtain ⟨L, u1, u2, u3, u4⟩ := p_free hf
  have e := u3 [] [] (by simpa using hl)
  simp only [List.nil_append, List.append_nil, List.length_nil, Int.natCast_zero, Int.zero_add] at e
  refine ⟨L, u1, u2, e, ?_⟩
  obtain ⟨m', q1, q2⟩ := u4 [] [] (by simp; omega)
  apply e_impl_tree_freeIn
  have := p_freeIn_loop m' 12 0 (by omega) [] (by simp)
  rw [show ((0 : Nat) : Int) = 0 from rfl] at this
  simp only [q_impl_tree_freeIn, q1, Option.bind_some, this, Sum.elim_inl]
  rw [u1.le12 u2]
  congr 4
  funext v
  rw [q2 v]
  simp [mget]
end Go.Proofs.YtkdceefdipljaaaFft.Ev

/- Plain laws: the free variables, by both programs. No condition but sizes. -/
namespace Go.Proofs.YtkdceefdipljaaaFft.Ev
open Go
set_option autoImplicit false
set_option linter.unusedVariables false
set_option linter.unusedSimpArgs false

theorem p_FreeIns (s : TSign) (hs : s.1.length ≤ 1048576) (f : List TForm) (hl : f.length ≤ 1048576) (hx : ∀ x ∈ f, smF x) : ∃ r : (List Int × Bool × Unit) × Unit, c_spec_FreeIn M s f = some r ∧ c_impl_FreeIn M s f = some r ∧ r.1.1.length ≤ 12 := by
  obtain ⟨t, ht, hgt⟩ := p_formula s hs f
  have hspec := p_spec_GoodForm s hs f hl hx
  cases hb : (gS s.1 && fOK s.1 f) with
  | false =>
    rw [hb] at ht hspec
    refine ⟨(([], false, ()), ()), e_spec_FreeIn _ _ ?_, e_impl_FreeIn _ _ ?_, by simp⟩
    · simp only [q_spec_FreeIn, sign_eta', hspec, Option.bind_some]; rfl
    · simp only [q_impl_FreeIn, sign_eta', ht, Option.bind_some]; rfl
  | true =>
    rw [hb] at ht hspec
    have hb' := hb
    simp only [Bool.and_eq_true, fOK, decide_eq_true_eq] at hb'
    obtain ⟨hg, h15, _⟩ := hb'
    have hft := gT_FT (hgt hb)
    have hpos := hft.pos
    obtain ⟨L, u1, u2, u3, u4⟩ := p_freeIn hft (by omega)
    refine ⟨((L, true, ()), ()), e_spec_FreeIn _ _ ?_, e_impl_FreeIn _ _ ?_, u1.len12 u2⟩
    · simp only [q_spec_FreeIn, sign_eta', hspec, Option.bind_some]
      rw [if_neg (by simp), w64 (by omega) (by omega), u3]
      rfl
    · simp only [q_impl_FreeIn, sign_eta', ht, Option.bind_some]
      rw [if_neg (by simp), u4]
      rfl

end Go.Proofs.YtkdceefdipljaaaFft.Ev

/- Plain laws: what is drawn. No condition but that the bytes are bytes and fit in memory. -/
namespace Go.Proofs.YtkdceefdipljaaaFft.Ev
open Go
set_option autoImplicit false
set_option linter.unusedVariables false
set_option linter.unusedSimpArgs false

abbrev TCur := List Int × Int × Int × Unit
theorem cur_eta (c : TCur) : (c.1, c.2.1, c.2.2.1, ()) = c := rfl
/-- A reader of choices over some bytes, no further than a place. -/
def Cu (code : List Int) (j : Int) (c : TCur) : Prop := c.1 = code ∧ 0 ≤ c.2.1 ∧ c.2.1 ≤ j
def isBytes (code : List Int) : Prop := code.length ≤ 1048576 ∧ ∀ b ∈ code, 0 ≤ b ∧ b ≤ 255

theorem and255 (x : Int) : 0 ≤ bitsI .and .u64 x 255 ∧ bitsI .and .u64 x 255 ≤ 255 := by
  have h : (BitVec.ofInt 64 x &&& BitVec.ofInt 64 255).toNat ≤ 255 := by
    rw [BitVec.toNat_and]
    exact Nat.le_trans Nat.and_le_right (by decide)
  have e : bitsI .and .u64 x 255 = IntKind.u64.wrap (((BitVec.ofInt 64 x &&& BitVec.ofInt 64 255).toNat : Nat) : Int) := rfl
  rw [e, wu64 (by omega) (by omega)]
  omega

theorem p_next {code : List Int} (hb : isBytes code) {j : Int} (hj : j ≤ 1000000000) {c : TCur} (hc : Cu code j c) : ∃ x c', c_spec_l1Cur_next M c = some ((x, ()), (c', ())) ∧ 0 ≤ x ∧ x ≤ 255 ∧ Cu code (j + 1) c' := by
  obtain ⟨h1, h2, h3⟩ := hc
  have hin : IntKind.i64.wrap (c.2.1 + 1) = c.2.1 + 1 := w64 (by omega) (by omega)
  have tail : ∀ (x0 : Int), 0 ≤ x0 → x0 ≤ 255 → (∃ r : (Int × Unit) × (TCur × Unit), (if (decide ((IntKind.i64.wrap (c.2.1 + (1 : Int))) ≤ (List.length c.1 : Int))) = true then (some ((x0, ()), ((c.1, (IntKind.i64.wrap (c.2.1 + (1 : Int))), (IntKind.u64.wrap ((IntKind.u64.wrap ((IntKind.u64.wrap (c.2.2.1 * (6364136223846793005 : Int))) + (IntKind.u64.wrap x0))) + (1442695040888963407 : Int))), ()), ()))) else (if (40 : Int) < 0 then none else (some (((IntKind.i64.wrap (bitsI .and .u64 (shrI .u64 (IntKind.u64.wrap ((IntKind.u64.wrap ((IntKind.u64.wrap (c.2.2.1 * (6364136223846793005 : Int))) + (IntKind.u64.wrap x0))) + (1442695040888963407 : Int))) (40 : Int)) (255 : Int))), ()), ((c.1, (IntKind.i64.wrap (c.2.1 + (1 : Int))), (IntKind.u64.wrap ((IntKind.u64.wrap ((IntKind.u64.wrap (c.2.2.1 * (6364136223846793005 : Int))) + (IntKind.u64.wrap x0))) + (1442695040888963407 : Int))), ()), ()))))) = some r ∧ 0 ≤ r.1.1 ∧ r.1.1 ≤ 255 ∧ Cu code (j + 1) r.2.1) := by
    intro x0 g0 g1
    rw [hin]
    by_cases hq : c.2.1 + 1 ≤ (List.length c.1 : Int)
    · rw [if_pos (by simpa using hq)]
      exact ⟨_, rfl, g0, g1, h1, by show 0 ≤ c.2.1 + 1; omega, by show c.2.1 + 1 ≤ j + 1; omega⟩
    · rw [if_neg (by simpa using hq), if_neg (by omega)]
      have ha := and255 (shrI .u64 (IntKind.u64.wrap ((IntKind.u64.wrap ((IntKind.u64.wrap (c.2.2.1 * (6364136223846793005 : Int))) + (IntKind.u64.wrap x0))) + (1442695040888963407 : Int))) (40 : Int))
      refine ⟨_, rfl, ?_, ?_, h1, by show 0 ≤ c.2.1 + 1; omega, by show c.2.1 + 1 ≤ j + 1; omega⟩
      · show 0 ≤ IntKind.i64.wrap _
        rw [w64 (by omega) (by omega)]; exact ha.1
      · show IntKind.i64.wrap _ ≤ 255
        rw [w64 (by omega) (by omega)]; exact ha.2
  by_cases hl : c.2.1 < (List.length c.1 : Int)
  · obtain ⟨m, hm⟩ : ∃ m : Nat, c.2.1 = (m : Int) := ⟨c.2.1.toNat, by omega⟩
    have hml : m < c.1.length := by omega
    have hbb := hb.2 (c.1[m]) (by rw [← h1]; exact List.getElem_mem hml)
    obtain ⟨r, r1, r2, r3, r4⟩ := tail c.1[m] hbb.1 hbb.2
    refine ⟨r.1.1, r.2.1, e_spec_l1Cur_next _ ?_, r2, r3, r4⟩
    simp only [q_spec_l1Cur_next]
    have hix : idx c.1 c.2.1 = some c.1[m] := by rw [hm, idx_lt hml]
    rw [if_pos (by simpa using hl), hix]
    simp only [Option.bind_some]
    rw [w64 (x := c.1[m]) (by omega) (by omega)]
    simp only [Option.bind_some, Sum.elim_inl]
    exact r1
  · obtain ⟨r, r1, r2, r3, r4⟩ := tail 0 (by omega) (by omega)
    refine ⟨r.1.1, r.2.1, e_spec_l1Cur_next _ ?_, r2, r3, r4⟩
    simp only [q_spec_l1Cur_next]
    rw [if_neg (by simpa using hl)]
    simp only [Option.bind_some, Sum.elim_inl]
    exact r1

theorem p_pick {code : List Int} (hb : isBytes code) {j : Int} (hj : j ≤ 100000000) {c : TCur} (hc : Cu code j c) (n : Int) (hn : n ≤ 1000000000) : ∃ x c', c_spec_l1Cur_pick M c n = some ((x, ()), (c', ())) ∧ 0 ≤ x ∧ (x < n ∨ x = 0) ∧ Cu code (j + 2) c' := by
  by_cases h1 : n ≤ 1
  · refine ⟨0, c, e_spec_l1Cur_pick _ _ ?_, by omega, .inr rfl, hc.1, hc.2.1, by have := hc.2.2; omega⟩
    simp only [q_spec_l1Cur_pick]
    rw [if_pos (by simpa using h1)]
  · obtain ⟨x, c', n1, n2, n3, n4⟩ := p_next hb (by omega) hc
    by_cases h2 : n > 200
    · obtain ⟨y, c'', m1, m2, m3, m4⟩ := p_next hb (by omega) n4
      have hw : IntKind.i64.wrap (IntKind.i64.wrap (x * 256) + y) = x * 256 + y := by rw [w64 (x := x * 256) (by omega) (by omega), w64 (by omega) (by omega)]
      refine ⟨Int.tmod (x * 256 + y) n, c'', e_spec_l1Cur_pick _ _ ?_, Int.tmod_nonneg _ (by omega), .inl (Int.tmod_lt_of_pos _ (by omega)), m4.1, m4.2.1, by have := m4.2.2; omega⟩
      simp only [q_spec_l1Cur_pick]
      rw [if_neg (by simpa using h1), cur_eta, n1]
      simp only [Option.bind_some]
      rw [if_pos (by simpa using h2), cur_eta, m1]
      simp only [Option.bind_some, Sum.elim_inl]
      rw [if_neg (by omega), hw]
    · refine ⟨Int.tmod x n, c', e_spec_l1Cur_pick _ _ ?_, Int.tmod_nonneg _ (by omega), .inl (Int.tmod_lt_of_pos _ (by omega)), n4.1, n4.2.1, by have := n4.2.2; omega⟩
      simp only [q_spec_l1Cur_pick]
      rw [if_neg (by simpa using h1), cur_eta, n1]
      simp only [Option.bind_some]
      rw [if_neg (by simpa using h2)]
      simp only [Option.bind_some, Sum.elim_inl]
      rw [if_neg (by omega)]

theorem p_one {code : List Int} (hb : isBytes code) {j : Int} (hj : j ≤ 100000000) {c : TCur} (hc : Cu code j c) (n : Int) (hn : n ≤ 1000000000) : ∃ x c', c_spec_l1Cur_one M c n = some ((x, ()), (c', ())) ∧ Cu code (j + 2) c' := by
  obtain ⟨x, c', n1, _, _, n4⟩ := p_pick hb hj hc n hn
  refine ⟨x == 0, c', e_spec_l1Cur_one _ _ ?_, n4⟩
  simp only [q_spec_l1Cur_one, cur_eta, n1, Option.bind_some]
theorem cu0 (code : List Int) : Cu code 0 (code, 0, 0, ()) := ⟨rfl, Int.le_refl _, Int.le_refl _⟩

theorem p_spoilt_loop {code : List Int} (hb : isBytes code) (w : List UInt8) (hw0 : 0 < w.length) (hw1 : w.length ≤ 1000) : ∀ (k : Nat) (j : Int) (c : TCur) (t : List UInt8), k ≤ 1000 → t.length + k ≤ 1000000 → j + 6 * k ≤ 1000000 → Cu code j c → ∃ c' t', l_spec_l1Cur_spoilt_26 M c t w k = some (.inl (c', t', ())) ∧ t'.length ≤ t.length + k ∧ Cu code (j + 6 * k) c' := by
  intro k
  induction k with
  | zero =>
    intro j c t _ _ _ hc
    refine ⟨c, t, el_spec_l1Cur_spoilt_26 _ _ _ _ ?_, by omega, by simpa using hc⟩
    simp [ql_spec_l1Cur_spoilt_26, cur_eta]
  | succ k ih =>
    intro j c t hk ht hj hc
    by_cases ht0 : 0 < t.length
    · obtain ⟨x, c1, n1, n2, n3, n4⟩ := p_pick hb (by omega) hc t.length (by omega)
      obtain ⟨i, rfl⟩ : ∃ m : Nat, x = (m : Int) := ⟨x.toNat, by omega⟩
      have hi : i < t.length := by omega
      obtain ⟨y, c2, m1, m2, m3, m4⟩ := p_pick hb (by omega) n4 w.length (by omega)
      obtain ⟨q, rfl⟩ : ∃ m : Nat, y = (m : Int) := ⟨y.toNat, by omega⟩
      have hq : q < w.length := by omega
      obtain ⟨z, c3, p1, p2, p3, p4⟩ := p_pick hb (by omega) m4 3 (by omega)
      have hwk : IntKind.i64.wrap (((k + 1 : Nat) : Int) - 1) = (k : Int) := by rw [w64 (by omega) (by omega)]; omega
      have hwi : IntKind.i64.wrap ((i : Int) + 1) = ((i + 1 : Nat) : Int) := inc_nat (by omega)
      have hwz : bytesStr [((w[q]).toNat : Int)] = [w[q]] := by simp [bytesStr]
      have fin : ∀ t' : List UInt8, t'.length ≤ t.length + 1 → ∃ c' t'', l_spec_l1Cur_spoilt_26 M c3 t' w k = some (.inl (c', t'', ())) ∧ t''.length ≤ t.length + (k + 1) ∧ Cu code (j + 6 * ((k + 1 : Nat) : Int)) c' := by
        intro t' ht'
        obtain ⟨c', t'', g1, g2, g3⟩ := ih (j + 6) c3 t' (by omega) (by omega) (by omega) ⟨p4.1, p4.2.1, by have := p4.2.2; omega⟩
        exact ⟨c', t'', g1, by omega, g3.1, g3.2.1, by have := g3.2.2; omega⟩
      by_cases z0 : z = 0
      · obtain ⟨c', t'', g1, g2, g3⟩ := fin (t.take i ++ [w[q]] ++ t.drop i) (by simp; omega)
        refine ⟨c', t'', el_spec_l1Cur_spoilt_26 _ _ _ _ ?_, g2, g3⟩
        simp only [ql_spec_l1Cur_spoilt_26]
        rw [if_pos (by simp <;> omega), if_pos (by simpa using ht0)]
        simp only [cur_eta, n1, Option.bind_some, m1, idx_lt hq, p1, z0, beq_self_eq_true, if_true, Int.toNat_natCast, Int.toNat_zero, List.drop_zero, List.take_length, hwz]
        rw [if_pos (by omega), if_pos (by simp; omega), if_pos (by omega), if_pos (by simp; omega)]
        simp only [Option.bind_some, Sum.elim_inl, cur_eta, hwk]
        exact g1
      · by_cases z1 : z = 1
        · obtain ⟨c', t'', g1, g2, g3⟩ := fin (t.take i ++ [w[q]] ++ t.drop (i + 1)) (by simp; omega)
          refine ⟨c', t'', el_spec_l1Cur_spoilt_26 _ _ _ _ ?_, g2, g3⟩
          simp only [ql_spec_l1Cur_spoilt_26]
          rw [if_pos (by simp <;> omega), if_pos (by simpa using ht0)]
          simp only [cur_eta, n1, Option.bind_some, m1, idx_lt hq, p1]
          rw [if_neg (by simpa using z0), if_pos (by simpa using z1)]
          simp only [Int.toNat_natCast, Int.toNat_zero, List.drop_zero, List.take_length, hwz, hwi]
          rw [if_pos (by omega), if_pos (by simp; omega), if_pos (by omega), if_pos (by simp; omega)]
          simp only [Option.bind_some, Sum.elim_inl, cur_eta, hwk]
          exact g1
        · obtain ⟨c', t'', g1, g2, g3⟩ := fin (t.take i ++ t.drop (i + 1)) (by simp; omega)
          refine ⟨c', t'', el_spec_l1Cur_spoilt_26 _ _ _ _ ?_, g2, g3⟩
          simp only [ql_spec_l1Cur_spoilt_26]
          rw [if_pos (by simp <;> omega), if_pos (by simpa using ht0)]
          simp only [cur_eta, n1, Option.bind_some, m1, idx_lt hq, p1]
          rw [if_neg (by simpa using z0), if_neg (by simpa using z1)]
          simp only [Int.toNat_natCast, Int.toNat_zero, List.drop_zero, List.take_length, hwz, hwi]
          rw [if_pos (by omega), if_pos (by omega), if_pos (by simp; omega)]
          simp only [Option.bind_some, Sum.elim_inl, cur_eta, hwk]
          exact g1
    · refine ⟨c, t, el_spec_l1Cur_spoilt_26 _ _ _ _ ?_, by omega, hc.1, hc.2.1, by have := hc.2.2; omega⟩
      simp only [ql_spec_l1Cur_spoilt_26]
      rw [if_pos (by simp <;> omega), if_neg (by simpa using ht0), cur_eta]
theorem p_spoilt {code : List Int} (hb : isBytes code) {j : Int} (hj : j ≤ 100000) {c : TCur} (hc : Cu code j c) (t w : List UInt8) (hw0 : 0 < w.length) (hw1 : w.length ≤ 1000) (ht : t.length ≤ 100000) : ∃ (t' : List UInt8) (c' : TCur), c_spec_l1Cur_spoilt M c t w = some ((t', ()), (c', ())) ∧ t'.length ≤ t.length + 2 ∧ Cu code (j + 20) c' := by
  obtain ⟨x, c1, n1, n2, n3, n4⟩ := p_pick hb (by omega) hc 2 (by omega)
  obtain ⟨m, rfl⟩ : ∃ m : Nat, x = (m : Int) := ⟨x.toNat, by omega⟩
  have hw : IntKind.i64.wrap (1 + (m : Int)) = ((m + 1 : Nat) : Int) := by rw [w64 (by omega) (by omega)]; omega
  obtain ⟨c', t', g1, g2, g3⟩ := p_spoilt_loop hb w hw0 hw1 (m + 1) (j + 2) c1 t (by omega) (by omega) (by omega) n4
  refine ⟨t', c', e_spec_l1Cur_spoilt _ _ _ ?_, by omega, g3.1, g3.2.1, by have := g3.2.2; omega⟩
  simp only [q_spec_l1Cur_spoilt, cur_eta, n1, Option.bind_some, hw, g1, Sum.elim_inl]

end Go.Proofs.YtkdceefdipljaaaFft.Ev

/- Plain laws: that something is answered, and what holds of it. No condition. -/
namespace Go.Proofs.YtkdceefdipljaaaFft.Ev
open Go
set_option autoImplicit false
set_option linter.unusedVariables false
set_option linter.unusedSimpArgs false

/-- Something is answered, and this holds of it. -/
def Okk {α : Type} (P : α → Prop) (o : Option α) : Prop := ∃ x, o = some x ∧ P x
theorem Okk.pure {α : Type} {P : α → Prop} {x : α} (h : P x) : Okk P (some x) := ⟨x, rfl, h⟩
theorem Okk.bind {α β : Type} {P : α → Prop} {Q : β → Prop} {o : Option α} {f : α → Option β} (h : Okk P o) (k : ∀ x, P x → Okk Q (f x)) : Okk Q (o.bind f) := by
  obtain ⟨x, rfl, hx⟩ := h
  exact k x hx
theorem Okk.ite {α : Type} {P : α → Prop} {c : Prop} [Decidable c] {a b : Option α} (h : c → Okk P a) (k : ¬ c → Okk P b) : Okk P (if c then a else b) := by
  by_cases hc : c
  · rw [if_pos hc]; exact h hc
  · rw [if_neg hc]; exact k hc
theorem Okk.iteT {α : Type} {P : α → Prop} {c : Prop} [Decidable c] {a b : Option α} (hc : c) (h : Okk P a) : Okk P (if c then a else b) := by rw [if_pos hc]; exact h
theorem Okk.iteF {α : Type} {P : α → Prop} {c : Prop} [Decidable c] {a b : Option α} (hc : ¬ c) (h : Okk P b) : Okk P (if c then a else b) := by rw [if_neg hc]; exact h
theorem Okk.mono {α : Type} {P Q : α → Prop} {o : Option α} (h : Okk P o) (k : ∀ x, P x → Q x) : Okk Q o := by
  obtain ⟨x, hx, p⟩ := h
  exact ⟨x, hx, k x p⟩
theorem Okk.lift {α : Type} {P : α → Prop} {o c : Option α} (h : Okk P o) (k : ∀ {r}, o = some r → c = some r) : Okk P c := by
  obtain ⟨x, hx, p⟩ := h
  exact ⟨x, k hx, p⟩
theorem Okk.idx {α : Type} {l : List α} {i : Int} (h : 0 ≤ i) (k : i < l.length) : Okk (fun x => x ∈ l) (idx l i) := by
  obtain ⟨m, rfl⟩ : ∃ m : Nat, i = (m : Int) := ⟨i.toNat, by omega⟩
  have hm : m < l.length := by omega
  exact ⟨l[m], idx_lt hm, List.getElem_mem hm⟩
theorem Okk.get {α : Type} {l : List α} {i : Nat} (k : i < l.length) : Okk (fun x => x ∈ l) (l[i]?) := ⟨l[i], by simp [k], List.getElem_mem k⟩

theorem Cu.mono {code : List Int} {i j : Int} {c : TCur} (h : Cu code i c) (k : i ≤ j) : Cu code j c := ⟨h.1, h.2.1, by have := h.2.2; omega⟩
section
variable {code : List Int} (hb : isBytes code) {j : Int} {c : TCur} (hc : Cu code j c)
include hb hc
theorem d_next (hj : j ≤ 1000000000) : Okk (fun r => 0 ≤ r.1.1 ∧ r.1.1 ≤ 255 ∧ Cu code (j + 1) r.2.1) (c_spec_l1Cur_next M c) := by
  obtain ⟨x, c', h, h1, h2, h3⟩ := p_next hb hj hc
  exact ⟨_, h, h1, h2, h3⟩
theorem d_pick (n : Int) (hj : j ≤ 100000000) (hn : n ≤ 1000000000) : Okk (fun r => 0 ≤ r.1.1 ∧ (r.1.1 < n ∨ r.1.1 = 0) ∧ Cu code (j + 2) r.2.1) (c_spec_l1Cur_pick M c n) := by
  obtain ⟨x, c', h, h1, h2, h3⟩ := p_pick hb hj hc n hn
  exact ⟨_, h, h1, h2, h3⟩
theorem d_one (n : Int) (hj : j ≤ 100000000) (hn : n ≤ 1000000000) : Okk (fun r => Cu code (j + 2) r.2.1) (c_spec_l1Cur_one M c n) := by
  obtain ⟨x, c', h, h1⟩ := p_one hb hj hc n hn
  exact ⟨_, h, h1⟩
theorem d_spoilt (t w : List UInt8) (hj : j ≤ 100000) (hw0 : 0 < w.length) (hw1 : w.length ≤ 1000) (ht : t.length ≤ 100000) : Okk (fun r => r.1.1.length ≤ t.length + 2 ∧ Cu code (j + 20) r.2.1) (c_spec_l1Cur_spoilt M c t w) := by
  obtain ⟨x, c', h, h1, h2⟩ := p_spoilt hb hj hc t w hw0 hw1 ht
  exact ⟨_, h, h1, h2⟩
end

end Go.Proofs.YtkdceefdipljaaaFft.Ev
