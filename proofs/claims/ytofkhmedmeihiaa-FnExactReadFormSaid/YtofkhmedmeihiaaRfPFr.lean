/- Plain laws: reading a formula: both programs read the same, and fail at the same place. No condition but sizes. -/
import Derived.Test.YtofkhmedmeihiaaRfPRb
import Derived.Test.YtofkhmedmeihiaaRfPFe
namespace Go.Proofs.YtofkhmedmeihiaaRf.Ev
open Go
set_option autoImplicit false
set_option linter.unusedVariables false
set_option linter.unusedSimpArgs false

/-- A formula, node by node. -/
def rdF (a : List Int) (F : Nat) : Nat → List UInt8 → Rd (List TForm)
  | 0, _ => .bad 0
  | _ + 1, [] => .bad 0
  | k + 1, b :: r =>
    if b.toNat = 126 then match rdF a F k r with
      | .bad c => .bad (1 + c)
      | .ok f c => .ok (f ++ [(2, 0, [], [], ())]) (1 + c)
    else if b.toNat = 33 ∨ b.toNat = 63 then match r with
      | [] => .bad 1
      | v :: r2 => if 65 ≤ v.toNat ∧ v.toNat ≤ 70 then match rdF a F k r2 with
          | .bad c => .bad (2 + c)
          | .ok f c => .ok (f ++ [((if b.toNat = 63 then 6 else 5), (v.toNat : Int) - 65, [], [], ())]) (2 + c)
        else .bad 1
    else if b.toNat = 40 then match rdF a F k r with
      | .bad c => .bad (1 + c)
      | .ok f c => match r.drop c with
        | [] => .bad (1 + c)
        | o :: r2 => if o.toNat = 38 ∨ o.toNat = 124 then match rdF a F k r2 with
            | .bad c2 => .bad (1 + c + 1 + c2)
            | .ok g c2 => match r2.drop c2 with
              | [] => .bad (1 + c + 1 + c2)
              | z :: _ => if z.toNat = 41 then .ok ((f ++ g) ++ [((if o.toNat = 124 then 4 else 3), 0, [], [], ())]) (1 + c + 1 + c2 + 1) else .bad (1 + c + 1 + c2)
          else .bad (1 + c)
    else match rdT a F (b :: r) with
      | .bad c => .bad c
      | .ok l c => match (b :: r).drop c with
        | [] => .bad c
        | e :: r2 => if e.toNat = 61 then match rdT a F r2 with
            | .bad c2 => .bad (c + 1 + c2)
            | .ok t c2 => .ok [(1, 0, l, t, ())] (c + 1 + c2)
          else .bad c

theorem rdF_le {a : List Int} {F : Nat} : ∀ (k : Nat) (r : List UInt8), (rdF a F k r).within r.length ∧ ∀ f c, rdF a F k r = .ok f c → f.length ≤ c ∧ ∀ x ∈ f, x.2.2.1.length ≤ c ∧ x.2.2.2.1.length ≤ c
  | 0, _ => ⟨Nat.zero_le _, fun f c h => by simp [rdF] at h⟩
  | k + 1, [] => ⟨Nat.zero_le _, fun f c h => by simp [rdF] at h⟩
  | k + 1, b :: r => by
    simp only [rdF]
    have bad : ∀ n, n ≤ r.length + 1 → (Rd.bad n : Rd (List TForm)).within (b :: r).length ∧ ∀ (f : List TForm) (c : Nat), (Rd.bad n : Rd (List TForm)) = .ok f c → f.length ≤ c ∧ ∀ x ∈ f, x.2.2.1.length ≤ c ∧ x.2.2.2.1.length ≤ c :=
      fun n hn => ⟨by simp only [Rd.within, List.length_cons]; exact hn, fun f c h => by simp at h⟩
    have good : ∀ (f : List TForm) (n : Nat), n ≤ r.length + 1 → (f.length ≤ n ∧ ∀ x ∈ f, x.2.2.1.length ≤ n ∧ x.2.2.2.1.length ≤ n) → (Rd.ok f n : Rd (List TForm)).within (b :: r).length ∧ ∀ (g : List TForm) (c : Nat), (Rd.ok f n : Rd (List TForm)) = .ok g c → g.length ≤ c ∧ ∀ x ∈ g, x.2.2.1.length ≤ c ∧ x.2.2.2.1.length ≤ c :=
      fun f n hn hf => ⟨by simp only [Rd.within, List.length_cons]; exact hn, fun g c h => by
        simp only [Rd.ok.injEq] at h
        rw [← h.1, ← h.2]; exact hf⟩
    have snoc : ∀ (f : List TForm) (o v : Int) (n m : Nat), (f.length ≤ n ∧ ∀ x ∈ f, x.2.2.1.length ≤ n ∧ x.2.2.2.1.length ≤ n) → n < m → ((f ++ [(o, v, [], [], ())]).length ≤ m ∧ ∀ x ∈ f ++ [(o, v, [], [], ())], x.2.2.1.length ≤ m ∧ x.2.2.2.1.length ≤ m) := by
      intro f o v n m hf hm
      refine ⟨by simp; omega, fun x hx => ?_⟩
      simp only [List.mem_append, List.mem_singleton] at hx
      rcases hx with hx | rfl
      · have := hf.2 x hx; omega
      · simp
    split
    · have h1 := rdF_le (a := a) (F := F) k r
      cases hr : rdF a F k r with
      | bad c => rw [hr] at h1; have := h1.1; simp only [Rd.within] at this; exact bad _ (by omega)
      | ok f c =>
        rw [hr] at h1
        have h2 := h1.1
        simp only [Rd.within] at h2
        exact good _ _ (by omega) (snoc f 2 0 c (1 + c) (h1.2 f c rfl) (by omega))
    · split
      · split
        · exact bad _ (by simp)
        · rename_i v r2
          split
          · have h1 := rdF_le (a := a) (F := F) k r2
            cases hr : rdF a F k r2 with
            | bad c => rw [hr] at h1; have := h1.1; simp only [Rd.within] at this; exact bad _ (by simp; omega)
            | ok f c =>
              rw [hr] at h1
              have h2 := h1.1
              simp only [Rd.within] at h2
              exact good _ _ (by simp; omega) (snoc f _ _ c (2 + c) (h1.2 f c rfl) (by omega))
          · exact bad _ (by simp)
      · split
        · have h1 := rdF_le (a := a) (F := F) k r
          cases hr : rdF a F k r with
          | bad c => rw [hr] at h1; have := h1.1; simp only [Rd.within] at this; exact bad _ (by omega)
          | ok f c =>
            rw [hr] at h1
            have h2 := h1.1
            simp only [Rd.within] at h2
            simp only
            cases hd : r.drop c with
            | nil => exact bad _ (by omega)
            | cons o r2 =>
              have hl := congrArg List.length hd
              simp only [List.length_drop, List.length_cons] at hl
              simp only
              split
              · have h3 := rdF_le (a := a) (F := F) k r2
                cases hr2 : rdF a F k r2 with
                | bad c2 => rw [hr2] at h3; have := h3.1; simp only [Rd.within] at this; exact bad _ (by omega)
                | ok g c2 =>
                  rw [hr2] at h3
                  have h4 := h3.1
                  simp only [Rd.within] at h4
                  simp only
                  cases hd2 : r2.drop c2 with
                  | nil => exact bad _ (by omega)
                  | cons z r3 =>
                    have hl2 := congrArg List.length hd2
                    simp only [List.length_drop, List.length_cons] at hl2
                    simp only
                    have k1 := h1.2 f c rfl
                    have k2 := h3.2 g c2 rfl
                    split
                    · refine good _ _ (by omega) (snoc (f ++ g) _ _ (1 + c + 1 + c2) (1 + c + 1 + c2 + 1) ⟨by simp; omega, fun x hx => ?_⟩ (by omega))
                      simp only [List.mem_append] at hx
                      rcases hx with hx | hx
                      · have := k1.2 x hx; omega
                      · have := k2.2 x hx; omega
                    · exact bad _ (by omega)
              · exact bad _ (by omega)
        · have h1 := rdT_le (a := a) F (b :: r)
          cases hr : rdT a F (b :: r) with
          | bad c => rw [hr] at h1; have := h1.1; simp only [Rd.within, List.length_cons] at this; exact bad _ (by omega)
          | ok l c =>
            rw [hr] at h1
            have h2 := h1.1
            simp only [Rd.within, List.length_cons] at h2
            simp only
            cases hd : (b :: r).drop c with
            | nil => exact bad _ (by omega)
            | cons e r2 =>
              have hl := congrArg List.length hd
              simp only [List.length_drop, List.length_cons] at hl
              simp only
              split
              · have h3 := rdT_le (a := a) F r2
                cases hr2 : rdT a F r2 with
                | bad c2 => rw [hr2] at h3; have := h3.1; simp only [Rd.within] at this; exact bad _ (by omega)
                | ok t c2 =>
                  rw [hr2] at h3
                  have h4 := h3.1
                  simp only [Rd.within] at h4
                  have k1 := h1.2 l c rfl
                  have k2 := h3.2 t c2 rfl
                  refine good _ _ (by omega) ⟨by simp only [List.length_cons, List.length_nil]; omega, fun x hx => ?_⟩
                  simp only [List.mem_singleton] at hx
                  subst hx
                  exact ⟨by simp only; omega, by simp only; omega⟩
              · exact bad _ (by omega)

/-! ### The reference's reader -/
def spF (at0 : Nat) (y : Rd (List TForm)) (r : List TForm × Int × Bool × Unit) : Prop := match y with
  | .bad c => r.2.1 = ((at0 + c : Nat) : Int) ∧ r.2.2.1 = false ∧ r.1.length ≤ c
  | .ok f c => r = (f, ((at0 + c : Nat) : Int), true, ())

theorem p_spF {a : List Int} (hg : gS a = true) (X : List UInt8) (hX : X.length ≤ 1000) (F : Nat) (hF : X.length < F) : ∀ (k at0 : Nat), at0 ≤ X.length → X.length - at0 < k → ∃ r, c_spec_l14Read M (a, ()) X at0 = some (r, ()) ∧ spF at0 (rdF a F k (X.drop at0)) r := by
  intro k
  induction k with
  | zero => intro at0 _ h; omega
  | succ k ih =>
    intro at0 ha hk
    by_cases hend : at0 = X.length
    · refine ⟨([], (at0 : Int), false, ()), e_spec_l14Read _ _ _ ?_, ?_⟩
      · simp only [q_spec_l14Read]
        rw [if_pos (by simp [hend])]
      · rw [List.drop_eq_nil_of_le (by omega)]
        simp [rdF, spF]
    · have hlt : at0 < X.length := by omega
      have h0 : ((at0 : Int) == (X.length : Int)) = false := by simp; omega
      have hin : IntKind.i64.wrap ((at0 : Int) + 1) = ((at0 + 1 : Nat) : Int) := inc_nat (by omega)
      rw [List.drop_eq_getElem_cons hlt]
      simp only [rdF]
      by_cases h126 : (X[at0]).toNat = 126
      · rw [if_pos h126]
        have hb : (((X[at0]).toNat : Nat) : Int) = 126 := by omega
        obtain ⟨⟨f1, p1, b1, ⟨⟩⟩, c1, m1⟩ := ih (at0 + 1) (by omega) (by omega)
        have hle := rdF_le (a := a) (F := F) k (X.drop (at0 + 1))
        have pre : f1.length ≤ 1000 → c_spec_l14Read M (a, ()) X at0 = some ((f1 ++ [(2, 0, [], [], ())], p1, b1, ()), ()) := by
          intro hl
          apply e_spec_l14Read
          simp only [q_spec_l14Read, h0, idx_lt hlt, hb, Option.bind_some, beq_self_eq_true, Bool.false_eq_true, ↓reduceIte]
          rw [hin, c1]
          simp only [Option.bind_some]
          rw [if_pos (by simp only [List.length_cons, List.length_nil]; omega)]
        cases hr : rdF a F k (X.drop (at0 + 1)) with
        | bad c =>
          rw [hr] at m1 hle
          have h2 := hle.1
          simp only [Rd.within, List.length_drop] at h2
          obtain ⟨j1, j2, j3⟩ := m1
          simp only at j1 j2 j3
          refine ⟨_, pre (by omega), ?_⟩
          simp only [spF]
          exact ⟨by rw [j1, show at0 + (1 + c) = at0 + 1 + c by omega], j2, by simp; omega⟩
        | ok f c =>
          rw [hr] at m1 hle
          have h2 := hle.1
          simp only [Rd.within, List.length_drop] at h2
          have h3 := (hle.2 f c rfl).1
          simp only [spF, Prod.mk.injEq, and_true] at m1
          obtain ⟨rfl, rfl, rfl⟩ := m1
          refine ⟨_, pre (by omega), ?_⟩
          simp only [spF]
          rw [show at0 + (1 + c) = at0 + 1 + c by omega]
      · rw [if_neg h126]
        have n126 : ((((X[at0]).toNat : Nat) : Int) == 126) = false := by simp; omega
        by_cases hq : (X[at0]).toNat = 33 ∨ (X[at0]).toNat = 63
        · rw [if_pos hq]
          have core : ∀ (op : Int), op = (if (X[at0]).toNat = 63 then 6 else 5) → ∀ R, (if (((at0 + 1 : Nat) : Int) == (List.length X : Int)) = true then (some (([], ((at0 + 1 : Nat) : Int), false, ()), ())) else ((idx X ((at0 + 1 : Nat) : Int)).bind fun b6 => ((c_spec_l1In M (IntKind.i64.wrap ((UInt8.toNat b6 : Nat) : Int)) (65 : Int) (70 : Int)).bind fun r7 => (if (!r7.1.1) = true then (some (([], ((at0 + 1 : Nat) : Int), false, ()), ())) else ((c_spec_l14Read M (a, ()) X (IntKind.i64.wrap ((at0 : Int) + (2 : Int)))).bind fun r8 => ((idx X ((at0 + 1 : Nat) : Int)).bind fun b9 => (if (List.length r8.1.1 + List.length ([(op, (IntKind.i64.wrap (IntKind.u8.wrap (((UInt8.toNat b9 : Nat) : Int) - (65 : Int)))), [], [], ())] : List (Int × Int × (List Int) × (List Int) × Unit))) * 64 ≤ 140737488355328 then (some (((r8.1.1 ++ ([(op, (IntKind.i64.wrap (IntKind.u8.wrap (((UInt8.toNat b9 : Nat) : Int) - (65 : Int)))), [], [], ())] : List (Int × Int × (List Int) × (List Int) × Unit))), r8.1.2.1, r8.1.2.2.1, ()), ())) else none))))))) = some R → c_spec_l14Read M (a, ()) X at0 = some R := by
            intro op hop R hR
            apply e_spec_l14Read
            rcases hq with hq | hq
            · have hb : (((X[at0]).toNat : Nat) : Int) = 33 := by omega
              rw [if_neg (by omega)] at hop
              subst hop
              simp only [q_spec_l14Read, h0, idx_lt hlt, hb, Option.bind_some, Sum.elim_inl, Int.reduceBEq, beq_self_eq_true, Bool.false_eq_true, ↓reduceIte, hin]
              exact hR
            · have hb : (((X[at0]).toNat : Nat) : Int) = 63 := by omega
              rw [if_pos hq] at hop
              subst hop
              simp only [q_spec_l14Read, h0, idx_lt hlt, hb, Option.bind_some, Sum.elim_inl, Int.reduceBEq, beq_self_eq_true, Bool.false_eq_true, ↓reduceIte, hin]
              exact hR
          by_cases he1 : at0 + 1 = X.length
          · refine ⟨_, core _ rfl _ (if_pos (by simp; omega)), ?_⟩
            rw [List.drop_eq_nil_of_le (by omega)]
            simp [spF]
          · have hlt1 : at0 + 1 < X.length := by omega
            rw [List.drop_eq_getElem_cons hlt1]
            have hbl := (X[at0 + 1]).toNat_lt
            by_cases hv : 65 ≤ (X[at0 + 1]).toNat ∧ (X[at0 + 1]).toNat ≤ 70
            · obtain ⟨⟨f1, p1, b1, ⟨⟩⟩, c1, m1⟩ := ih (at0 + 1 + 1) (by omega) (by omega)
              have hle := rdF_le (a := a) (F := F) k (X.drop (at0 + 1 + 1))
              have pre : f1.length ≤ 1000 → c_spec_l14Read M (a, ()) X at0 = some ((f1 ++ [((if (X[at0]).toNat = 63 then 6 else 5), (((X[at0 + 1]).toNat : Nat) : Int) - 65, [], [], ())], p1, b1, ()), ()) := by
                intro hl
                apply core _ rfl
                rw [if_neg (by simp; omega), idx_lt hlt1]
                simp only [Option.bind_some, p_l1In]
                rw [w64 (x := (((X[at0 + 1]).toNat : Nat) : Int)) (by omega) (by omega), if_neg (by simp; omega), w64 (x := (at0 : Int) + 2) (by omega) (by omega), show (at0 : Int) + 2 = ((at0 + 1 + 1 : Nat) : Int) by omega, c1]
                simp only [Option.bind_some]
                rw [w8 (by omega) (by omega), w64 (by omega) (by omega), if_pos (by simp only [List.length_cons, List.length_nil]; omega)]
              simp only
              rw [if_pos hv]
              cases hr : rdF a F k (X.drop (at0 + 1 + 1)) with
              | bad c =>
                rw [hr] at m1 hle
                have h2 := hle.1
                simp only [Rd.within, List.length_drop] at h2
                obtain ⟨j1, j2, j3⟩ := m1
                simp only at j1 j2 j3
                refine ⟨_, pre (by omega), ?_⟩
                simp only [spF]
                exact ⟨by rw [j1, show at0 + (2 + c) = at0 + 1 + 1 + c by omega], j2, by simp; omega⟩
              | ok f c =>
                rw [hr] at m1 hle
                have h2 := hle.1
                simp only [Rd.within, List.length_drop] at h2
                have h3 := (hle.2 f c rfl).1
                simp only [spF, Prod.mk.injEq, and_true] at m1
                obtain ⟨rfl, rfl, rfl⟩ := m1
                refine ⟨_, pre (by omega), ?_⟩
                simp only [spF]
                rw [show at0 + (2 + c) = at0 + 1 + 1 + c by omega]
            · simp only
              rw [if_neg hv]
              refine ⟨([], ((at0 + 1 : Nat) : Int), false, ()), core _ rfl _ ?_, by simp [spF]⟩
              rw [if_neg (by simp; omega), idx_lt hlt1]
              simp only [Option.bind_some, p_l1In]
              rw [w64 (x := (((X[at0 + 1]).toNat : Nat) : Int)) (by omega) (by omega), if_pos (by simp; omega)]
        · rw [if_neg hq]
          have n33 : ((((X[at0]).toNat : Nat) : Int) == 33) = false := by simp; omega
          have n63 : ((((X[at0]).toNat : Nat) : Int) == 63) = false := by simp; omega
          by_cases h40 : (X[at0]).toNat = 40
          · rw [if_pos h40]
            have hb : (((X[at0]).toNat : Nat) : Int) = 40 := by omega
            obtain ⟨⟨f1, p1, b1, ⟨⟩⟩, c1, m1⟩ := ih (at0 + 1) (by omega) (by omega)
            have hle := rdF_le (a := a) (F := F) k (X.drop (at0 + 1))
            cases hr : rdF a F k (X.drop (at0 + 1)) with
            | bad c =>
              rw [hr] at m1
              obtain ⟨j1, j2, j3⟩ := m1
              simp only at j1 j2 j3
              subst j1
              subst j2
              refine ⟨([], ((at0 + 1 + c : Nat) : Int), false, ()), e_spec_l14Read _ _ _ ?_, ?_⟩
              · simp only [q_spec_l14Read, h0, idx_lt hlt, hb, Option.bind_some, Sum.elim_inl, Int.reduceBEq, beq_self_eq_true, Bool.false_eq_true, ↓reduceIte, hin, c1, Bool.not_false]
              · simp only [spF]
                exact ⟨by rw [show at0 + (1 + c) = at0 + 1 + c by omega], trivial, by simp⟩
            | ok f c =>
              rw [hr] at m1 hle
              have h2 := hle.1
              simp only [Rd.within, List.length_drop] at h2
              have h3 := (hle.2 f c rfl).1
              simp only [spF, Prod.mk.injEq, and_true] at m1
              obtain ⟨rfl, rfl, rfl⟩ := m1
              simp only [List.drop_drop]
              by_cases he1 : at0 + 1 + c = X.length
              · refine ⟨([], ((at0 + 1 + c : Nat) : Int), false, ()), e_spec_l14Read _ _ _ ?_, ?_⟩
                · simp only [q_spec_l14Read, h0, idx_lt hlt, hb, Option.bind_some, Sum.elim_inl, Int.reduceBEq, beq_self_eq_true, Bool.false_eq_true, ↓reduceIte, hin, c1, Bool.not_true]
                  rw [if_pos (by simp; omega)]
                · rw [List.drop_eq_nil_of_le (by omega)]
                  simp only [spF]
                  exact ⟨by rw [show at0 + (1 + c) = at0 + 1 + c by omega], trivial, by simp⟩
              · have hlt1 : at0 + 1 + c < X.length := by omega
                have hmid : (((at0 + 1 + c : Nat) : Int) == (X.length : Int)) = false := by simp; omega
                rw [List.drop_eq_getElem_cons hlt1]
                simp only
                have core : ((X[at0 + 1 + c]).toNat = 38 ∨ (X[at0 + 1 + c]).toNat = 124) → ∀ (op : Int), op = (if (X[at0 + 1 + c]).toNat = 124 then 4 else 3) → ∀ R, ((c_spec_l14Read M (a, ()) X ((at0 + 1 + c + 1 : Nat) : Int)).bind fun r15 => (if (!r15.1.2.2.1) = true then (some (([], r15.1.2.1, false, ()), ())) else (if (r15.1.2.1 == (List.length X : Int)) = true then (some (([], r15.1.2.1, false, ()), ())) else ((idx X r15.1.2.1).bind fun b16 => (if (((UInt8.toNat b16 : Nat) : Int) != (41 : Int)) = true then (some (([], r15.1.2.1, false, ()), ())) else (if (List.length f1 + List.length r15.1.1) * 64 ≤ 140737488355328 then (if (List.length (f1 ++ r15.1.1) + List.length ([(op, (0 : Int), [], [], ())] : List (Int × Int × (List Int) × (List Int) × Unit))) * 64 ≤ 140737488355328 then (some ((((f1 ++ r15.1.1) ++ ([(op, (0 : Int), [], [], ())] : List (Int × Int × (List Int) × (List Int) × Unit))), (IntKind.i64.wrap (r15.1.2.1 + (1 : Int))), true, ()), ())) else none) else none)))))) = some R → c_spec_l14Read M (a, ()) X at0 = some R := by
                  intro hq2 op hop R hR
                  have hin2 : IntKind.i64.wrap (((at0 + 1 + c : Nat) : Int) + 1) = ((at0 + 1 + c + 1 : Nat) : Int) := inc_nat (by omega)
                  apply e_spec_l14Read
                  rcases hq2 with hq2 | hq2
                  · have hb2 : (((X[at0 + 1 + c]).toNat : Nat) : Int) = 38 := by omega
                    rw [if_neg (by omega)] at hop
                    subst hop
                    simp only [q_spec_l14Read, h0, idx_lt hlt, idx_lt hlt1, hb, hb2, hmid, Option.bind_some, Sum.elim_inl, Int.reduceBEq, Int.reduceBNe, beq_self_eq_true, bne_self_eq_false, Bool.false_eq_true, ↓reduceIte, hin, hin2, c1, Bool.not_true]
                    exact hR
                  · have hb2 : (((X[at0 + 1 + c]).toNat : Nat) : Int) = 124 := by omega
                    rw [if_pos hq2] at hop
                    subst hop
                    simp only [q_spec_l14Read, h0, idx_lt hlt, idx_lt hlt1, hb, hb2, hmid, Option.bind_some, Sum.elim_inl, Int.reduceBEq, Int.reduceBNe, beq_self_eq_true, bne_self_eq_false, Bool.false_eq_true, ↓reduceIte, hin, hin2, c1, Bool.not_true]
                    exact hR
                by_cases hq2 : (X[at0 + 1 + c]).toNat = 38 ∨ (X[at0 + 1 + c]).toNat = 124
                · rw [if_pos hq2]
                  obtain ⟨⟨g1, p2, b2, ⟨⟩⟩, c2, m2⟩ := ih (at0 + 1 + c + 1) (by omega) (by omega)
                  have hle2 := rdF_le (a := a) (F := F) k (X.drop (at0 + 1 + c + 1))
                  cases hr2 : rdF a F k (X.drop (at0 + 1 + c + 1)) with
                  | bad c' =>
                    rw [hr2] at m2
                    obtain ⟨j1, j2, j3⟩ := m2
                    simp only at j1 j2 j3
                    subst j1
                    subst j2
                    refine ⟨_, core hq2 _ rfl _ (by rw [c2]; rfl), ?_⟩
                    simp only [spF]
                    exact ⟨by rw [show at0 + (1 + c + 1 + c') = at0 + 1 + c + 1 + c' by omega], trivial, by simp⟩
                  | ok g c' =>
                    rw [hr2] at m2 hle2
                    have h4 := hle2.1
                    simp only [Rd.within, List.length_drop] at h4
                    have h5 := (hle2.2 g c' rfl).1
                    simp only [spF, Prod.mk.injEq, and_true] at m2
                    obtain ⟨rfl, rfl, rfl⟩ := m2
                    simp only [List.drop_drop]
                    by_cases he2 : at0 + 1 + c + 1 + c' = X.length
                    · refine ⟨([], ((at0 + 1 + c + 1 + c' : Nat) : Int), false, ()), core hq2 _ rfl _ ?_, ?_⟩
                      · rw [c2]
                        simp only [Option.bind_some]
                        rw [if_neg (by simp), if_pos (by simp; omega)]
                      · rw [List.drop_eq_nil_of_le (by omega)]
                        simp only [spF]
                        exact ⟨by rw [show at0 + (1 + c + 1 + c') = at0 + 1 + c + 1 + c' by omega], trivial, by simp⟩
                    · have hlt2 : at0 + 1 + c + 1 + c' < X.length := by omega
                      rw [List.drop_eq_getElem_cons hlt2]
                      simp only
                      by_cases h41 : (X[at0 + 1 + c + 1 + c']).toNat = 41
                      · rw [if_pos h41]
                        refine ⟨_, core hq2 _ rfl ((((f1 ++ g1) ++ [((if (X[at0 + 1 + c]).toNat = 124 then 4 else 3), 0, [], [], ())]), ((at0 + 1 + c + 1 + c' + 1 : Nat) : Int), true, ()), ()) ?_, ?_⟩
                        · rw [c2]
                          simp only [Option.bind_some]
                          rw [if_neg (by simp), if_neg (by simp; omega), idx_lt hlt2]
                          simp only [Option.bind_some]
                          rw [if_neg (by simp [h41]), if_pos (by omega), if_pos (by simp only [List.length_append, List.length_cons, List.length_nil]; omega), inc_nat (by omega)]
                        · simp only [spF]
                          rw [show at0 + (1 + c + 1 + c' + 1) = at0 + 1 + c + 1 + c' + 1 by omega]
                      · rw [if_neg h41]
                        refine ⟨([], ((at0 + 1 + c + 1 + c' : Nat) : Int), false, ()), core hq2 _ rfl _ ?_, ?_⟩
                        · rw [c2]
                          simp only [Option.bind_some]
                          rw [if_neg (by simp), if_neg (by simp; omega), idx_lt hlt2]
                          simp only [Option.bind_some]
                          rw [if_pos (by simp; omega)]
                        · simp only [spF]
                          exact ⟨by rw [show at0 + (1 + c + 1 + c') = at0 + 1 + c + 1 + c' by omega], trivial, by simp⟩
                · rw [if_neg hq2]
                  have m38 : ((((X[at0 + 1 + c]).toNat : Nat) : Int) != 38) = true := by simp; omega
                  have m124 : ((((X[at0 + 1 + c]).toNat : Nat) : Int) != 124) = true := by simp; omega
                  refine ⟨([], ((at0 + 1 + c : Nat) : Int), false, ()), e_spec_l14Read _ _ _ ?_, ?_⟩
                  · simp only [q_spec_l14Read, h0, idx_lt hlt, idx_lt hlt1, hb, hmid, m38, m124, Option.bind_some, Sum.elim_inl, Int.reduceBEq, beq_self_eq_true, Bool.false_eq_true, ↓reduceIte, hin, c1, Bool.not_true]
                  · simp only [spF]
                    exact ⟨by rw [show at0 + (1 + c) = at0 + 1 + c by omega], trivial, by simp⟩
          · rw [if_neg h40]
            have n40 : ((((X[at0]).toNat : Nat) : Int) == 40) = false := by simp; omega
            have core : ∀ R, ((c_spec_l1ReadTerm M (a, ()) X at0).bind fun r21 => (if (!r21.1.2.2.1) = true then (some (([], r21.1.2.1, false, ()), ())) else (if (r21.1.2.1 == (List.length X : Int)) = true then (some (([], r21.1.2.1, false, ()), ())) else ((idx X r21.1.2.1).bind fun b22 => (if (((UInt8.toNat b22 : Nat) : Int) != (61 : Int)) = true then (some (([], r21.1.2.1, false, ()), ())) else ((c_spec_l1ReadTerm M (a, ()) X (IntKind.i64.wrap (r21.1.2.1 + (1 : Int)))).bind fun r23 => (some ((([((1 : Int), (0 : Int), r21.1.1, r23.1.1, ())] : List (Int × Int × (List Int) × (List Int) × Unit)), r23.1.2.1, r23.1.2.2.1, ()), ())))))))) = some R → c_spec_l14Read M (a, ()) X at0 = some R := by
              intro R hR
              apply e_spec_l14Read
              simp only [q_spec_l14Read, h0, idx_lt hlt, n126, n33, n63, n40, Option.bind_some, Sum.elim_inl, Bool.false_eq_true, ↓reduceIte]
              exact hR
            have ht := p_spT hg X hX F at0 ha (by omega)
            have hle := rdT_le (a := a) F (X.drop at0)
            rw [List.drop_eq_getElem_cons hlt] at ht hle
            cases hr : rdT a F (X[at0] :: X.drop (at0 + 1)) with
            | bad c =>
              rw [hr] at ht
              simp only [spT] at ht
              refine ⟨([], ((at0 + c : Nat) : Int), false, ()), core _ ?_, ?_⟩
              · rw [ht]; rfl
              · simp only [spF]
                exact ⟨trivial, trivial, by simp⟩
            | ok l c =>
              rw [hr] at ht hle
              simp only [spT] at ht
              have h2 := hle.1
              simp only [Rd.within, List.length_cons, List.length_drop] at h2
              have hdd : (X[at0] :: X.drop (at0 + 1)).drop c = X.drop (at0 + c) := by rw [← List.drop_eq_getElem_cons hlt, List.drop_drop]
              simp only [hdd]
              by_cases he1 : at0 + c = X.length
              · refine ⟨([], ((at0 + c : Nat) : Int), false, ()), core _ ?_, ?_⟩
                · rw [ht]
                  simp only [Option.bind_some]
                  rw [if_neg (by simp), if_pos (by simp; omega)]
                · rw [List.drop_eq_nil_of_le (by omega)]
                  simp only [spF]
                  exact ⟨trivial, trivial, by simp⟩
              · have hlt1 : at0 + c < X.length := by omega
                rw [List.drop_eq_getElem_cons hlt1]
                simp only
                by_cases h61 : (X[at0 + c]).toNat = 61
                · rw [if_pos h61]
                  have ht2 := p_spT hg X hX F (at0 + c + 1) (by omega) (by omega)
                  have pre : ∀ y, c_spec_l1ReadTerm M (a, ()) X ((at0 + c + 1 : Nat) : Int) = some (y, ()) → c_spec_l14Read M (a, ()) X at0 = some (([(1, 0, l, y.1, ())], y.2.1, y.2.2.1, ()), ()) := by
                    intro y hy
                    apply core
                    rw [ht]
                    simp only [Option.bind_some]
                    rw [if_neg (by simp), if_neg (by simp; omega), idx_lt hlt1]
                    simp only [Option.bind_some]
                    rw [if_neg (by simp [h61]), inc_nat (by omega), hy]
                    rfl
                  cases hr2 : rdT a F (X.drop (at0 + c + 1)) with
                  | bad c2 =>
                    rw [hr2] at ht2
                    refine ⟨_, pre _ ht2, ?_⟩
                    simp only [spF]
                    exact ⟨by rw [show at0 + (c + 1 + c2) = at0 + c + 1 + c2 by omega], trivial, by simp; omega⟩
                  | ok t c2 =>
                    rw [hr2] at ht2
                    refine ⟨_, pre _ ht2, ?_⟩
                    simp only [spF]
                    rw [show at0 + (c + 1 + c2) = at0 + c + 1 + c2 by omega]
                · rw [if_neg h61]
                  refine ⟨([], ((at0 + c : Nat) : Int), false, ()), core _ ?_, ?_⟩
                  · rw [ht]
                    simp only [Option.bind_some]
                    rw [if_neg (by simp), if_neg (by simp; omega), idx_lt hlt1]
                    simp only [Option.bind_some]
                    rw [if_pos (by simp; omega)]
                  · simp only [spF]
                    exact ⟨trivial, trivial, by simp⟩

end Go.Proofs.YtofkhmedmeihiaaRf.Ev
