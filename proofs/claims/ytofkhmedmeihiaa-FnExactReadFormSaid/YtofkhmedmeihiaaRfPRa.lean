/- Plain laws: reading a term: both programs read the same, and fail at the same place. No condition but sizes. -/
import Derived.Test.YtofkhmedmeihiaaRfPB
namespace Go.Proofs.YtofkhmedmeihiaaRf.Ev
open Go
set_option autoImplicit false
set_option linter.unusedVariables false
set_option linter.unusedSimpArgs false

/-- What a reader gives: the place of a fault, or what was read and how far. -/
inductive Rd (α : Type) where
  | bad (c : Nat)
  | ok (x : α) (c : Nat)

/-- Operands, each behind its sign. -/
def rdK (T : List UInt8 → Rd (List Int)) : Nat → Nat → List UInt8 → Rd (List Int)
  | _, 0, _ => .ok [] 0
  | _, _ + 1, [] => .bad 0
  | sg, m + 1, b :: r => if b.toNat = sg then
      match T r with
      | .bad c => .bad (1 + c)
      | .ok t c => match rdK T 44 m (r.drop c) with
        | .bad c' => .bad (1 + c + c')
        | .ok t' c' => .ok (t ++ t') (1 + c + c')
    else .bad 0
/-- A term. -/
def rdT (a : List Int) : Nat → List UInt8 → Rd (List Int)
  | 0, _ => .bad 0
  | _ + 1, [] => .bad 0
  | f + 1, b :: r =>
    if 65 ≤ b.toNat ∧ b.toNat ≤ 76 then .ok [-1 - ((b.toNat : Int) - 65)] 1
    else if 97 ≤ b.toNat ∧ b.toNat < 97 + a.length then
      match rdK (rdT a f) 40 (ar a ((b.toNat : Int) - 97)).toNat r with
      | .bad c => .bad (1 + c)
      | .ok t c => if ar a ((b.toNat : Int) - 97) ≤ 0 then .ok (((b.toNat : Int) - 97) :: t) (1 + c) else
        match r.drop c with
        | [] => .bad (1 + c)
        | b' :: _ => if b'.toNat = 41 then .ok (((b.toNat : Int) - 97) :: t) (1 + c + 1) else .bad (1 + c)
    else .bad 0

def Rd.within {α : Type} (n : Nat) : Rd α → Prop
  | .bad c => c ≤ n
  | .ok _ c => c ≤ n
theorem rdK_le {T : List UInt8 → Rd (List Int)} (hT : ∀ r, (T r).within r.length ∧ ∀ t c, T r = .ok t c → t.length ≤ c) : ∀ (m sg : Nat) (r : List UInt8), (rdK T sg m r).within r.length ∧ ∀ t c, rdK T sg m r = .ok t c → t.length ≤ c
  | 0, _, _ => ⟨Nat.zero_le _, fun t c h => by simp only [rdK, Rd.ok.injEq] at h; rw [← h.1]; simp⟩
  | m + 1, sg, [] => ⟨Nat.zero_le _, fun t c h => by simp [rdK] at h⟩
  | m + 1, sg, b :: r => by
    simp only [rdK]
    have h1 := hT r
    by_cases hb : b.toNat = sg
    · rw [if_pos hb]
      cases hr : T r with
      | bad c =>
        rw [hr] at h1
        have := h1.1
        simp only [Rd.within] at this
        exact ⟨by simp only [Rd.within, List.length_cons]; omega, fun t c h => by simp at h⟩
      | ok t c =>
        rw [hr] at h1
        have g1 := h1.1
        have g2 := h1.2 t c rfl
        have h2 := rdK_le hT m 44 (r.drop c)
        simp only [Rd.within] at g1
        simp only
        cases hk : rdK T 44 m (r.drop c) with
        | bad c' =>
          rw [hk] at h2
          have := h2.1
          simp only [Rd.within, List.length_drop] at this
          exact ⟨by simp only [Rd.within, List.length_cons]; omega, fun t c h => by simp at h⟩
        | ok t' c' =>
          rw [hk] at h2
          have k1 := h2.1
          have k2 := h2.2 t' c' rfl
          simp only [Rd.within, List.length_drop] at k1
          exact ⟨by simp only [Rd.within, List.length_cons]; omega, fun t c h => by simp only [Rd.ok.injEq] at h; rw [← h.1, ← h.2]; simp; omega⟩
    · rw [if_neg hb]
      exact ⟨Nat.zero_le _, fun t c h => by simp at h⟩
theorem rdT_le {a : List Int} : ∀ (f : Nat) (r : List UInt8), (rdT a f r).within r.length ∧ ∀ t c, rdT a f r = .ok t c → t.length ≤ c
  | 0, _ => ⟨Nat.zero_le _, fun t c h => by simp [rdT] at h⟩
  | f + 1, [] => ⟨Nat.zero_le _, fun t c h => by simp [rdT] at h⟩
  | f + 1, b :: r => by
    simp only [rdT]
    have hk := rdK_le (rdT_le (a := a) f) (ar a ((b.toNat : Int) - 97)).toNat 40 r
    split
    · exact ⟨by simp [Rd.within], fun t c h => by simp only [Rd.ok.injEq] at h; rw [← h.1, ← h.2]; simp⟩
    · split
      · split
        · rename_i c hc
          rw [hc] at hk
          have := hk.1
          simp only [Rd.within] at this
          exact ⟨by simp only [Rd.within, List.length_cons]; omega, fun t c h => by simp at h⟩
        · rename_i t c hc
          rw [hc] at hk
          have g1 := hk.1
          have g2 := hk.2 t c rfl
          simp only [Rd.within] at g1
          split
          · exact ⟨by simp only [Rd.within, List.length_cons]; omega, fun t c h => by simp only [Rd.ok.injEq] at h; rw [← h.1, ← h.2]; simp; omega⟩
          · split
            · exact ⟨by simp only [Rd.within, List.length_cons]; omega, fun t c h => by simp at h⟩
            · rename_i b' r' hd
              have hl := congrArg List.length hd
              simp only [List.length_drop, List.length_cons] at hl
              split
              · exact ⟨by simp only [Rd.within, List.length_cons]; omega, fun t c h => by simp only [Rd.ok.injEq] at h; rw [← h.1, ← h.2]; simp; omega⟩
              · exact ⟨by simp only [Rd.within, List.length_cons]; omega, fun t c h => by simp at h⟩
      · exact ⟨Nat.zero_le _, fun t c h => by simp at h⟩

theorem byte_ge {b : UInt8} : IntKind.i64.wrap ((b.toNat : Nat) : Int) = (b.toNat : Int) := by
  have := b.toNat_lt
  exact w64 (by omega) (by omega)

/-! ### The reference's reader -/
def spT (at0 : Nat) : Rd (List Int) → (List Int × Int × Bool × Unit) × Unit
  | .bad c => (([], ((at0 + c : Nat) : Int), false, ()), ())
  | .ok t c => ((t, ((at0 + c : Nat) : Int), true, ()), ())

theorem p_spT_loop {a : List Int} (hg : gS a = true) (X : List UInt8) (hX : X.length ≤ 1000) (f : Nat) (ih : ∀ at0 : Nat, at0 ≤ X.length → X.length - at0 < f → c_spec_l1ReadTerm M (a, ()) X at0 = some (spT at0 (rdT a f (X.drop at0))))
    (b : Nat) (hb : 97 ≤ b ∧ b < 97 + a.length) : ∀ (m i at0 : Nat) (out : List Int), ((i + m : Nat) : Int) = ar a ((b : Int) - 97) → at0 ≤ X.length → X.length - at0 ≤ f → out.length ≤ at0 →
      l_spec_l1ReadTerm_2042 M X at0 (a, ()) b out i = some (match rdK (rdT a f) (if i = 0 then 40 else 44) m (X.drop at0) with
        | .bad c => .inr (([], ((at0 + c : Nat) : Int), false, ()), ())
        | .ok t c => .inl (X, ((at0 + c : Nat) : Int), (a, ()), (b : Int), out ++ t, ())) := by
  have hsl : a.length ≤ 10 := by simp only [gS, Bool.and_eq_true, decide_eq_true_eq] at hg; exact hg.2.1
  have hbn : ¬ badN a ((b : Int) - 97) := by unfold badN; omega
  have hidx : idx a (IntKind.i64.wrap ((b : Int) - 97)) = some (ar a ((b : Int) - 97)) := by rw [w64 (by omega) (by omega)]; exact idx_ar hbn (by omega)
  have har := ar_ge hg ((b : Int) - 97)
  intro m
  induction m with
  | zero =>
    intro i at0 out hi ha hf ho
    apply el_spec_l1ReadTerm_2042
    simp only [ql_spec_l1ReadTerm_2042, hidx, Option.bind_some]
    rw [if_neg (by simp; omega)]
    simp [rdK]
  | succ m ihm =>
    intro i at0 out hi ha hf ho
    apply el_spec_l1ReadTerm_2042
    simp only [ql_spec_l1ReadTerm_2042, hidx, Option.bind_some]
    rw [if_pos (by simp; omega)]
    have key : ∀ sg : Int, sg = ((if i = 0 then 40 else 44 : Nat) : Int) → (if ((at0 : Int) == (List.length X : Int)) = true then (some (.inr (([], (at0 : Int), false, ()), ()))) else ((idx X at0).bind fun b3 => (if (((UInt8.toNat b3 : Nat) : Int) != sg) = true then (some (.inr (([], (at0 : Int), false, ()), ()))) else ((c_spec_l1ReadTerm M (a, ()) X (IntKind.i64.wrap ((at0 : Int) + (1 : Int)))).bind fun r4 => (if (!r4.1.2.2.1) = true then (some (.inr (([], r4.1.2.1, false, ()), ()))) else (if (List.length out + List.length r4.1.1) * 8 ≤ 140737488355328 then (l_spec_l1ReadTerm_2042 M X r4.1.2.1 (a, ()) b (out ++ r4.1.1) (IntKind.i64.wrap ((i : Int) + (1 : Int)))) else none)))))) = some (match rdK (rdT a f) (if i = 0 then 40 else 44) (m + 1) (X.drop at0) with
        | .bad c => .inr (([], ((at0 + c : Nat) : Int), false, ()), ())
        | .ok t c => .inl (X, ((at0 + c : Nat) : Int), (a, ()), (b : Int), out ++ t, ())) := by
      intro sg hsg
      by_cases hend : at0 = X.length
      · rw [if_pos (by simp [hend]), List.drop_eq_nil_of_le (by omega)]
        rfl
      · have hlt : at0 < X.length := by omega
        rw [if_neg (by simp; omega), idx_lt hlt, List.drop_eq_getElem_cons hlt]
        simp only [Option.bind_some, rdK]
        by_cases hs : (X[at0]).toNat = (if i = 0 then 40 else 44)
        · have hcall := ih (at0 + 1) (by omega) (by omega)
          rw [if_pos hs, if_neg (by rw [hsg, ← hs]; simp), inc_nat (by omega)]
          have hle := rdT_le (a := a) f (X.drop (at0 + 1))
          cases hr : rdT a f (X.drop (at0 + 1)) with
          | bad c =>
            rw [hr] at hcall
            have hcall' : c_spec_l1ReadTerm M (a, ()) X ((at0 + 1 : Nat) : Int) = some (([], ((at0 + 1 + c : Nat) : Int), false, ()), ()) := hcall
            rw [hcall']
            simp only [Option.bind_some]
            rw [if_pos (by simp), Nat.add_assoc]
          | ok t c =>
            rw [hr] at hle hcall
            have hcall' : c_spec_l1ReadTerm M (a, ()) X ((at0 + 1 : Nat) : Int) = some ((t, ((at0 + 1 + c : Nat) : Int), true, ()), ()) := hcall
            have g1 := hle.1
            have g2 := hle.2 t c rfl
            simp only [Rd.within, List.length_drop] at g1
            rw [hcall']
            simp only [Option.bind_some]
            rw [if_neg (by simp), if_pos (by omega), inc_nat (by omega), ihm (i + 1) (at0 + 1 + c) (out ++ t) (by omega) (by omega) (by omega) (by simp; omega)]
            rw [if_neg (by omega), List.drop_drop]
            cases rdK (rdT a f) 44 m (X.drop (at0 + 1 + c)) with
            | bad c' => simp only; rw [show at0 + 1 + c + c' = at0 + (1 + c + c') by omega]
            | ok t' c' => simp only; rw [show at0 + 1 + c + c' = at0 + (1 + c + c') by omega, List.append_assoc]
        · rw [if_neg hs, if_pos (by rw [hsg]; simp; omega)]
          rfl
    by_cases h0 : i = 0
    · subst h0
      rw [if_pos (by simp)]
      simp only [Option.bind_some, Sum.elim_inl]
      exact key 40 rfl
    · rw [if_neg (by simpa using h0)]
      simp only [Option.bind_some, Sum.elim_inl]
      exact key 44 (by rw [if_neg h0]; rfl)

theorem p_spT {a : List Int} (hg : gS a = true) (X : List UInt8) (hX : X.length ≤ 1000) : ∀ (f at0 : Nat), at0 ≤ X.length → X.length - at0 < f → c_spec_l1ReadTerm M (a, ()) X at0 = some (spT at0 (rdT a f (X.drop at0))) := by
  have hsl : a.length ≤ 10 := by simp only [gS, Bool.and_eq_true, decide_eq_true_eq] at hg; exact hg.2.1
  intro f
  induction f with
  | zero => intro at0 _ h; omega
  | succ f ih =>
    intro at0 ha hf
    apply e_spec_l1ReadTerm
    simp only [q_spec_l1ReadTerm]
    by_cases hend : at0 = X.length
    · rw [if_pos (by simp; omega), List.drop_eq_nil_of_le (by omega)]
      simp [rdT, spT, hend]
    · have hlt : at0 < X.length := by omega
      have hbl := (X[at0]).toNat_lt
      rw [if_neg (by simp; omega), idx_lt hlt, List.drop_eq_getElem_cons hlt]
      simp only [Option.bind_some, byte_ge, p_l1In]
      rw [w64 (x := (97 : Int) + (a.length : Int)) (by omega) (by omega), w64 (x := (97 : Int) + (a.length : Int) - 1) (by omega) (by omega), inc_nat (by omega)]
      simp only [rdT]
      by_cases h1 : 65 ≤ (X[at0]).toNat ∧ (X[at0]).toNat ≤ 76
      · rw [if_pos (by simp; omega), if_pos h1, w64 (x := ((X[at0]).toNat : Int) - 65) (by omega) (by omega), w64 (x := -1 - (((X[at0]).toNat : Int) - 65)) (by omega) (by omega)]
        rfl
      · rw [if_neg (by simp; omega), if_neg h1]
        by_cases h2 : 97 ≤ (X[at0]).toNat ∧ (X[at0]).toNat < 97 + a.length
        · have hbn : ¬ badN a (((X[at0]).toNat : Int) - 97) := by unfold badN; omega
          have hidx : idx a (IntKind.i64.wrap (((X[at0]).toNat : Int) - 97)) = some (ar a (((X[at0]).toNat : Int) - 97)) := by rw [w64 (by omega) (by omega)]; exact idx_ar hbn (by omega)
          have har := ar_ge hg (((X[at0]).toNat : Int) - 97)
          have hloop := p_spT_loop hg X hX f ih (X[at0]).toNat h2 (ar a (((X[at0]).toNat : Int) - 97)).toNat 0 (at0 + 1) [((X[at0]).toNat : Int) - 97] (by omega) (by omega) (by omega) (by simp)
          rw [show ((0 : Nat) : Int) = 0 from rfl, if_pos rfl] at hloop
          rw [if_neg (by simp; omega), if_pos h2, w64 (x := ((X[at0]).toNat : Int) - 97) (by omega) (by omega), hloop]
          have hkl := rdK_le (rdT_le (a := a) f) (ar a (((X[at0]).toNat : Int) - 97)).toNat 40 (X.drop (at0 + 1))
          cases hk : rdK (rdT a f) 40 (ar a (((X[at0]).toNat : Int) - 97)).toNat (X.drop (at0 + 1)) with
          | bad c =>
            simp only [Option.bind_some, Sum.elim_inr, spT]
            rw [show at0 + 1 + c = at0 + (1 + c) by omega]
          | ok t c =>
            rw [hk] at hkl
            have g1 := hkl.1
            simp only [Rd.within, List.length_drop] at g1
            simp only [Option.bind_some, Sum.elim_inl, hidx]
            by_cases h3 : ar a (((X[at0]).toNat : Int) - 97) ≤ 0
            · rw [if_neg (by simp; omega), if_pos h3]
              simp only [Option.bind_some, Sum.elim_inl, spT]
              rw [show at0 + 1 + c = at0 + (1 + c) by omega]
              rfl
            · rw [if_pos (by simp; omega), if_neg h3, List.drop_drop]
              by_cases h4 : at0 + 1 + c = X.length
              · rw [if_pos (by simp; omega), List.drop_eq_nil_of_le (by omega)]
                simp only [Option.map_some, Option.bind_some, Sum.elim_inr, spT]
                rw [show at0 + 1 + c = at0 + (1 + c) by omega]
              · have hlt2 : at0 + 1 + c < X.length := by omega
                rw [if_neg (by simp; omega), idx_lt hlt2, List.drop_eq_getElem_cons hlt2]
                simp only [Option.bind_some]
                by_cases h5 : (X[at0 + 1 + c]).toNat = 41
                · rw [if_neg (by simp [h5]), if_pos h5, inc_nat (by omega)]
                  simp only [Option.bind_some, Sum.elim_inl, spT]
                  rw [show at0 + 1 + c + 1 = at0 + (1 + c + 1) by omega]
                  rfl
                · rw [if_pos (by simp; omega), if_neg h5]
                  simp only [Option.map_some, Option.bind_some, Sum.elim_inr, spT]
                  rw [show at0 + 1 + c = at0 + (1 + c) by omega]
        · rw [if_pos (by simp; omega), if_neg h2]
          rfl

end Go.Proofs.YtofkhmedmeihiaaRf.Ev
