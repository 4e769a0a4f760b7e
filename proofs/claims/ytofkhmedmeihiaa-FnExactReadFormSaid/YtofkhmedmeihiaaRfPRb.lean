/- Plain laws: reading a term: the program's reader reads as the reference's does. No condition but sizes. -/
import Derived.Test.YtofkhmedmeihiaaRfPRa
namespace Go.Proofs.YtofkhmedmeihiaaRf.Ev
open Go
set_option autoImplicit false
set_option linter.unusedVariables false
set_option linter.unusedSimpArgs false

abbrev TP := (List Int × Unit) × List UInt8 × Int × Int × Bool × Unit
abbrev TQ := List Int × List UInt8 × Int × Int × Bool × Unit
/-- A reader at a place. -/
abbrev mkP (a : List Int) (X : List UInt8) (i : Nat) (b : Bool) : TP := ((a, ()), X, (i : Int), 12, b, ())
abbrev mkQ (a : List Int) (X : List UInt8) (i : Nat) (b : Bool) : TQ := (a, X, (i : Int), 12, b, ())
/-- The next byte, or 0. -/
def nx (X : List UInt8) (i : Nat) (b : Bool) : Nat := if b = true then 0 else match X[i]? with
  | some c => c.toNat
  | none => 0
theorem nx_lt (X : List UInt8) (i : Nat) (b : Bool) : nx X i b < 256 := by
  unfold nx
  split
  · omega
  · split
    · rename_i c _; exact c.toNat_lt
    · omega
theorem nx_true (X : List UInt8) (i : Nat) : nx X i true = 0 := rfl
theorem nx_get {X : List UInt8} {i : Nat} (h : i < X.length) : nx X i false = (X[i]).toNat := by simp [nx, h]
theorem nx_end {X : List UInt8} {i : Nat} (h : X.length ≤ i) (b : Bool) : nx X i b = 0 := by unfold nx; split <;> simp [h]

theorem p_nextP (a : List Int) (X : List UInt8) (i : Nat) (b : Bool) : c_impl_parser_next M (mkP a X i b) = some (((nx X i b : Int), ()), (mkP a X i b, ())) := by
  apply e_impl_parser_next
  simp only [q_impl_parser_next]
  cases b with
  | true => rfl
  | false =>
    rw [if_neg (by simp)]
    by_cases h : i < X.length
    · rw [if_neg (by simp; omega), idx_lt h, nx_get h]; rfl
    · rw [if_pos (by simp; omega), nx_end (by omega)]; rfl

theorem p_take_loop (a : List Int) (X : List UInt8) (i : Nat) (hi : i ≤ 1000000) (b : Bool) (w : List UInt8) (hw : w.length ≤ 1000) (c : Nat) : ∀ k j : Nat, j + k = w.length → l_impl_parser_take_58 M (mkQ a X i b) w c w.length j = some (if (w.drop j).any (fun x => x.toNat == c) = true ∧ c ≠ 0 then .inr (((c : Int), ()), (mkP a X (i + 1) b, ())) else .inl (mkQ a X i b, ())) := by
  intro k
  induction k with
  | zero =>
    intro j hj
    obtain rfl : j = w.length := by omega
    apply el_impl_parser_take_58
    simp [ql_impl_parser_take_58]
  | succ k ih =>
    intro j hj
    have hlt : j < w.length := by omega
    apply el_impl_parser_take_58
    simp only [ql_impl_parser_take_58]
    rw [if_pos (by simpa using hlt), idx_lt hlt, List.drop_eq_getElem_cons hlt, inc_nat (show j < 4611686018427387904 by omega), inc_nat (show i < 4611686018427387904 by omega)]
    simp only [Option.bind_some]
    have ihj := ih (j + 1) (by omega)
    by_cases h : (w[j]).toNat = c
    · rw [if_pos (by simp; omega)]
      by_cases h0 : c = 0
      · rw [if_neg (by simp; omega)]
        have e : (mkQ a X i b) = (a, X, (i : Int), 12, b, ()) := rfl
        rw [← e, ihj, if_neg (fun hh => hh.2 h0), if_neg (fun hh => hh.2 h0)]
      · rw [if_pos (by simp; omega), if_pos ⟨by simp only [List.any_cons, h, beq_self_eq_true, Bool.true_or], h0⟩]
    · rw [if_neg (by simp; omega)]
      have e : (mkQ a X i b) = (a, X, (i : Int), 12, b, ()) := rfl
      rw [← e, ihj]
      have : (w[j] :: w.drop (j + 1)).any (fun x => x.toNat == c) = (w.drop (j + 1)).any (fun x => x.toNat == c) := by simp only [List.any_cons, beq_false_of_ne h, Bool.false_or]
      rw [this]
theorem p_take (a : List Int) (X : List UInt8) (i : Nat) (hi : i ≤ 1000000) (b : Bool) (w : List UInt8) (hw : w.length ≤ 1000) :
    c_impl_parser_take M (mkP a X i b) w = some (if w.any (fun x => x.toNat == nx X i b) = true ∧ nx X i b ≠ 0 then (((nx X i b : Int), ()), (mkP a X (i + 1) b, ())) else ((0, ()), (mkP a X i true, ()))) := by
  apply e_impl_parser_take
  have e : ((mkP a X i b).1.1, ()) = (a, ()) := rfl
  simp only [q_impl_parser_take]
  have h1 := p_nextP a X i b
  have h2 := p_take_loop a X i hi b w hw (nx X i b) w.length 0 (by omega)
  rw [show ((0 : Nat) : Int) = 0 from rfl, List.drop_zero] at h2
  rw [show (((mkP a X i b).1.1, ()), (mkP a X i b).2.1, (mkP a X i b).2.2.1, (mkP a X i b).2.2.2.1, (mkP a X i b).2.2.2.2.1, ()) = mkP a X i b from rfl, h1]
  simp only [Option.bind_some]
  rw [h2]
  split <;> rfl

/-- What the program's reader of a term answers. -/
def imT (a : List Int) (X : List UInt8) (i : Nat) (y : Rd (List Int)) (r : (List Int × Unit) × (TP × Unit)) : Prop := match y with
  | .bad c => r.2.1 = mkP a X (i + c) true ∧ r.1.1.length ≤ c
  | .ok t c => r = ((t, ()), (mkP a X (i + c) false, ()))

theorem p_imT_after (a : List Int) (X : List UInt8) (i : Nat) (hi : i ≤ 1000000) (n : Int) (out : List Int) (cnt : Int) (k : Nat) (hk : k ≤ 1000) : ∃ r, l_impl_parser_term_1018 M (mkQ a X i true) n out cnt k = some r ∧ (r = .inr (([], ()), (mkP a X i true, ())) ∨ r = .inl (mkQ a X i true, n, out, ())) := by
  by_cases h : (k : Int) < cnt
  · refine ⟨.inr (([], ()), (mkP a X i true, ())), el_impl_parser_term_1018 _ _ _ _ _ ?_, .inl rfl⟩
    simp only [ql_impl_parser_term_1018]
    have t1 := p_take a X i hi true [40] (by simp)
    have t2 := p_take a X i hi true [44] (by simp)
    rw [if_neg (by simp [nx_true])] at t1 t2
    rw [if_pos (by simpa using h), t1, t2]
    by_cases h0 : k = 0
    · subst h0; rw [if_pos (by simp)]; rfl
    · rw [if_neg (by simpa using h0)]; rfl
  · refine ⟨.inl (mkQ a X i true, n, out, ()), el_impl_parser_term_1018 _ _ _ _ _ ?_, .inr rfl⟩
    simp only [ql_impl_parser_term_1018]
    rw [if_neg (by simpa using h)]

theorem p_imT_loop {a : List Int} (hg : gS a = true) (X : List UInt8) (hX : X.length ≤ 1000) (f : Nat) (ih : ∀ i : Nat, i ≤ X.length → X.length - i < f → ∃ r, c_impl_parser_term M (mkP a X i false) = some r ∧ imT a X i (rdT a f (X.drop i)) r)
    (n : Int) (cnt : Nat) (hcnt : cnt ≤ 3) : ∀ (m k i : Nat) (out : List Int), k + m = cnt → i ≤ X.length → X.length - i ≤ f → out.length ≤ i →
      ∃ r, l_impl_parser_term_1018 M (mkQ a X i false) n out cnt k = some r ∧ (match rdK (rdT a f) (if k = 0 then 40 else 44) m (X.drop i) with
        | .bad c => r = .inr (([], ()), (mkP a X (i + c) true, ())) ∨ ∃ o : List Int, r = .inl (mkQ a X (i + c) true, n, o, ()) ∧ o.length ≤ out.length + c
        | .ok t c => r = .inl (mkQ a X (i + c) false, n, out ++ t, ())) := by
  intro m
  induction m with
  | zero =>
    intro k i out hk hi hf ho
    refine ⟨.inl (mkQ a X i false, n, out, ()), el_impl_parser_term_1018 _ _ _ _ _ ?_, by simp [rdK]⟩
    simp only [ql_impl_parser_term_1018]
    rw [if_neg (by simp; omega)]
  | succ m ihm =>
    intro k i out hk hi hf ho
    have key : ∀ (sg : UInt8), sg.toNat = (if k = 0 then 40 else 44) → ∃ r, ((c_impl_parser_take M (mkP a X i false) [sg]).bind fun r2 => (if r2.2.1.2.2.2.2.1 = true then (some (Sum.inr (([], ()), (((r2.2.1.1.1, ()), r2.2.1.2.1, r2.2.1.2.2.1, r2.2.1.2.2.2.1, r2.2.1.2.2.2.2.1, ()), ())))) else ((c_impl_parser_term M ((r2.2.1.1.1, ()), r2.2.1.2.1, r2.2.1.2.2.1, r2.2.1.2.2.2.1, r2.2.1.2.2.2.2.1, ())).bind fun r4 => (if (List.length out + List.length r4.1.1) * 8 ≤ 140737488355328 then (l_impl_parser_term_1018 M (r4.2.1.1.1, r4.2.1.2.1, r4.2.1.2.2.1, r4.2.1.2.2.2.1, r4.2.1.2.2.2.2.1, ()) n (out ++ r4.1.1) cnt ((k + 1 : Nat) : Int)) else none)))) = some r ∧ (match rdK (rdT a f) (if k = 0 then 40 else 44) (m + 1) (X.drop i) with
        | .bad c => r = .inr (([], ()), (mkP a X (i + c) true, ())) ∨ ∃ o : List Int, r = .inl (mkQ a X (i + c) true, n, o, ()) ∧ o.length ≤ out.length + c
        | .ok t c => r = .inl (mkQ a X (i + c) false, n, out ++ t, ())) := by
      intro sg hsg
      have ht := p_take a X i (by omega) false [sg] (by simp)
      have hsg0 : sg.toNat ≠ 0 := by rw [hsg]; split <;> omega
      by_cases hend : i = X.length
      · rw [nx_end (by omega), if_neg (by simp)] at ht
        rw [ht, List.drop_eq_nil_of_le (by omega)]
        exact ⟨_, rfl, .inl rfl⟩
      · have hlt : i < X.length := by omega
        rw [nx_get hlt] at ht
        rw [List.drop_eq_getElem_cons hlt]
        simp only [rdK]
        by_cases hs : (X[i]).toNat = (if k = 0 then 40 else 44)
        · rw [if_pos ⟨by simp; omega, by omega⟩] at ht
          rw [ht, if_pos hs]
          simp only [Option.bind_some]
          rw [if_neg (by simp)]
          obtain ⟨r4, h1, h2⟩ := ih (i + 1) (by omega) (by omega)
          have h1' : c_impl_parser_term M (((mkP a X (i + 1) false).1.1, ()), (mkP a X (i + 1) false).2.1, (mkP a X (i + 1) false).2.2.1, (mkP a X (i + 1) false).2.2.2.1, (mkP a X (i + 1) false).2.2.2.2.1, ()) = some r4 := h1
          have hle := rdT_le (a := a) f (X.drop (i + 1))
          rw [h1']
          simp only [Option.bind_some]
          cases hr : rdT a f (X.drop (i + 1)) with
          | bad c =>
            rw [hr] at h2 hle
            have g1 := hle.1
            simp only [Rd.within, List.length_drop] at g1
            obtain ⟨⟨x, ⟨⟩⟩, ⟨p, ⟨⟩⟩⟩ := r4
            obtain ⟨h3, h4⟩ := h2
            simp only at h3 h4
            subst h3
            rw [if_pos (by simp only; omega)]
            obtain ⟨r, r1, r2⟩ := p_imT_after a X (i + 1 + c) (by omega) n (out ++ x) cnt (k + 1) (by omega)
            refine ⟨r, r1, ?_⟩
            simp only
            rw [show i + (1 + c) = i + 1 + c by omega]
            rcases r2 with r2 | r2
            · exact .inl r2
            · exact .inr ⟨out ++ x, r2, by simp; omega⟩
          | ok t c =>
            rw [hr] at h2 hle
            have g1 := hle.1
            have g2 := hle.2 t c rfl
            simp only [Rd.within, List.length_drop] at g1
            have h3 : r4 = ((t, ()), (mkP a X (i + 1 + c) false, ())) := h2
            subst h3
            rw [if_pos (by simp only; omega)]
            obtain ⟨r, r1, r2⟩ := ihm (k + 1) (i + 1 + c) (out ++ t) (by omega) (by omega) (by omega) (by simp; omega)
            refine ⟨r, r1, ?_⟩
            rw [if_neg (by omega)] at r2
            simp only
            rw [List.drop_drop]
            cases hk2 : rdK (rdT a f) 44 m (X.drop (i + 1 + c)) with
            | bad c' =>
              rw [hk2] at r2
              simp only at r2 ⊢
              rw [show i + (1 + c + c') = i + 1 + c + c' by omega]
              rcases r2 with r2 | ⟨o, o1, o2⟩
              · exact .inl r2
              · exact .inr ⟨o, o1, by simp at o2; omega⟩
            | ok t' c' =>
              rw [hk2] at r2
              simp only at r2 ⊢
              rw [show i + (1 + c + c') = i + 1 + c + c' by omega, r2, List.append_assoc]
        · rw [if_neg (fun hh => by
            have := hh.1
            simp at this
            omega)] at ht
          rw [ht, if_neg hs]
          exact ⟨_, rfl, .inl rfl⟩
    by_cases h0 : k = 0
    · obtain ⟨r, r1, r2⟩ := key 40 (by rw [if_pos h0]; rfl)
      refine ⟨r, el_impl_parser_term_1018 _ _ _ _ _ ?_, r2⟩
      rw [← r1]
      simp only [ql_impl_parser_term_1018]
      rw [if_pos (by simp; omega), if_pos (by simp [h0])]
      rw [Option.bind_assoc]
      simp only [Option.bind_some, Sum.elim_inl, inc_nat (show k < 4611686018427387904 by omega)]
    · obtain ⟨r, r1, r2⟩ := key 44 (by rw [if_neg h0]; rfl)
      refine ⟨r, el_impl_parser_term_1018 _ _ _ _ _ ?_, r2⟩
      rw [← r1]
      simp only [ql_impl_parser_term_1018]
      rw [if_pos (by simp; omega), if_neg (by simpa using h0)]
      rw [Option.bind_assoc]
      simp only [Option.bind_some, Sum.elim_inl, inc_nat (show k < 4611686018427387904 by omega)]

theorem p_imT {a : List Int} (hg : gS a = true) (X : List UInt8) (hX : X.length ≤ 1000) : ∀ (f i : Nat), i ≤ X.length → X.length - i < f → ∃ r, c_impl_parser_term M (mkP a X i false) = some r ∧ imT a X i (rdT a f (X.drop i)) r := by
  have hsl : a.length ≤ 10 := by simp only [gS, Bool.and_eq_true, decide_eq_true_eq] at hg; exact hg.2.1
  intro f
  induction f with
  | zero => intro i _ h; omega
  | succ f ih =>
    intro i hi hf
    have hnext := p_nextP a X i false
    have hn8 := nx_lt X i false
    have hin : IntKind.i64.wrap ((i : Int) + 1) = ((i + 1 : Nat) : Int) := inc_nat (by omega)
    have bad : ∀ (hbad : nx X i false < 97 ∧ ¬ (65 ≤ nx X i false ∧ nx X i false ≤ 76) ∨ 97 + a.length ≤ nx X i false), c_impl_parser_term M (mkP a X i false) = some (([], ()), (mkP a X i true, ())) := by
      intro hbad
      apply e_impl_parser_term
      simp only [q_impl_parser_term]
      rw [show (((mkP a X i false).1.1, ()), (mkP a X i false).2.1, (mkP a X i false).2.2.1, (mkP a X i false).2.2.2.1, (mkP a X i false).2.2.2.2.1, ()) = mkP a X i false from rfl, hnext]
      simp only [Option.bind_some]
      by_cases h65 : 65 ≤ nx X i false
      · rw [if_pos (by simp; omega), w8 (x := (nx X i false : Int) - 65) (by omega) (by omega), w64 (x := (nx X i false : Int) - 65) (by omega) (by omega), if_neg (by simp; omega)]
        by_cases h97 : nx X i false < 97
        · rw [if_pos (by simp; omega)]
        · rw [if_neg (by simp; omega), w8 (x := (nx X i false : Int) - 97) (by omega) (by omega), w64 (x := (nx X i false : Int) - 97) (by omega) (by omega), if_pos (by simp; omega)]
      · rw [if_neg (by simp; omega), if_pos (by simp; omega)]
    by_cases hend : i = X.length
    · have h0 := nx_end (X := X) (i := i) (by omega) false
      refine ⟨_, bad (by omega), ?_⟩
      rw [List.drop_eq_nil_of_le (by omega)]
      simp [rdT, imT]
    · have hlt : i < X.length := by omega
      have hnx := nx_get hlt
      rw [List.drop_eq_getElem_cons hlt]
      simp only [rdT]
      rw [← hnx]
      by_cases h1 : 65 ≤ nx X i false ∧ nx X i false ≤ 76
      · rw [if_pos h1]
        refine ⟨(([-1 - ((nx X i false : Int) - 65)], ()), (mkP a X (i + 1) false, ())), e_impl_parser_term _ ?_, rfl⟩
        simp only [q_impl_parser_term]
        rw [show (((mkP a X i false).1.1, ()), (mkP a X i false).2.1, (mkP a X i false).2.2.1, (mkP a X i false).2.2.2.1, (mkP a X i false).2.2.2.2.1, ()) = mkP a X i false from rfl, hnext]
        simp only [Option.bind_some]
        rw [if_pos (by simp; omega), w8 (x := (nx X i false : Int) - 65) (by omega) (by omega), w64 (x := (nx X i false : Int) - 65) (by omega) (by omega), if_pos (by simp; omega), w64 (x := -1 - ((nx X i false : Int) - 65)) (by omega) (by omega), hin]
      · rw [if_neg h1]
        by_cases h2 : 97 ≤ nx X i false ∧ nx X i false < 97 + a.length
        · rw [if_pos h2]
          have hbn : ¬ badN a ((nx X i false : Int) - 97) := by unfold badN; omega
          have hidx : idx a ((nx X i false : Int) - 97) = some (ar a ((nx X i false : Int) - 97)) := idx_ar hbn (by omega)
          have har := ar_ge hg ((nx X i false : Int) - 97)
          obtain ⟨r, r1, r2⟩ := p_imT_loop hg X hX f ih ((nx X i false : Int) - 97) (ar a ((nx X i false : Int) - 97)).toNat (by omega) (ar a ((nx X i false : Int) - 97)).toNat 0 (i + 1) [(nx X i false : Int) - 97] (by omega) (by omega) (by omega) (by simp)
          rw [show ((0 : Nat) : Int) = 0 from rfl, show (((ar a ((nx X i false : Int) - 97)).toNat : Nat) : Int) = ar a ((nx X i false : Int) - 97) by omega] at r1
          rw [if_pos rfl] at r2
          have pre : ∀ R, ((some r).bind (Sum.elim (fun y3 : TQ × Int × List Int × Unit => ((((idx y3.1.1 y3.2.1).bind fun x6 => (if (decide (x6 > (0 : Int))) = true then (if (!y3.1.2.2.2.2.1) = true then ((c_impl_parser_take M ((y3.1.1, ()), y3.1.2.1, y3.1.2.2.1, y3.1.2.2.2.1, y3.1.2.2.2.2.1, ()) ([41] : List UInt8)).bind fun r7 => (some (.inl ((r7.2.1.1.1, r7.2.1.2.1, r7.2.1.2.2.1, r7.2.1.2.2.2.1, r7.2.1.2.2.2.2.1, ()), y3.2.2.1, ())))) else (some (.inl ((y3.1.1, y3.1.2.1, y3.1.2.2.1, y3.1.2.2.2.1, y3.1.2.2.2.2.1, ()), y3.2.2.1, ())))) else (some (.inl ((y3.1.1, y3.1.2.1, y3.1.2.2.1, y3.1.2.2.2.1, y3.1.2.2.2.2.1, ()), y3.2.2.1, ()))))) : Option ((TQ × (List Int) × Unit) ⊕ ((List Int) × Unit) × (TP × Unit))).bind (Sum.elim (fun q5 => (some ((q5.2.1, ()), (((q5.1.1, ()), q5.1.2.1, q5.1.2.2.1, q5.1.2.2.2.1, q5.1.2.2.2.2.1, ()), ())))) (fun r => some r)))) (fun r4 => (some r4)))) = some R → c_impl_parser_term M (mkP a X i false) = some R := by
            intro R hR
            apply e_impl_parser_term
            simp only [q_impl_parser_term]
            rw [show (((mkP a X i false).1.1, ()), (mkP a X i false).2.1, (mkP a X i false).2.2.1, (mkP a X i false).2.2.2.1, (mkP a X i false).2.2.2.2.1, ()) = mkP a X i false from rfl, hnext]
            simp only [Option.bind_some]
            rw [if_pos (by simp; omega), w8 (x := (nx X i false : Int) - 65) (by omega) (by omega), w64 (x := (nx X i false : Int) - 65) (by omega) (by omega), if_neg (by simp; omega), if_neg (by simp; omega), w8 (x := (nx X i false : Int) - 97) (by omega) (by omega), w64 (x := (nx X i false : Int) - 97) (by omega) (by omega), if_neg (by simp; omega), hidx, hin]
            simp only [Option.bind_some]
            rw [show (((mkP a X i false).1.1, (mkP a X i false).2.1, ((i + 1 : Nat) : Int), (mkP a X i false).2.2.2.1, (mkP a X i false).2.2.2.2.1, ()) : TQ) = mkQ a X (i + 1) false from rfl, r1]
            exact hR
          have hle := rdK_le (rdT_le (a := a) f) (ar a ((nx X i false : Int) - 97)).toNat 40 (X.drop (i + 1))
          cases hk : rdK (rdT a f) 40 (ar a ((nx X i false : Int) - 97)).toNat (X.drop (i + 1)) with
          | bad c =>
            rw [hk] at r2
            simp only at r2 ⊢
            rcases r2 with r2 | ⟨o, o1, o2⟩
            · refine ⟨(([], ()), (mkP a X (i + 1 + c) true, ())), pre _ (by rw [r2]; rfl), ?_⟩
              simp only [imT]
              exact ⟨by rw [show i + (1 + c) = i + 1 + c by omega], by simp⟩
            · refine ⟨((o, ()), (mkP a X (i + 1 + c) true, ())), pre _ ?_, ?_⟩
              · rw [o1]
                simp only [Option.bind_some, Sum.elim_inl, hidx]
                by_cases h3 : ar a ((nx X i false : Int) - 97) > 0
                · rw [if_pos (by simpa using h3), if_neg (by simp)]; rfl
                · rw [if_neg (by simpa using h3)]; rfl
              · simp only [imT]
                exact ⟨by rw [show i + (1 + c) = i + 1 + c by omega], by simp at o2; omega⟩
          | ok t c =>
            rw [hk] at r2 hle
            have g1 := hle.1
            simp only [Rd.within, List.length_drop] at g1
            simp only at r2 ⊢
            by_cases h3 : ar a ((nx X i false : Int) - 97) ≤ 0
            · rw [if_pos h3]
              refine ⟨((((nx X i false : Int) - 97) :: t, ()), (mkP a X (i + 1 + c) false, ())), pre _ ?_, ?_⟩
              · rw [r2]
                simp only [Option.bind_some, Sum.elim_inl, hidx]
                rw [if_neg (by simp; omega)]
                rfl
              · simp only [imT]
                rw [show i + (1 + c) = i + 1 + c by omega]
            · rw [if_neg h3, List.drop_drop]
              have ht := p_take a X (i + 1 + c) (by omega) false [41] (by simp)
              have step : ∀ (j : Nat) (b : Bool) (x : Int), c_impl_parser_take M (mkP a X (i + 1 + c) false) [41] = some ((x, ()), (mkP a X j b, ())) → c_impl_parser_term M (mkP a X i false) = some ((((nx X i false : Int) - 97) :: t, ()), (mkP a X j b, ())) := by
                intro j b x hx
                apply pre
                rw [r2]
                simp only [Option.bind_some, Sum.elim_inl, hidx]
                rw [if_pos (by simp; omega), if_pos (by simp)]
                have hx' : c_impl_parser_take M (((mkQ a X (i + 1 + c) false).1, ()), (mkQ a X (i + 1 + c) false).2.1, (mkQ a X (i + 1 + c) false).2.2.1, (mkQ a X (i + 1 + c) false).2.2.2.1, (mkQ a X (i + 1 + c) false).2.2.2.2.1, ()) [41] = some ((x, ()), (mkP a X j b, ())) := hx
                rw [hx']
                rfl
              by_cases h4 : i + 1 + c = X.length
              · rw [nx_end (by omega), if_neg (by simp)] at ht
                rw [List.drop_eq_nil_of_le (by omega)]
                refine ⟨_, step _ _ _ ht, ?_⟩
                simp only [imT]
                have hlen := hle.2 t c rfl
                exact ⟨by rw [show i + (1 + c) = i + 1 + c by omega], by simp; omega⟩
              · have hlt2 : i + 1 + c < X.length := by omega
                rw [nx_get hlt2] at ht
                rw [List.drop_eq_getElem_cons hlt2]
                simp only
                by_cases h5 : (X[i + 1 + c]).toNat = 41
                · rw [if_pos ⟨by simp [h5], by omega⟩] at ht
                  rw [if_pos h5]
                  refine ⟨_, step _ _ _ ht, ?_⟩
                  simp only [imT]
                  rw [show i + (1 + c + 1) = i + 1 + c + 1 by omega]
                · rw [if_neg (fun hh => by have := hh.1; simp at this; omega)] at ht
                  rw [if_neg h5]
                  refine ⟨_, step _ _ _ ht, ?_⟩
                  simp only [imT]
                  have hlen := hle.2 t c rfl
                  exact ⟨by rw [show i + (1 + c) = i + 1 + c by omega], by simp; omega⟩
        · rw [if_neg h2]
          exact ⟨_, bad (by omega), by simp [imT]⟩

end Go.Proofs.YtofkhmedmeihiaaRf.Ev
