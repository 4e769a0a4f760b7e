/- Plain law: FnExactReadForm answers true. No condition but that lists fit in memory. -/
import Derived.Test.YtofkhmedmeihiaaRfPFi
import Derived.Test.YtofkhmedmeihiaaRfPG
import Derived.Test.YtofkhmedmeihiaaRfPQf
namespace Go.Proofs.YtofkhmedmeihiaaRf.Ev
open Go
set_option autoImplicit false
set_option linter.unusedVariables false
set_option linter.unusedSimpArgs false

theorem p_impl_GoodForm' (s : TSign) (hs : s.1.length ≤ 1048576) (f : List TForm) : c_impl_GoodForm M s f = some ((gS s.1 && fOK s.1 f, ()), ()) := by
  obtain ⟨t, h, _⟩ := p_formula s hs f
  apply e_impl_GoodForm
  simp only [q_impl_GoodForm, sign_eta', h, Option.bind_some]

/-- What both answer. -/
def RF (a : List Int) (X : List UInt8) : (List TForm × Int × Bool × Unit) × Unit := if gS a = true ∧ X.length ≤ 1000 then
    match rdF a (X.length + 1) (X.length + 1) X with
    | .bad c => (([], (c : Int), false, ()), ())
    | .ok f c => if c < X.length then (([], (c : Int), false, ()), ()) else if fOK a f = true then ((f, (c : Int), true, ()), ()) else (([], 0, false, ()), ())
  else (([], 0, false, ()), ())

theorem p_spec_RF (s : TSign) (hs : s.1.length ≤ 1048576) (X : List UInt8) : c_spec_ReadForm M s X = some (RF s.1 X) := by
  apply e_spec_ReadForm
  simp only [q_spec_ReadForm, sign_eta', p_spec_GoodSign s (by omega), Option.bind_some]
  unfold RF
  cases hg : gS s.1 with
  | false => rw [if_pos (by rfl), if_neg (by simp)]
  | true =>
    rw [if_neg (by simp)]
    by_cases hX : X.length ≤ 1000
    · rw [if_neg (by simp; omega), if_pos ⟨rfl, hX⟩]
      obtain ⟨⟨f1, p1, b1, ⟨⟩⟩, c1, m1⟩ := p_spF hg X hX (X.length + 1) (by omega) (X.length + 1) 0 (by omega) (by omega)
      rw [List.drop_zero] at m1
      have hle := rdF_le (a := s.1) (F := X.length + 1) (X.length + 1) X
      have c1' : c_spec_l14Read M s X 0 = some ((f1, p1, b1, ()), ()) := c1
      rw [c1']
      simp only [Option.bind_some]
      cases hr : rdF s.1 (X.length + 1) (X.length + 1) X with
      | bad c =>
        rw [hr] at m1
        obtain ⟨j1, j2, _⟩ := m1
        simp only [Nat.zero_add] at j1 j2
        subst j1
        subst j2
        rw [if_pos (by rfl)]
      | ok f c =>
        rw [hr] at m1 hle
        simp only [spF, Nat.zero_add, Prod.mk.injEq, and_true] at m1
        obtain ⟨rfl, rfl, rfl⟩ := m1
        rw [if_neg (by simp)]
        have h2 := hle.1
        simp only [Rd.within] at h2
        have h3 := hle.2 f1 c rfl
        simp only
        by_cases hc : c < X.length
        · rw [if_pos (by simp; omega), if_pos hc]
        · rw [if_neg (by simp; omega), if_neg hc, p_l14Form s hg f1 (by omega) (fun x hx => ⟨by have := (h3.2 x hx).1; omega, by have := (h3.2 x hx).2; omega⟩)]
          simp only [Option.bind_some]
          cases fOK s.1 f1 with
          | false => rfl
          | true => rfl
    · rw [if_pos (by simp; omega), if_neg (fun h => hX h.2)]

theorem p_impl_RF (s : TSign) (hs : s.1.length ≤ 1048576) (X : List UInt8) : c_impl_ReadForm M s X = some (RF s.1 X) := by
  apply e_impl_ReadForm
  simp only [q_impl_ReadForm, sign_eta', p_impl_GoodSign s (by omega), Option.bind_some]
  unfold RF
  cases hg : gS s.1 with
  | false => rw [if_pos (by rfl), if_neg (by simp)]
  | true =>
    rw [if_neg (by simp)]
    by_cases hX : X.length ≤ 1000
    · rw [if_neg (by simp; omega), if_pos ⟨rfl, hX⟩]
      obtain ⟨⟨⟨f1, ⟨⟩⟩, ⟨q1, ⟨⟩⟩⟩, c1, m1⟩ := p_imF hg X hX (X.length + 1) (by omega) (X.length + 1) 0 (by omega) (by omega)
      rw [List.drop_zero] at m1
      have hle := rdF_le (a := s.1) (F := X.length + 1) (X.length + 1) X
      have c1' : c_impl_parser_form M (s, X, 0, 12, false, ()) = some ((f1, ()), (q1, ())) := c1
      rw [c1']
      simp only [Option.bind_some]
      have done : ∀ (c : Nat) (b : Bool), c_impl_parser_done M ((mkP s.1 X c b).1, (mkP s.1 X c b).2.1, (mkP s.1 X c b).2.2.1, (mkP s.1 X c b).2.2.2.1, (mkP s.1 X c b).2.2.2.2.1, ()) = some ((!(b || decide (c < X.length)), ()), (mkP s.1 X c (b || decide (c < X.length)), ())) := by
        intro c b
        apply e_impl_parser_done
        simp only [q_impl_parser_done]
        cases b with
        | true => rfl
        | false => simp
      cases hr : rdF s.1 (X.length + 1) (X.length + 1) X with
      | bad c =>
        rw [hr] at m1
        obtain ⟨j1, _⟩ := m1
        simp only [Nat.zero_add] at j1
        subst j1
        rw [done c true]
        rfl
      | ok f c =>
        rw [hr] at m1 hle
        simp only [imF, Nat.zero_add, Prod.mk.injEq, and_true] at m1
        obtain ⟨rfl, rfl⟩ := m1
        have h2 := hle.1
        simp only [Rd.within] at h2
        rw [done c false]
        simp only [Option.bind_some]
        by_cases hc : c < X.length
        · rw [if_pos (by simp [hc]), if_pos hc]
        · rw [if_neg (by simp; omega), if_neg hc, p_impl_GoodForm' s hs f1]
          simp only [Option.bind_some, hg, Bool.true_and]
          cases fOK s.1 f1 with
          | false => rfl
          | true => simp only [Bool.not_true, Bool.false_eq_true, ↓reduceIte]; rw [show (X.length : Int) = (c : Int) by omega]
    · rw [if_pos (by simp; omega), if_neg (fun h => hX h.2)]

theorem RF_sm (a : List Int) (X : List UInt8) : (RF a X).1.1.length ≤ 1000 ∧ ∀ x ∈ (RF a X).1.1, smF x := by
  unfold RF
  split
  · rename_i h
    have hle := rdF_le (a := a) (F := X.length + 1) (X.length + 1) X
    split
    · simp
    · rename_i f c hr
      rw [hr] at hle
      have h2 := hle.1
      simp only [Rd.within] at h2
      have h3 := hle.2 f c rfl
      split
      · simp
      · split
        · exact ⟨by simp only; omega, fun x hx => ⟨by have := (h3.2 x hx).1; omega, by have := (h3.2 x hx).2; omega⟩⟩
        · simp
  · simp

theorem p_FnExactReadForm (s : TSign) (X : List UInt8) (hs : s.1.length ≤ 9223372036854775807) : c_laws_FnExactReadForm M s X = some ((true, ()), ()) := by
  apply e_laws_FnExactReadForm
  simp only [q_laws_FnExactReadForm]
  by_cases h0 : (X.length : Int) > 1048576
  · rw [if_pos (by simpa using h0)]
  · rw [if_neg (by simpa using h0)]
    obtain ⟨r1, e1, g1, k1⟩ := p_szSign s 1048576 (by omega) (by omega) hs
    simp only [sign_eta', e1, Option.bind_some]
    by_cases h1 : r1 < 0
    · rw [if_pos (by simpa using h1)]
    · rw [if_neg (by simpa using h1)]
      have hs' := k1 (by omega)
      obtain ⟨o1, o2⟩ := RF_sm s.1 X
      have b2 := totF_le (RF s.1 X).1.1 o2
      have m1 := p_markSign s 1 (by omega) (by omega)
      have m3 := p_markFormS (RF s.1 X).1.1 1 (by omega) (by omega) (by omega)
      have m4 := p_heldFormS (RF s.1 X).1.1 1 (by omega) (by omega) (by omega)
      simp only [p_toSign s (by omega), p_spec_RF s hs' X, p_impl_RF s hs' X, p_eqSign s (by omega), p_eqFormS (RF s.1 X).1.1 (by omega) o2, m1, m3, m4, Option.bind_some]
      simp
      rw [if_neg (by omega), if_neg (by omega), if_neg (by omega)]

end Go.Proofs.YtofkhmedmeihiaaRf.Ev
