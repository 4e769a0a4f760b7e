/- Texts laid together: RD, PW, PHo, PXa, PHa, PX, PYb, RE; no condition but those that each theorem names. -/
import Derived.Test.YtkdceefdipljaaaGreatFwoRC
/- Plain laws: what is asked of clauses in worlds, by both programs: they answer alike. No condition but sizes. -/
namespace Go.Proofs.YtkdceefdipljaaaGreatFwo.Ev
open Go
set_option autoImplicit false
set_option linter.unusedVariables false
set_option linter.unusedSimpArgs false

/-- A world that is not big. -/
def smW (w : TWorld) : Prop := w.2.1.length ≤ 1048576 ∧ ∀ y ∈ w.2.1, smS y
theorem p_impl_GoodWorld (s : TSign) (hs : s.1.length ≤ 1048576) (w : TWorld) (hw : smW w) : c_impl_GoodWorld M s w = some ((gS s.1 && wOK s.1 w, ()), ()) := by
  apply e_impl_GoodWorld
  simp only [q_impl_GoodWorld, sign_eta', world_eta, p_impl_GoodSign s (by omega), Option.bind_some]
  cases hg : gS s.1 with
  | false => rfl
  | true => rw [if_pos rfl, p_isWorld s hg w hw.1 hw.2]; rfl
/-- What both programs answer. -/
noncomputable def rFA (s : TSign) (w : TWorld) (c : List TLit) : (List Int × Bool × Unit) × Unit := if (gS s.1 && wOK s.1 w && ask s.1 c) = true then (((FA s w c).1, (FA s w c).2, ()), ()) else (([], false, ()), ())
noncomputable def rHI (s : TSign) (w : TWorld) (c : List TLit) : (Bool × Bool × Unit) × Unit := if (gS s.1 && wOK s.1 w && ask s.1 c) = true then ((!(FA s w c).2, true, ()), ()) else ((false, false, ()), ())
noncomputable def rAH (s : TSign) (w : TWorld) (l : List (List TLit)) : (Bool × Bool × Unit) × Unit := if (gS s.1 && wOK s.1 w && asks s.1 l) = true then ((AH s w l, true, ()), ()) else ((false, false, ()), ())
section
variable (s : TSign) (hs : s.1.length ≤ 1048576) (w : TWorld) (hw : smW w) (c : List TLit) (hc : smC c)
include hs hw hc
theorem p_FalseAts : c_impl_FalseAt M s w c = some (rFA s w c) ∧ c_spec_FalseAt M s w c = some (rFA s w c) := by
  refine ⟨e_impl_FalseAt _ _ _ ?_, e_spec_FalseAt _ _ _ ?_⟩
  · simp only [q_impl_FalseAt, sign_eta', world_eta, p_impl_GoodWorld s hs w hw, Option.bind_some, rFA]
    cases h : gS s.1 && wOK s.1 w with
    | false => simp
    | true =>
      have h' := h
      simp only [Bool.and_eq_true] at h'
      rw [if_neg (by simp), p_isAsked s h'.1 c hc.1]
      simp only [Option.bind_some, Bool.true_and]
      cases ha : ask s.1 c with
      | false => simp
      | true =>
        have hcl : clOK s.1 c = true := by simp only [ask, Bool.and_eq_true] at ha; exact ha.1
        rw [if_neg (by simp), p_falseAt s h'.1 w h'.2 c hcl]
        simp
  · simp only [q_spec_FalseAt, sign_eta', world_eta, p_spec_GoodWorld s hs w hw.1 hw.2, Option.bind_some, rFA]
    cases h : gS s.1 && wOK s.1 w with
    | false => simp
    | true =>
      have h' := h
      simp only [Bool.and_eq_true] at h'
      rw [if_neg (by simp), p_l4Clause s h'.1 c hc.1 hc.2]
      simp only [Option.bind_some, Bool.true_and]
      by_cases hcl : clOK s.1 c = true
      · rw [if_neg (by simp [hcl]), p_few hcl]
        simp only [Option.bind_some]
        have ha : ask s.1 c = decide ((cv c).length ≤ 6) := by simp [ask, hcl]
        rw [ha]
        by_cases h6 : (cv c).length ≤ 6
        · rw [if_neg (by simp [h6]), p_l5FalseAt s h'.1 w h'.2 c hcl, if_pos (by simp [h6])]
          rfl
        · rw [if_pos (by simp [h6]), if_neg (by simp [h6])]
      · have ha : ask s.1 c = false := by simp [ask, hcl]
        rw [if_pos (by simp [hcl]), ha, if_neg (by simp)]
theorem p_HoldsIns : c_impl_HoldsIn M s w c = some (rHI s w c) ∧ c_spec_HoldsIn M s w c = some (rHI s w c) := by
  refine ⟨e_impl_HoldsIn _ _ _ ?_, e_spec_HoldsIn _ _ _ ?_⟩
  · simp only [q_impl_HoldsIn, sign_eta', world_eta, p_impl_GoodWorld s hs w hw, Option.bind_some, rHI]
    cases h : gS s.1 && wOK s.1 w with
    | false => simp
    | true =>
      have h' := h
      simp only [Bool.and_eq_true] at h'
      rw [if_neg (by simp), p_isAsked s h'.1 c hc.1]
      simp only [Option.bind_some, Bool.true_and]
      cases ha : ask s.1 c with
      | false => simp
      | true =>
        have hcl : clOK s.1 c = true := by simp only [ask, Bool.and_eq_true] at ha; exact ha.1
        rw [if_neg (by simp), p_falseAt s h'.1 w h'.2 c hcl]
        simp
  · simp only [q_spec_HoldsIn, sign_eta', world_eta, p_spec_GoodWorld s hs w hw.1 hw.2, Option.bind_some, rHI]
    cases h : gS s.1 && wOK s.1 w with
    | false => simp
    | true =>
      have h' := h
      simp only [Bool.and_eq_true] at h'
      rw [if_neg (by simp), p_l4Clause s h'.1 c hc.1 hc.2]
      simp only [Option.bind_some, Bool.true_and]
      by_cases hcl : clOK s.1 c = true
      · rw [if_neg (by simp [hcl]), p_few hcl]
        simp only [Option.bind_some]
        have ha : ask s.1 c = decide ((cv c).length ≤ 6) := by simp [ask, hcl]
        rw [ha]
        by_cases h6 : (cv c).length ≤ 6
        · rw [if_neg (by simp [h6]), p_l5Holds s h'.1 w h'.2 c hcl, if_pos (by simp [h6])]
          rfl
        · rw [if_pos (by simp [h6]), if_neg (by simp [h6])]
      · have ha : ask s.1 c = false := by simp [ask, hcl]
        rw [if_pos (by simp [hcl]), ha, if_neg (by simp)]
theorem p_HoldsAt (h : (gS s.1 && wOK s.1 w && ask s.1 c) = true) (env : List Int) (he : envOK w.1 env = true) : c_impl_HoldsAt M s w c env = some ((hl s w c env, true, ()), ()) := by
  simp only [Bool.and_eq_true, ask] at h
  obtain ⟨⟨h1, h2⟩, h3, h4⟩ := h
  apply e_impl_HoldsAt
  simp only [q_impl_HoldsAt, sign_eta', world_eta, p_impl_GoodWorld s hs w hw, Option.bind_some]
  rw [if_neg (by simp [h1, h2]), p_isClause s h1 c hc.1]
  simp only [Option.bind_some]
  rw [if_neg (by simp [h3]), p_isEnv w env]
  simp only [Option.bind_some]
  rw [if_neg (by simp [he]), p_holdsAt s h1 w h2 c h3 env he]
  rfl
end
theorem p_AllHolds (s : TSign) (hs : s.1.length ≤ 1048576) (w : TWorld) (hw : smW w) (l : List (List TLit)) (hl : l.length ≤ 1048576) (hx : ∀ c ∈ l, smC c) : c_impl_AllHold M s w l = some (rAH s w l) ∧ c_spec_AllHold M s w l = some (rAH s w l) := by
  refine ⟨e_impl_AllHold _ _ _ ?_, e_spec_AllHold _ _ _ ?_⟩
  · simp only [q_impl_AllHold, sign_eta', world_eta, p_impl_GoodWorld s hs w hw, Option.bind_some, rAH]
    cases h : gS s.1 && wOK s.1 w with
    | false => simp
    | true =>
      have h' := h
      simp only [Bool.and_eq_true] at h'
      rw [if_neg (by simp), p_areAsked s h'.1 l hl hx]
      simp only [Option.bind_some, Bool.true_and]
      cases ha : asks s.1 l with
      | false => simp
      | true =>
        rw [if_neg (by simp), p_allHold s h'.1 w h'.2 l ha]
        simp
  · simp only [q_spec_AllHold, sign_eta', world_eta, p_spec_GoodWorld s hs w hw.1 hw.2, Option.bind_some, rAH]
    cases h : gS s.1 && wOK s.1 w with
    | false => simp
    | true =>
      have h' := h
      simp only [Bool.and_eq_true] at h'
      rw [if_neg (by simp), p_l5Clauses s h'.1 l hl hx]
      simp only [Option.bind_some, Bool.true_and]
      cases ha : asks s.1 l with
      | false => simp
      | true =>
        rw [if_neg (by simp), p_l5All s h'.1 w h'.2 l ha]
        simp
def szOK (S : Int) : Bool := decide (1 ≤ S) && decide (S ≤ 3)
theorem p_isSize (S : Int) : c_impl_isSize M S = some ((szOK S, ()), ()) := by
  apply e_impl_isSize
  simp only [q_impl_isSize, szOK]
  by_cases h : 1 ≤ S
  · rw [if_pos (by simpa using h), decide_eq_true h, Bool.true_and]
  · rw [if_neg (by simpa using h), decide_eq_false h, Bool.false_and]
theorem p_l1InSz (S : Int) : c_spec_l1In M S 1 3 = some ((szOK S, ()), ()) := p_l1In S 1 3
def rCW (s : TSign) (S : Int) : (Int × Bool × Unit) × Unit := if (gS s.1 && szOK S) = true then ((CW S s.1 1, true, ()), ()) else ((0, false, ()), ())
theorem szOK_bd {S : Int} (h : szOK S = true) : 1 ≤ S ∧ S ≤ 3 := by
  simp only [szOK, Bool.and_eq_true, decide_eq_true_eq] at h; exact h
theorem p_CountWorlds (s : TSign) (hs : s.1.length ≤ 1048576) (S : Int) : c_impl_CountWorlds M s S = some (rCW s S) ∧ c_spec_CountWorlds M s S = some (rCW s S) := by
  refine ⟨e_impl_CountWorlds _ _ ?_, e_spec_CountWorlds _ _ ?_⟩
  · simp only [q_impl_CountWorlds, sign_eta', p_impl_GoodSign s (by omega), Option.bind_some, rCW]
    cases hg : gS s.1 with
    | false => simp
    | true =>
      rw [if_neg (by simp), p_isSize]
      simp only [Option.bind_some, Bool.true_and]
      cases hS : szOK S with
      | false => simp
      | true =>
        obtain ⟨h1, h3⟩ := szOK_bd hS
        rw [if_neg (by simp), p_countWorlds h1 h3 s hg]
        simp
  · simp only [q_spec_CountWorlds, sign_eta', p_spec_GoodSign s (by omega), Option.bind_some, rCW]
    cases hg : gS s.1 with
    | false => simp
    | true =>
      rw [if_neg (by simp), p_l1InSz]
      simp only [Option.bind_some, Bool.true_and]
      cases hS : szOK S with
      | false => simp
      | true =>
        obtain ⟨h1, h3⟩ := szOK_bd hS
        rw [if_neg (by simp), p_l5Worlds h1 h3 s hg]
        simp
/-- No world. -/
def w00 : TWorld := (0, [], ())
theorem w00_sm : smW w00 := ⟨by simp [w00], by simp [w00]⟩
/-- What both programs answer where a world is asked for. -/
def OkW (s : TSign) (r : (TWorld × Bool × Unit) × Unit) : Prop := smW r.1.1 ∧ (r.1.2.1 = true → gS s.1 = true ∧ wOK s.1 r.1.1 = true)
theorem OkW0 (s : TSign) : OkW s ((w00, false, ()), ()) := ⟨w00_sm, by simp⟩
theorem WW_sm {S : Int} (h1 : 1 ≤ S) (h3 : S ≤ 3) {a : List Int} (hg : gS a = true) {no : Int} (n0 : 0 ≤ no) : smW (WW S a no) := by
  obtain ⟨_, g2, g3⟩ := WW_ok h1 h3 hg n0
  exact ⟨by omega, g3⟩
theorem p_WorldAts (s : TSign) (hs : s.1.length ≤ 1048576) (S no : Int) : ∃ r, c_impl_WorldAt M s S no = some r ∧ c_spec_WorldAt M s S no = some r ∧ OkW s r := by
  have hc := (p_CountWorlds s hs S).2
  cases hgz : gS s.1 && szOK S with
  | false =>
    refine ⟨((w00, false, ()), ()), e_impl_WorldAt _ _ _ ?_, e_spec_WorldAt _ _ _ ?_, OkW0 s⟩
    · simp only [q_impl_WorldAt, sign_eta', p_impl_GoodSign s (by omega), Option.bind_some]
      cases hg : gS s.1 with
      | false => rw [if_pos (by rfl)]; rfl
      | true =>
        rw [hg, Bool.true_and] at hgz
        rw [if_neg (by simp), p_isSize]
        simp only [Option.bind_some, hgz]
        rw [if_pos (by rfl)]; rfl
    · simp only [q_spec_WorldAt, sign_eta', hc, Option.bind_some, rCW, hgz]
      rw [if_pos (by rfl)]; rfl
  | true =>
    have h' := hgz
    simp only [Bool.and_eq_true] at h'
    obtain ⟨hg, hS⟩ := h'
    obtain ⟨h1, h3⟩ := szOK_bd hS
    have hcw := CW_bd h1 h3 s.1 1 (by omega) (by omega)
    by_cases hno : CW S s.1 1 < 10000 ∧ 0 ≤ no ∧ no < CW S s.1 1
    · obtain ⟨g1, g2⟩ := p_worldAts h1 h3 s hg no hno.2.1 (by omega)
      refine ⟨((WW S s.1 no, true, ()), ()), e_impl_WorldAt _ _ _ ?_, e_spec_WorldAt _ _ _ ?_, WW_sm h1 h3 hg hno.2.1, fun _ => ⟨hg, (WW_ok h1 h3 hg hno.2.1).1⟩⟩
      · simp only [q_impl_WorldAt, sign_eta', p_impl_GoodSign s (by omega), p_isSize, p_countWorlds h1 h3 s hg, g1, hg, hS, Option.bind_some]
        rw [if_neg (by simp), if_neg (by simp), if_neg (by simp; omega), if_neg (by simp; omega), if_neg (by simp; omega)]
        all_goals rfl
      · simp only [q_spec_WorldAt, sign_eta', hc, Option.bind_some, rCW, hgz, g2, if_true]
        rw [if_neg (by simp), if_neg (by simp; omega), w64 (x := CW S s.1 1 - 1) (by omega) (by omega), p_l1In]
        simp only [Option.bind_some]
        rw [if_neg (by simp; omega)]
        all_goals rfl
    · refine ⟨((w00, false, ()), ()), e_impl_WorldAt _ _ _ ?_, e_spec_WorldAt _ _ _ ?_, OkW0 s⟩
      · simp only [q_impl_WorldAt, sign_eta', p_impl_GoodSign s (by omega), p_isSize, p_countWorlds h1 h3 s hg, hg, hS, Option.bind_some]
        rw [if_neg (by simp), if_neg (by simp)]
        by_cases q1 : CW S s.1 1 < 10000
        · rw [if_neg (by simp; omega)]
          by_cases q2 : no < 0
          · rw [if_pos (by simpa using q2)]; rfl
          · rw [if_neg (by simpa using q2), if_pos (by simp; omega)]; rfl
        · rw [if_pos (by simp; omega)]; rfl
      · simp only [q_spec_WorldAt, sign_eta', hc, Option.bind_some, rCW, hgz, if_true]
        rw [if_neg (by simp)]
        by_cases q1 : CW S s.1 1 < 10000
        · rw [if_neg (by simp; omega), w64 (x := CW S s.1 1 - 1) (by omega) (by omega), p_l1In]
          simp only [Option.bind_some]
          rw [if_pos (by simp; omega)]; rfl
        · rw [if_pos (by simp; omega)]; rfl
theorem p_find_loop (s : TSign) (hg : gS s.1 = true) (l : List (List TLit)) (hl : asks s.1 l = true) (S : Int) (h1 : 1 ≤ S) (h3 : S ≤ 3) (w0 : TWorld) (many : Nat) (hm : many ≤ 100000) : ∀ k n : Nat, n + k = many → ∃ y, l_impl_FindWorld_250 M l S s w0 many n = some y ∧ l_spec_FindWorld_122 M l S s w0 many n = some y ∧ (y = .inl (w0, ()) ∨ ∃ W, y = .inr ((W, true, ()), ()) ∧ smW W ∧ wOK s.1 W = true ∧ AH s W l = true) := by
  intro k
  induction k with
  | zero =>
    intro n hn
    refine ⟨.inl (w0, ()), el_impl_FindWorld_250 _ _ _ _ _ _ ?_, el_spec_FindWorld_122 _ _ _ _ _ _ ?_, .inl rfl⟩
    · simp only [ql_impl_FindWorld_250]
      rw [if_neg (by simp; omega)]; all_goals rfl
    · simp only [ql_spec_FindWorld_122]
      rw [if_neg (by simp; omega)]; all_goals rfl
  | succ k ih =>
    intro n hn
    obtain ⟨g1, g2⟩ := p_worldAts h1 h3 s hg (n : Int) (by omega) (by omega)
    have hw := (WW_ok h1 h3 hg (no := (n : Int)) (by omega)).1
    have i1 := p_allHold s hg (WW S s.1 n) hw l hl
    have i2 := p_l5All s hg (WW S s.1 n) hw l hl
    obtain ⟨y, y1, y2, y3⟩ := ih (n + 1) (by omega)
    by_cases ha : AH s (WW S s.1 n) l = true
    · refine ⟨.inr ((WW S s.1 n, true, ()), ()), el_impl_FindWorld_250 _ _ _ _ _ _ ?_, el_spec_FindWorld_122 _ _ _ _ _ _ ?_, .inr ⟨_, rfl, WW_sm h1 h3 hg (by omega), hw, ha⟩⟩
      · simp only [ql_impl_FindWorld_250]
        rw [if_pos (by simp; omega)]
        simp only [sign_eta', g1, Option.bind_some, world_eta, i1]
        rw [if_pos ha]
      · simp only [ql_spec_FindWorld_122]
        rw [if_pos (by simp; omega)]
        simp only [sign_eta', g2, Option.bind_some, world_eta, i2]
        rw [if_pos ha]
    · refine ⟨y, el_impl_FindWorld_250 _ _ _ _ _ _ ?_, el_spec_FindWorld_122 _ _ _ _ _ _ ?_, y3⟩
      · simp only [ql_impl_FindWorld_250]
        rw [if_pos (by simp; omega)]
        simp only [sign_eta', g1, Option.bind_some, world_eta, i1]
        rw [if_neg ha, inc_nat (by omega)]
        exact y1
      · simp only [ql_spec_FindWorld_122]
        rw [if_pos (by simp; omega)]
        simp only [sign_eta', g2, Option.bind_some, world_eta, i2]
        rw [if_neg ha, inc_nat (by omega)]
        exact y2
theorem p_FindWorlds (s : TSign) (hs : s.1.length ≤ 1048576) (l : List (List TLit)) (hl : l.length ≤ 1048576) (hx : ∀ c ∈ l, smC c) (S : Int) : ∃ r, c_impl_FindWorld M s l S = some r ∧ c_spec_FindWorld M s l S = some r ∧ OkW s r ∧ (r.1.2.1 = true → asks s.1 l = true ∧ AH s r.1.1 l = true) := by
  have hc := (p_CountWorlds s hs S).2
  cases hgz : gS s.1 && szOK S with
  | false =>
    refine ⟨((w00, false, ()), ()), e_impl_FindWorld _ _ _ ?_, e_spec_FindWorld _ _ _ ?_, OkW0 s, by simp⟩
    · simp only [q_impl_FindWorld, sign_eta', p_impl_GoodSign s (by omega), Option.bind_some]
      cases hg : gS s.1 with
      | false => rw [if_pos (by rfl)]; rfl
      | true =>
        rw [hg, Bool.true_and] at hgz
        rw [if_neg (by simp), p_isSize]
        simp only [Option.bind_some, hgz]
        rw [if_pos (by rfl)]; rfl
    · simp only [q_spec_FindWorld, sign_eta', hc, Option.bind_some, rCW, hgz]
      rw [if_pos (by rfl)]; rfl
  | true =>
    have h' := hgz
    simp only [Bool.and_eq_true] at h'
    obtain ⟨hg, hS⟩ := h'
    obtain ⟨h1, h3⟩ := szOK_bd hS
    have hcw := CW_bd h1 h3 s.1 1 (by omega) (by omega)
    by_cases hok : CW S s.1 1 ≤ 3000 ∧ asks s.1 l = true
    · obtain ⟨many, hmany⟩ : ∃ m : Nat, CW S s.1 1 = (m : Int) := ⟨(CW S s.1 1).toNat, by omega⟩
      obtain ⟨y, y1, y2, y3⟩ := p_find_loop s hg l hok.2 S h1 h3 w00 many (by omega) many 0 (by omega)
      rw [show ((0 : Nat) : Int) = 0 from rfl] at y1 y2
      have hi : ∀ r, (y.elim (fun _ => some ((w00, false, ()), ())) (fun r => some r)) = some r → c_impl_FindWorld M s l S = some r := by
        intro r hr
        apply e_impl_FindWorld
        simp only [q_impl_FindWorld, sign_eta', p_impl_GoodSign s (by omega), p_isSize, p_areAsked s hg l hl hx, p_countWorlds h1 h3 s hg, hg, hS, hok.2, Option.bind_some]
        rw [if_neg (by simp), if_neg (by simp), if_neg (by simp), if_neg (by simp; omega), hmany, show ((0 : Int), ([] : List (List Int)), ()) = w00 from rfl, y1]
        exact hr
      have hp : ∀ r, (y.elim (fun _ => some ((w00, false, ()), ())) (fun r => some r)) = some r → c_spec_FindWorld M s l S = some r := by
        intro r hr
        apply e_spec_FindWorld
        simp only [q_spec_FindWorld, sign_eta', hc, p_l5Clauses s hg l hl hx, hok.2, Option.bind_some, rCW, hgz, if_true]
        rw [if_neg (by simp), if_neg (by simp; omega), if_neg (by simp), hmany, show ((0 : Int), ([] : List (List Int)), ()) = w00 from rfl, y2]
        exact hr
      rcases y3 with rfl | ⟨W, rfl, q1, q2, q3⟩
      · exact ⟨_, hi _ rfl, hp _ rfl, OkW0 s, by simp⟩
      · exact ⟨_, hi _ rfl, hp _ rfl, ⟨q1, fun _ => ⟨hg, q2⟩⟩, fun _ => ⟨hok.2, q3⟩⟩
    · refine ⟨((w00, false, ()), ()), e_impl_FindWorld _ _ _ ?_, e_spec_FindWorld _ _ _ ?_, OkW0 s, by simp⟩
      · simp only [q_impl_FindWorld, sign_eta', p_impl_GoodSign s (by omega), p_isSize, p_areAsked s hg l hl hx, p_countWorlds h1 h3 s hg, hg, hS, Option.bind_some]
        rw [if_neg (by simp), if_neg (by simp)]
        cases ha : asks s.1 l with
        | false => rw [if_pos (by rfl)]; rfl
        | true => rw [if_neg (by simp), if_pos (by simp; rw [ha] at hok; simp at hok; omega)]; rfl
      · simp only [q_spec_FindWorld, sign_eta', hc, p_l5Clauses s hg l hl hx, Option.bind_some, rCW, hgz, if_true]
        rw [if_neg (by simp)]
        by_cases q1 : CW S s.1 1 ≤ 3000
        · have ha : asks s.1 l = false := by
            cases ha : asks s.1 l with
            | false => rfl
            | true => exact absurd ⟨q1, ha⟩ hok
          rw [if_neg (by simp; omega), ha, if_pos (by rfl)]; rfl
        · rw [if_pos (by simp; omega)]; rfl
end Go.Proofs.YtkdceefdipljaaaGreatFwo.Ev

/- Plain laws: what is drawn. No condition but that the bytes are bytes and fit in memory. -/
namespace Go.Proofs.YtkdceefdipljaaaGreatFwo.Ev
open Go
set_option autoImplicit false
set_option linter.unusedVariables false
set_option linter.unusedSimpArgs false

abbrev TCur := List Int × Int × Int × Unit
theorem cur_eta (c : TCur) : (c.1, c.2.1, c.2.2.1, ()) = c := rfl
/-- A reader of choices over some bytes, no further than a place. -/
def Cu (code : List Int) (j : Int) (c : TCur) : Prop := c.1 = code ∧ 0 ≤ c.2.1 ∧ c.2.1 ≤ j
def isBytes (code : List Int) : Prop := code.length ≤ 1048576 ∧ ∀ b ∈ code, 0 ≤ b ∧ b ≤ 255

theorem and255 (x : Int) : 0 ≤ bitsI .and .u64 x 255 ∧ bitsI .and .u64 x 255 ≤ 255 := by
  have h : (BitVec.ofInt 64 x &&& BitVec.ofInt 64 255).toNat ≤ 255 := by
    rw [BitVec.toNat_and]
    exact Nat.le_trans Nat.and_le_right (by decide)
  have e : bitsI .and .u64 x 255 = IntKind.u64.wrap (((BitVec.ofInt 64 x &&& BitVec.ofInt 64 255).toNat : Nat) : Int) := rfl
  rw [e, wu64 (by omega) (by omega)]
  omega

theorem p_next {code : List Int} (hb : isBytes code) {j : Int} (hj : j ≤ 1000000000) {c : TCur} (hc : Cu code j c) : ∃ x c', c_spec_l1Cur_next M c = some ((x, ()), (c', ())) ∧ 0 ≤ x ∧ x ≤ 255 ∧ Cu code (j + 1) c' := by
  obtain ⟨h1, h2, h3⟩ := hc
  have hin : IntKind.i64.wrap (c.2.1 + 1) = c.2.1 + 1 := w64 (by omega) (by omega)
  have tail : ∀ (x0 : Int), 0 ≤ x0 → x0 ≤ 255 → (∃ r : (Int × Unit) × (TCur × Unit), (if (decide ((IntKind.i64.wrap (c.2.1 + (1 : Int))) ≤ (List.length c.1 : Int))) = true then (some ((x0, ()), ((c.1, (IntKind.i64.wrap (c.2.1 + (1 : Int))), (IntKind.u64.wrap ((IntKind.u64.wrap ((IntKind.u64.wrap (c.2.2.1 * (6364136223846793005 : Int))) + (IntKind.u64.wrap x0))) + (1442695040888963407 : Int))), ()), ()))) else (if (40 : Int) < 0 then none else (some (((IntKind.i64.wrap (bitsI .and .u64 (shrI .u64 (IntKind.u64.wrap ((IntKind.u64.wrap ((IntKind.u64.wrap (c.2.2.1 * (6364136223846793005 : Int))) + (IntKind.u64.wrap x0))) + (1442695040888963407 : Int))) (40 : Int)) (255 : Int))), ()), ((c.1, (IntKind.i64.wrap (c.2.1 + (1 : Int))), (IntKind.u64.wrap ((IntKind.u64.wrap ((IntKind.u64.wrap (c.2.2.1 * (6364136223846793005 : Int))) + (IntKind.u64.wrap x0))) + (1442695040888963407 : Int))), ()), ()))))) = some r ∧ 0 ≤ r.1.1 ∧ r.1.1 ≤ 255 ∧ Cu code (j + 1) r.2.1) := by
    intro x0 g0 g1
    rw [hin]
    by_cases hq : c.2.1 + 1 ≤ (List.length c.1 : Int)
    · rw [if_pos (by simpa using hq)]
      exact ⟨_, rfl, g0, g1, h1, by show 0 ≤ c.2.1 + 1; omega, by show c.2.1 + 1 ≤ j + 1; omega⟩
    · rw [if_neg (by simpa using hq), if_neg (by omega)]
      have ha := and255 (shrI .u64 (IntKind.u64.wrap ((IntKind.u64.wrap ((IntKind.u64.wrap (c.2.2.1 * (6364136223846793005 : Int))) + (IntKind.u64.wrap x0))) + (1442695040888963407 : Int))) (40 : Int))
      refine ⟨_, rfl, ?_, ?_, h1, by show 0 ≤ c.2.1 + 1; omega, by show c.2.1 + 1 ≤ j + 1; omega⟩
      · show 0 ≤ IntKind.i64.wrap _
        rw [w64 (by omega) (by omega)]; exact ha.1
      · show IntKind.i64.wrap _ ≤ 255
        rw [w64 (by omega) (by omega)]; exact ha.2
  by_cases hl : c.2.1 < (List.length c.1 : Int)
  · obtain ⟨m, hm⟩ : ∃ m : Nat, c.2.1 = (m : Int) := ⟨c.2.1.toNat, by omega⟩
    have hml : m < c.1.length := by omega
    have hbb := hb.2 (c.1[m]) (by rw [← h1]; exact List.getElem_mem hml)
    obtain ⟨r, r1, r2, r3, r4⟩ := tail c.1[m] hbb.1 hbb.2
    refine ⟨r.1.1, r.2.1, e_spec_l1Cur_next _ ?_, r2, r3, r4⟩
    simp only [q_spec_l1Cur_next]
    have hix : idx c.1 c.2.1 = some c.1[m] := by rw [hm, idx_lt hml]
    rw [if_pos (by simpa using hl), hix]
    simp only [Option.bind_some]
    rw [w64 (x := c.1[m]) (by omega) (by omega)]
    simp only [Option.bind_some, Sum.elim_inl]
    exact r1
  · obtain ⟨r, r1, r2, r3, r4⟩ := tail 0 (by omega) (by omega)
    refine ⟨r.1.1, r.2.1, e_spec_l1Cur_next _ ?_, r2, r3, r4⟩
    simp only [q_spec_l1Cur_next]
    rw [if_neg (by simpa using hl)]
    simp only [Option.bind_some, Sum.elim_inl]
    exact r1

theorem p_pick {code : List Int} (hb : isBytes code) {j : Int} (hj : j ≤ 100000000) {c : TCur} (hc : Cu code j c) (n : Int) (hn : n ≤ 1000000000) : ∃ x c', c_spec_l1Cur_pick M c n = some ((x, ()), (c', ())) ∧ 0 ≤ x ∧ (x < n ∨ x = 0) ∧ Cu code (j + 2) c' := by
  by_cases h1 : n ≤ 1
  · refine ⟨0, c, e_spec_l1Cur_pick _ _ ?_, by omega, .inr rfl, hc.1, hc.2.1, by have := hc.2.2; omega⟩
    simp only [q_spec_l1Cur_pick]
    rw [if_pos (by simpa using h1)]
  · obtain ⟨x, c', n1, n2, n3, n4⟩ := p_next hb (by omega) hc
    by_cases h2 : n > 200
    · obtain ⟨y, c'', m1, m2, m3, m4⟩ := p_next hb (by omega) n4
      have hw : IntKind.i64.wrap (IntKind.i64.wrap (x * 256) + y) = x * 256 + y := by rw [w64 (x := x * 256) (by omega) (by omega), w64 (by omega) (by omega)]
      refine ⟨Int.tmod (x * 256 + y) n, c'', e_spec_l1Cur_pick _ _ ?_, Int.tmod_nonneg _ (by omega), .inl (Int.tmod_lt_of_pos _ (by omega)), m4.1, m4.2.1, by have := m4.2.2; omega⟩
      simp only [q_spec_l1Cur_pick]
      rw [if_neg (by simpa using h1), cur_eta, n1]
      simp only [Option.bind_some]
      rw [if_pos (by simpa using h2), cur_eta, m1]
      simp only [Option.bind_some, Sum.elim_inl]
      rw [if_neg (by omega), hw]
    · refine ⟨Int.tmod x n, c', e_spec_l1Cur_pick _ _ ?_, Int.tmod_nonneg _ (by omega), .inl (Int.tmod_lt_of_pos _ (by omega)), n4.1, n4.2.1, by have := n4.2.2; omega⟩
      simp only [q_spec_l1Cur_pick]
      rw [if_neg (by simpa using h1), cur_eta, n1]
      simp only [Option.bind_some]
      rw [if_neg (by simpa using h2)]
      simp only [Option.bind_some, Sum.elim_inl]
      rw [if_neg (by omega)]

theorem p_one {code : List Int} (hb : isBytes code) {j : Int} (hj : j ≤ 100000000) {c : TCur} (hc : Cu code j c) (n : Int) (hn : n ≤ 1000000000) : ∃ x c', c_spec_l1Cur_one M c n = some ((x, ()), (c', ())) ∧ Cu code (j + 2) c' := by
  obtain ⟨x, c', n1, _, _, n4⟩ := p_pick hb hj hc n hn
  refine ⟨x == 0, c', e_spec_l1Cur_one _ _ ?_, n4⟩
  simp only [q_spec_l1Cur_one, cur_eta, n1, Option.bind_some]
theorem cu0 (code : List Int) : Cu code 0 (code, 0, 0, ()) := ⟨rfl, Int.le_refl _, Int.le_refl _⟩

end Go.Proofs.YtkdceefdipljaaaGreatFwo.Ev

/- Plain laws: that something is answered, and what holds of it. No condition. -/
namespace Go.Proofs.YtkdceefdipljaaaGreatFwo.Ev
open Go
set_option autoImplicit false
set_option linter.unusedVariables false
set_option linter.unusedSimpArgs false

/-- Something is answered, and this holds of it. -/
def Okk {α : Type} (P : α → Prop) (o : Option α) : Prop := ∃ x, o = some x ∧ P x
theorem Okk.pure {α : Type} {P : α → Prop} {x : α} (h : P x) : Okk P (some x) := ⟨x, rfl, h⟩
theorem Okk.bind {α β : Type} {P : α → Prop} {Q : β → Prop} {o : Option α} {f : α → Option β} (h : Okk P o) (k : ∀ x, P x → Okk Q (f x)) : Okk Q (o.bind f) := by
  obtain ⟨x, rfl, hx⟩ := h
  exact k x hx
theorem Okk.ite {α : Type} {P : α → Prop} {c : Prop} [Decidable c] {a b : Option α} (h : c → Okk P a) (k : ¬ c → Okk P b) : Okk P (if c then a else b) := by
  by_cases hc : c
  · rw [if_pos hc]; exact h hc
  · rw [if_neg hc]; exact k hc
theorem Okk.iteT {α : Type} {P : α → Prop} {c : Prop} [Decidable c] {a b : Option α} (hc : c) (h : Okk P a) : Okk P (if c then a else b) := by rw [if_pos hc]; exact h
theorem Okk.iteF {α : Type} {P : α → Prop} {c : Prop} [Decidable c] {a b : Option α} (hc : ¬ c) (h : Okk P b) : Okk P (if c then a else b) := by rw [if_neg hc]; exact h
theorem Okk.mono {α : Type} {P Q : α → Prop} {o : Option α} (h : Okk P o) (k : ∀ x, P x → Q x) : Okk Q o := by
  obtain ⟨x, hx, p⟩ := h
  exact ⟨x, hx, k x p⟩
theorem Okk.lift {α : Type} {P : α → Prop} {o c : Option α} (h : Okk P o) (k : ∀ {r}, o = some r → c = some r) : Okk P c := by
  obtain ⟨x, hx, p⟩ := h
  exact ⟨x, k hx, p⟩
theorem Okk.idx {α : Type} {l : List α} {i : Int} (h : 0 ≤ i) (k : i < l.length) : Okk (fun x => x ∈ l) (idx l i) := by
  obtain ⟨m, rfl⟩ : ∃ m : Nat, i = (m : Int) := ⟨i.toNat, by omega⟩
  have hm : m < l.length := by omega
  exact ⟨l[m], idx_lt hm, List.getElem_mem hm⟩
theorem Okk.get {α : Type} {l : List α} {i : Nat} (k : i < l.length) : Okk (fun x => x ∈ l) (l[i]?) := ⟨l[i], by simp [k], List.getElem_mem k⟩

theorem Cu.mono {code : List Int} {i j : Int} {c : TCur} (h : Cu code i c) (k : i ≤ j) : Cu code j c := ⟨h.1, h.2.1, by have := h.2.2; omega⟩
section
variable {code : List Int} (hb : isBytes code) {j : Int} {c : TCur} (hc : Cu code j c)
include hb hc
theorem d_next (hj : j ≤ 1000000000) : Okk (fun r => 0 ≤ r.1.1 ∧ r.1.1 ≤ 255 ∧ Cu code (j + 1) r.2.1) (c_spec_l1Cur_next M c) := by
  obtain ⟨x, c', h, h1, h2, h3⟩ := p_next hb hj hc
  exact ⟨_, h, h1, h2, h3⟩
theorem d_pick (n : Int) (hj : j ≤ 100000000) (hn : n ≤ 1000000000) : Okk (fun r => 0 ≤ r.1.1 ∧ (r.1.1 < n ∨ r.1.1 = 0) ∧ Cu code (j + 2) r.2.1) (c_spec_l1Cur_pick M c n) := by
  obtain ⟨x, c', h, h1, h2, h3⟩ := p_pick hb hj hc n hn
  exact ⟨_, h, h1, h2, h3⟩
theorem d_one (n : Int) (hj : j ≤ 100000000) (hn : n ≤ 1000000000) : Okk (fun r => Cu code (j + 2) r.2.1) (c_spec_l1Cur_one M c n) := by
  obtain ⟨x, c', h, h1⟩ := p_one hb hj hc n hn
  exact ⟨_, h, h1⟩
end

end Go.Proofs.YtkdceefdipljaaaGreatFwo.Ev

/- Plain laws: signatures and terms that are drawn are answered, and small. No condition but sizes. -/
namespace Go.Proofs.YtkdceefdipljaaaGreatFwo.Ev
open Go
set_option autoImplicit false
set_option linter.unusedVariables false
set_option linter.unusedSimpArgs false

/-- A signature as it is drawn. -/
def SgD (a : List Int) : Prop := a.length ≤ 10 ∧ ∀ x ∈ a, 0 ≤ x ∧ x ≤ 3
theorem dec64 {x : Int} (h : -9223372036854775807 ≤ x) (k : x < 9223372036854775808) : IntKind.i64.wrap (x - 1) = x - 1 := w64 (by omega) (by omega)
section
variable {code : List Int} (hb : isBytes code)
include hb
theorem d_sign {j : Int} (hj : j ≤ 1000000) {c : TCur} (hc : Cu code j c) : Okk (fun r => SgD r.1.1.1 ∧ Cu code (j + 2) r.2.1) (c_spec_l1Cur_sign M c) := by
  refine Okk.lift ?_ (e_spec_l1Cur_sign c)
  simp only [q_spec_l1Cur_sign]
  refine Okk.bind (P := fun y => ∃ c' a, y = .inl (c', ([], ()), (a, ()), ()) ∧ SgD a ∧ Cu code (j + 2) c') ?_ ?_
  · refine Okk.bind (d_pick hb hc 40 (by omega) (by omega)) ?_
    rintro ⟨⟨x, ⟨⟩⟩, ⟨c', ⟨⟩⟩⟩ ⟨_, _, h⟩
    refine Okk.ite (fun _ => .pure ⟨c', _, rfl, by simp [SgD], h⟩) fun _ => Okk.ite (fun _ => .pure ⟨c', _, rfl, by simp [SgD], h⟩) fun _ => Okk.ite (fun _ => .pure ⟨c', _, rfl, by simp [SgD], h⟩) fun _ => .pure ⟨c', _, rfl, by simp [SgD], h⟩
  · rintro _ ⟨c', a, rfl, h1, h2⟩
    exact .pure ⟨h1, h2⟩

theorem d_term_step {a : List Int} (ha : SgD a) (vars : Int) (hv : vars ≤ 1000) (deep : Int) {j : Int} (hj : j ≤ 1000000) {c : TCur} (hc : Cu code j c) (N : Nat) (hN : 1 ≤ N) (K : Int) (hK : j + 6 ≤ K)
    (hL : 1 < deep → ∀ (n v : Int) (c4 : TCur), 0 ≤ v → v ≤ 3 → Cu code (j + 6) c4 → Okk (fun y => ∃ (c5 : TCur) (t : List Int), y = .inl (c5, t, ()) ∧ 0 < t.length ∧ t.length ≤ N ∧ Cu code K c5) (l_spec_l1Cur_term_2042 M c4 deep vars (a, ()) [n] v)) :
    Okk (fun r => r.1.1.length ≤ N ∧ 0 < r.1.1.length ∧ Cu code K r.2.1) (c_spec_l1Cur_term M c (a, ()) deep vars) := by
  refine Okk.lift ?_ (e_spec_l1Cur_term c (a, ()) deep vars)
  simp only [q_spec_l1Cur_term, cur_eta]
  have hal := ha.1
  refine Okk.ite (fun _ => .pure ⟨hN, by simp, hc.mono (by omega)⟩) fun h0 => ?_
  have hpos : 0 < a.length := by simp at h0; exact List.length_pos_iff.2 h0
  have A : ∀ (x : Int) (c3 : TCur), 0 ≤ x → (x < (a.length : Int) ∨ x = 0) → Cu code (j + 4) c3 → Okk (fun y => ∃ (c4 : TCur) (n : Int), y = .inl (c4, deep, vars, (a, ()), n, ()) ∧ 0 ≤ n ∧ n < a.length ∧ Cu code (j + 6) c4) ((((idx a x).bind fun x5 => (if (decide (x5 > (0 : Int))) = true then (if (decide (deep ≤ (1 : Int))) = true then ((c_spec_l1Cur_pick M c3 (List.length a : Int)).bind fun r6 => (if (2 : Int) = 0 then none else (some (.inl ((r6.2.1.1, r6.2.1.2.1, r6.2.1.2.2.1, ()), deep, vars, (a, ()), (IntKind.i64.wrap (Int.tdiv r6.1.1 (2 : Int))), ()))))) else (some (.inl (c3, deep, vars, (a, ()), x, ())))) else (some (.inl (c3, deep, vars, (a, ()), x, ()))))) : Option ((((List Int) × Int × Int × Unit) × Int × Int × ((List Int) × Unit) × Int × Unit) ⊕ ((List Int) × Unit) × (((List Int) × Int × Int × Unit) × Unit)))) := by
    intro x c3 hx0 hx1 hc3
    refine Okk.bind (Okk.idx hx0 (by omega)) fun y hy => ?_
    refine Okk.ite (fun _ => Okk.ite (fun _ => ?_) fun _ => .pure ⟨c3, x, rfl, hx0, by omega, hc3.mono (by omega)⟩) fun _ => .pure ⟨c3, x, rfl, hx0, by omega, hc3.mono (by omega)⟩
    refine Okk.bind (d_pick hb hc3 _ (by omega) (by omega)) ?_
    rintro ⟨⟨z, ⟨⟩⟩, ⟨c4, ⟨⟩⟩⟩ ⟨h1, h2, h3⟩
    simp only at h1 h2 h3
    have h5 := Int.tdiv_nonneg h1 (show (0 : Int) ≤ 2 by omega)
    have h6 : Int.tdiv z 2 ≤ z := by rw [Int.tdiv_eq_ediv_of_nonneg h1]; omega
    refine Okk.iteF (by omega) (.pure ⟨c4, _, rfl, ?_, ?_, h3.mono (by omega)⟩)
    · simp only; rw [w64 (by omega) (by omega)]; exact h5
    · simp only; rw [w64 (by omega) (by omega)]; omega
  have B : ∀ (n : Int) (c4 : TCur), 0 ≤ n → n < (a.length : Int) → Cu code (j + 6) c4 → Okk (fun r : ((List Int) × Unit) × (TCur × Unit) => r.1.1.length ≤ N ∧ 0 < r.1.1.length ∧ Cu code K r.2.1) ((idx a n).bind fun x7 => (if (decide (x7 > (0 : Int))) = true then (if (decide (deep ≤ (1 : Int))) = true then (some ((([(0 : Int)] : List Int), ()), (c4, ()))) else ((idx a n).bind fun x8 => ((l_spec_l1Cur_term_2042 M c4 deep vars (a, ()) ([n] : List Int) x8).bind (Sum.elim (fun y9 => (some ((y9.2.1, ()), ((y9.1.1, y9.1.2.1, y9.1.2.2.1, ()), ())))) (fun r10 => (some r10)))))) else ((idx a n).bind fun x11 => ((l_spec_l1Cur_term_2042 M c4 deep vars (a, ()) ([n] : List Int) x11).bind (Sum.elim (fun y12 => (some ((y12.2.1, ()), ((y12.1.1, y12.1.2.1, y12.1.2.2.1, ()), ())))) (fun r13 => (some r13))))))) := by
    intro n c4 hn0 hn1 hc4
    obtain ⟨v, hv1, hv2⟩ := Okk.idx (l := a) hn0 hn1
    rw [hv1]
    simp only [Option.bind_some]
    have := ha.2 v hv2
    refine Okk.ite (fun hv3 => ?_) fun hv3 => ?_
    · refine Okk.ite (fun _ => .pure ⟨hN, by simp, hc4.mono (by omega)⟩) fun hd => ?_
      refine Okk.bind (hL (by simp at hd; omega) n v c4 (by omega) (by omega) hc4) ?_
      rintro _ ⟨c5, t, rfl, t1, t2, t3⟩
      exact .pure ⟨t2, t1, t3⟩
    · obtain rfl : v = 0 := by simp at hv3; omega
      have hl : l_spec_l1Cur_term_2042 M c4 deep vars (a, ()) [n] 0 = some (.inl (c4, [n], ())) := by
        apply el_spec_l1Cur_term_2042
        simp [ql_spec_l1Cur_term_2042, cur_eta]
      rw [hl]
      exact .pure ⟨hN, by simp, hc4.mono (by omega)⟩
  refine Okk.ite (fun _ => ?_) fun _ => ?_
  · refine Okk.bind (d_one hb hc 3 (by omega) (by omega)) ?_
    rintro ⟨⟨x, ⟨⟩⟩, ⟨c2, ⟨⟩⟩⟩ h2
    refine Okk.ite (fun _ => ?_) fun _ => ?_
    · refine Okk.bind (d_pick hb h2 vars (by omega) (by omega)) ?_
      rintro ⟨⟨y, ⟨⟩⟩, ⟨c3, ⟨⟩⟩⟩ ⟨_, _, h3⟩
      exact .pure ⟨hN, by simp, h3.mono (by omega)⟩
    · refine Okk.bind (d_pick hb h2 _ (by omega) (by omega)) ?_
      rintro ⟨⟨y, ⟨⟩⟩, ⟨c3, ⟨⟩⟩⟩ ⟨g1, g2, h3⟩
      refine Okk.bind (A y c3 g1 g2 (h3.mono (by omega))) ?_
      rintro _ ⟨c4, n, rfl, k1, k2, k3⟩
      exact B n c4 k1 k2 k3
  · refine Okk.bind (d_pick hb hc _ (by omega) (by omega)) ?_
    rintro ⟨⟨y, ⟨⟩⟩, ⟨c3, ⟨⟩⟩⟩ ⟨g1, g2, h3⟩
    refine Okk.bind (A y c3 g1 g2 (h3.mono (by omega))) ?_
    rintro _ ⟨c4, n, rfl, k1, k2, k3⟩
    exact B n c4 k1 k2 k3

/-- How many numbers a term of some levels takes at most, and how many draws. -/
def dl : Nat → Nat
  | 0 => 1
  | d + 1 => 1 + 3 * dl d
def dk : Nat → Int
  | 0 => 6
  | d + 1 => 6 + 3 * dk d
omit hb in
theorem dl_pos (d : Nat) : 1 ≤ dl d := by cases d <;> simp [dl]
omit hb in
theorem dk_pos (d : Nat) : 6 ≤ dk d := by
  induction d with
  | zero => simp [dk]
  | succ d ih => simp [dk]; omega
theorem d_term {a : List Int} (ha : SgD a) (vars : Int) (hv : vars ≤ 1000) : ∀ (d : Nat) (deep : Int) (j : Int) (c : TCur), deep ≤ (d : Int) + 1 → d ≤ 5 → j + dk d ≤ 200000 → Cu code j c → Okk (fun r => r.1.1.length ≤ dl d ∧ 0 < r.1.1.length ∧ Cu code (j + dk d) r.2.1) (c_spec_l1Cur_term M c (a, ()) deep vars) := by
  intro d
  induction d with
  | zero =>
    intro deep j c hd _ hj hc
    simp only [dk] at hj
    exact d_term_step hb ha vars hv deep (by omega) hc 1 (by omega) (j + 6) (by omega) (fun h => by omega)
  | succ d ih =>
    intro deep j c hd hd5 hj hc
    have hdl : dl d ≤ 1000 := by
      have : d ≤ 4 := by omega
      rcases d with _ | _ | _ | _ | _ | d <;> first | (simp [dl]; done) | omega
    have hdk : dk d ≤ 10000 := by
      rcases d with _ | _ | _ | _ | _ | d <;> first | (simp [dk]; done) | omega
    have hp := dk_pos d
    simp only [dk] at hj
    have loop : 1 < deep → ∀ (k : Nat) (out : List Int) (j' : Int) (c4 : TCur), k ≤ 3 → 0 < out.length → out.length + k * dl d ≤ 10000 → j' + k * dk d ≤ j + 6 + 3 * dk d → Cu code j' c4 → Okk (fun y => ∃ (c5 : TCur) (t : List Int), y = .inl (c5, t, ()) ∧ 0 < t.length ∧ t.length ≤ out.length + k * dl d ∧ Cu code (j' + k * dk d) c5) (l_spec_l1Cur_term_2042 M c4 deep vars (a, ()) out (k : Int)) := by
      intro hdeep k
      induction k with
      | zero =>
        intro out j' c4 _ h0 _ _ hc4
        refine Okk.lift ?_ (el_spec_l1Cur_term_2042 _ _ _ _ _ _)
        simp only [ql_spec_l1Cur_term_2042, cur_eta]
        refine Okk.iteF (by simp) (.pure ⟨c4, out, rfl, h0, by omega, hc4.mono (by simp)⟩)
      | succ k ihk =>
        intro out j' c4 hk h0 ho hj2 hc4
        have e1 : ((k + 1 : Nat) : Int) * dk d = k * dk d + dk d := by rw [Int.natCast_add, Int.add_mul]; simp
        have e2 : (k + 1) * dl d = k * dl d + dl d := by rw [Nat.add_mul]; simp
        have e3 : 0 ≤ (k : Int) * dk d := Int.mul_nonneg (by omega) (by omega)
        rw [e1] at hj2
        rw [e2] at ho
        refine Okk.lift ?_ (el_spec_l1Cur_term_2042 _ _ _ _ _ _)
        simp only [ql_spec_l1Cur_term_2042, cur_eta]
        refine Okk.iteT (by simp <;> omega) ?_
        rw [dec64 (x := deep) (by omega) (by omega), dec64 (x := ((k + 1 : Nat) : Int)) (by omega) (by omega), show ((k + 1 : Nat) : Int) - 1 = (k : Int) by omega]
        refine Okk.bind (ih (deep - 1) j' c4 (by omega) (by omega) (by omega) hc4) ?_
        rintro ⟨⟨t, ⟨⟩⟩, ⟨c5, ⟨⟩⟩⟩ ⟨g1, g2, g3⟩
        simp only at g1 g2 g3
        refine Okk.iteT (by simp only; omega) ?_
        refine Okk.mono (ihk (out ++ t) (j' + dk d) c5 (by omega) (by simp; omega) (by rw [List.length_append]; omega) (by omega) g3) ?_
        rintro _ ⟨c6, t', rfl, h1, h2, h3⟩
        refine ⟨c6, t', rfl, h1, ?_, h3.mono (by rw [e1]; omega)⟩
        rw [List.length_append] at h2
        rw [e2]; omega
    refine d_term_step hb ha vars hv deep (by omega) hc (dl (d + 1)) (dl_pos _) (j + dk (d + 1)) (by simp only [dk]; omega) ?_
    intro hdeep n v c4 hv0 hv3 hc4
    obtain ⟨k, rfl⟩ : ∃ m : Nat, v = (m : Int) := ⟨v.toNat, by omega⟩
    have e4 : (k : Int) * dk d ≤ 3 * dk d := Int.mul_le_mul_of_nonneg_right (by omega) (by omega)
    have e5 : k * dl d ≤ 3 * dl d := Nat.mul_le_mul_right _ (by omega)
    refine Okk.mono (loop hdeep k [n] (j + 6) c4 (by omega) (by simp) (by simp only [List.length_cons, List.length_nil]; omega) (by omega) hc4) ?_
    rintro _ ⟨c6, t', rfl, h1, h2, h3⟩
    refine ⟨c6, t', rfl, h1, ?_, h3.mono (by simp only [dk]; omega)⟩
    simp only [List.length_cons, List.length_nil] at h2
    simp only [dl]; omega

end
end Go.Proofs.YtkdceefdipljaaaGreatFwo.Ev

/- Plain laws: one of several numbers is drawn. No condition but sizes. -/
namespace Go.Proofs.YtkdceefdipljaaaGreatFwo.Ev
open Go
set_option autoImplicit false
set_option linter.unusedVariables false
set_option linter.unusedSimpArgs false

theorem p_among {code : List Int} (hb : isBytes code) {j : Int} (hj : j ≤ 100000000) {c : TCur} (hc : Cu code j c) (l : List Int) (hl : l.length ≤ 1000000) (hl0 : 0 < l.length) : ∃ x c', c_spec_l1Cur_among M c l = some ((x, ()), (c', ())) ∧ x ∈ l ∧ Cu code (j + 2) c' := by
  obtain ⟨x, c', n1, n2, n3, n4⟩ := p_pick hb hj hc l.length (by omega)
  obtain ⟨m, rfl⟩ : ∃ m : Nat, x = (m : Int) := ⟨x.toNat, by omega⟩
  have hm : m < l.length := by omega
  refine ⟨l[m], c', e_spec_l1Cur_among _ _ ?_, List.getElem_mem hm, n4⟩
  simp only [q_spec_l1Cur_among, cur_eta, n1, Option.bind_some]
  rw [idx_lt hm]
  rfl
section
variable {code : List Int} (hb : isBytes code) {j : Int} {c : TCur} (hc : Cu code j c)
include hb hc
theorem d_among (l : List Int) (hj : j ≤ 100000000) (hl : l.length ≤ 1000000) (hl0 : 0 < l.length) : Okk (fun r => r.1.1 ∈ l ∧ Cu code (j + 2) r.2.1) (c_spec_l1Cur_among M c l) := by
  obtain ⟨x, c', h, h1, h2⟩ := p_among hb hj hc l hl hl0
  exact ⟨_, h, h1, h2⟩
end
end Go.Proofs.YtkdceefdipljaaaGreatFwo.Ev

/- Plain laws: literals and clauses that are drawn are answered, and small. No condition but sizes. -/
namespace Go.Proofs.YtkdceefdipljaaaGreatFwo.Ev
open Go
set_option autoImplicit false
set_option linter.unusedVariables false
set_option linter.unusedSimpArgs false

section
variable {code : List Int} (hb : isBytes code)
include hb
/-- A literal, and a clause, of few numbers. -/
def liD (x : TLit) : Prop := x.2.1.length ≤ 100 ∧ x.2.2.1.length ≤ 100
theorem d_lit {a : List Int} (ha : SgD a) {j : Int} (hj : j ≤ 90000) {c : TCur} (hc : Cu code j c) : Okk (fun r => liD r.1.1 ∧ Cu code (j + 1000) r.2.1) (c_spec_l1Cur_lit M c (a, ())) := by
  refine Okk.lift ?_ (e_spec_l1Cur_lit c (a, ()))
  simp only [q_spec_l1Cur_lit, cur_eta]
  refine Okk.bind (d_one hb hc 3 (by omega) (by omega)) ?_
  rintro ⟨⟨b, ⟨⟩⟩, ⟨c1, ⟨⟩⟩⟩ h1
  refine Okk.bind (d_pick hb h1 3 (by omega) (by omega)) ?_
  rintro ⟨⟨n, ⟨⟩⟩, ⟨c2, ⟨⟩⟩⟩ ⟨n1, n2, h2⟩
  simp only at n1 n2 h2
  refine Okk.bind (d_term hb ha 3 (by omega) 3 (IntKind.i64.wrap (1 + n)) (j + 4) c2 (by rw [w64 (by omega) (by omega)]; omega) (by omega) (by simp only [dk]; omega) (h2.mono (by omega))) ?_
  rintro ⟨⟨t, ⟨⟩⟩, ⟨c3, ⟨⟩⟩⟩ ⟨t1, _, h3⟩
  simp only [dl, dk] at t1 h3
  refine Okk.bind (d_pick hb h3 2 (by omega) (by omega)) ?_
  rintro ⟨⟨m, ⟨⟩⟩, ⟨c4, ⟨⟩⟩⟩ ⟨m1, m2, h4⟩
  simp only at m1 m2 h4
  refine Okk.bind (d_term hb ha 3 (by omega) 3 (IntKind.i64.wrap (1 + m)) (j + 400) c4 (by rw [w64 (by omega) (by omega)]; omega) (by omega) (by simp only [dk]; omega) (h4.mono (by omega))) ?_
  rintro ⟨⟨u, ⟨⟩⟩, ⟨c5, ⟨⟩⟩⟩ ⟨u1, _, h5⟩
  simp only [dl, dk] at u1 h5
  refine Okk.bind (P := fun y => ∃ (c' : TCur) (z x : TLit), y = .inl (c', z, x, ()) ∧ liD x ∧ Cu code (j + 1000) c') ?_ ?_
  · refine Okk.bind (d_one hb h5 3 (by omega) (by omega)) ?_
    rintro ⟨⟨b2, ⟨⟩⟩, ⟨c6, ⟨⟩⟩⟩ h6
    refine Okk.ite (fun _ => .pure ⟨c6, _, _, rfl, ⟨by simp only; omega, by simp⟩, h6.mono (by omega)⟩) fun _ => .pure ⟨c6, _, _, rfl, ⟨by simp only; omega, by simp only; omega⟩, h6.mono (by omega)⟩
  · rintro _ ⟨c', z, x, rfl, h1, h2⟩
    exact .pure ⟨h1, h2⟩

theorem d_clause_loop {a : List Int} (ha : SgD a) : ∀ (k : Nat) (j : Int) (c : TCur) (out : List TLit), k ≤ 20 → out.length + k ≤ 20 → j + 1000 * k ≤ 90000 → (∀ x ∈ out, liD x) → Cu code j c → Okk (fun y => ∃ (c' : TCur) (o : List TLit), y = .inl (c', (a, ()), o, ()) ∧ o.length = out.length + k ∧ (∀ x ∈ o, liD x) ∧ Cu code (j + 1000 * k) c') (l_spec_l1Cur_clause_58 M c (a, ()) out (k : Int)) := by
  intro k
  induction k with
  | zero =>
    intro j c out _ _ _ hx hc
    refine Okk.lift ?_ (el_spec_l1Cur_clause_58 _ _ _ _)
    simp only [ql_spec_l1Cur_clause_58, cur_eta]
    exact Okk.iteF (by simp) (.pure ⟨c, out, rfl, by simp, hx, by simpa using hc⟩)
  | succ k ih =>
    intro j c out hk ho hj hx hc
    refine Okk.lift ?_ (el_spec_l1Cur_clause_58 _ _ _ _)
    simp only [ql_spec_l1Cur_clause_58, cur_eta]
    refine Okk.iteT (by simp <;> omega) ?_
    rw [dec64 (by omega) (by omega), show ((k + 1 : Nat) : Int) - 1 = (k : Int) by omega]
    refine Okk.bind (d_lit hb ha (by omega) hc) ?_
    rintro ⟨⟨x, ⟨⟩⟩, ⟨c1, ⟨⟩⟩⟩ ⟨h1, h2⟩
    refine Okk.iteT (by simp only [List.length_cons, List.length_nil]; omega) ?_
    · refine Okk.mono (ih (j + 1000) c1 (out ++ [x]) (by omega) (by simp; omega) (by omega) ?_ h2) ?_
      · intro y hy
        simp only [List.mem_append, List.mem_singleton] at hy
        rcases hy with hy | rfl
        · exact hx y hy
        · exact h1
      · rintro _ ⟨c', o, rfl, g1, g2, g3⟩
        exact ⟨c', o, rfl, by rw [g1, List.length_append]; simp only [List.length_cons, List.length_nil]; omega, g2, g3.mono (by omega)⟩

theorem d_clause_fill {a : List Int} (ha : SgD a) : ∀ (k : Nat) (j : Int) (c : TCur) (out : List TLit), out.length + k = 9 → j + 1010 * (k + 1) ≤ 90000 → (∀ x ∈ out, liD x) → Cu code j c → Okk (fun y => ∃ (c' : TCur) (o : List TLit), y = .inl (c', o, ()) ∧ o.length ≤ 9 ∧ (∀ x ∈ o, liD x) ∧ Cu code (j + 1010 * (k + 1)) c') (l_spec_l1Cur_clause_4052 M c (a, ()) out) := by
  intro k
  induction k with
  | zero =>
    intro j c out ho hj hx hc
    refine Okk.lift ?_ (el_spec_l1Cur_clause_4052 _ _ _)
    simp only [ql_spec_l1Cur_clause_4052, cur_eta]
    refine Okk.bind (d_pick hb hc 2 (by omega) (by omega)) ?_
    rintro ⟨⟨n, ⟨⟩⟩, ⟨c1, ⟨⟩⟩⟩ ⟨n1, n2, h1⟩
    simp only at n1 n2 h1
    simp only [w64 (x := 8 + n) (by omega) (by omega)]
    exact Okk.iteF (by simp; omega) (.pure ⟨c1, out, rfl, by omega, hx, h1.mono (by omega)⟩)
  | succ k ih =>
    intro j c out ho hj hx hc
    refine Okk.lift ?_ (el_spec_l1Cur_clause_4052 _ _ _)
    simp only [ql_spec_l1Cur_clause_4052, cur_eta]
    refine Okk.bind (d_pick hb hc 2 (by omega) (by omega)) ?_
    rintro ⟨⟨n, ⟨⟩⟩, ⟨c1, ⟨⟩⟩⟩ ⟨n1, n2, h1⟩
    simp only at n1 n2 h1
    refine Okk.ite (fun _ => ?_) fun _ => .pure ⟨c1, out, rfl, by omega, hx, h1.mono (by omega)⟩
    refine Okk.bind (d_lit hb ha (by omega) h1) ?_
    rintro ⟨⟨x, ⟨⟩⟩, ⟨c2, ⟨⟩⟩⟩ ⟨g1, g2⟩
    refine Okk.iteT (by simp only [List.length_cons, List.length_nil]; omega) ?_
    refine Okk.mono (ih (j + 1002) c2 (out ++ [x]) (by simp; omega) (by omega) ?_ (g2.mono (by omega))) ?_
    · intro y hy
      simp only [List.mem_append, List.mem_singleton] at hy
      rcases hy with hy | rfl
      · exact hx y hy
      · exact g1
    · rintro _ ⟨c', o, rfl, k1, k2, k3⟩
      exact ⟨c', o, rfl, k1, k2, k3.mono (by omega)⟩

theorem d_clause {a : List Int} (ha : SgD a) {j : Int} (hj : j ≤ 70000) {c : TCur} (hc : Cu code j c) : Okk (fun r => r.1.1.length ≤ 9 ∧ (∀ x ∈ r.1.1, liD x) ∧ Cu code (j + 20000) r.2.1) (c_spec_l1Cur_clause M c (a, ())) := by
  refine Okk.lift ?_ (e_spec_l1Cur_clause c (a, ()))
  simp only [q_spec_l1Cur_clause, cur_eta]
  refine Okk.bind (d_among hb hc [0, 1, 1, 1, 2, 2, 3] (by omega) (by simp) (by simp)) ?_
  rintro ⟨⟨n, ⟨⟩⟩, ⟨c1, ⟨⟩⟩⟩ ⟨n1, h1⟩
  simp only at n1 h1
  obtain ⟨k, rfl, hk⟩ : ∃ m : Nat, n = (m : Int) ∧ m ≤ 3 := ⟨n.toNat, by simp at n1; omega, by simp at n1; omega⟩
  refine Okk.bind (d_clause_loop hb ha k (j + 2) c1 [] (by omega) (by simp; omega) (by omega) (by simp) h1) ?_
  rintro _ ⟨c2, o, rfl, o1, o2, h2⟩
  simp only [List.length_nil, Nat.zero_add] at o1
  simp only [Sum.elim_inl]
  refine Okk.bind (P := fun y => ∃ (c' : TCur) (o : List TLit), y = .inl (c', (a, ()), o, ()) ∧ o.length ≤ 4 ∧ (∀ x ∈ o, liD x) ∧ Cu code (j + 3010) c') ?_ ?_
  · refine Okk.ite (fun ho => ?_) fun _ => .pure ⟨c2, o, rfl, by omega, o2, h2.mono (by omega)⟩
    refine Okk.bind (d_one hb h2 6 (by omega) (by omega)) ?_
    rintro ⟨⟨b, ⟨⟩⟩, ⟨c3, ⟨⟩⟩⟩ h3
    refine Okk.ite (fun _ => ?_) fun _ => .pure ⟨c3, o, rfl, by omega, o2, h3.mono (by omega)⟩
    refine Okk.bind (d_pick hb h3 _ (by omega) (by omega)) ?_
    rintro ⟨⟨i, ⟨⟩⟩, ⟨c4, ⟨⟩⟩⟩ ⟨i1, i2, h4⟩
    simp only at i1 i2 h4
    simp only [decide_eq_true_eq] at ho
    refine Okk.iteT (by simp only; omega) ?_
    refine Okk.bind (Okk.get (by simp only; omega)) fun x hx => ?_
    refine Okk.bind (d_one hb h4 3 (by omega) (by omega)) ?_
    rintro ⟨⟨b2, ⟨⟩⟩, ⟨c5, ⟨⟩⟩⟩ h5
    refine Okk.iteT (by simp only [List.length_cons, List.length_nil]; omega) (.pure ⟨c5, _, rfl, by simp; omega, ?_, h5.mono (by omega)⟩)
    intro y hy
    simp only [List.mem_append, List.mem_singleton] at hy
    have hxl := o2 x hx
    rcases hy with hy | rfl
    · exact o2 y hy
    · exact ⟨hxl.2, hxl.1⟩
  · rintro _ ⟨c3, o', rfl, q1, q2, h3⟩
    simp only [Sum.elim_inl]
    refine Okk.bind (P := fun y => ∃ (c' : TCur) (o : List TLit), y = .inl (c', (a, ()), o, ()) ∧ o.length ≤ 4 ∧ (∀ x ∈ o, liD x) ∧ Cu code (j + 3020) c') ?_ ?_
    · refine Okk.ite (fun ho => ?_) fun _ => .pure ⟨c3, o', rfl, by omega, q2, h3.mono (by omega)⟩
      refine Okk.bind (d_one hb h3 12 (by omega) (by omega)) ?_
      rintro ⟨⟨b, ⟨⟩⟩, ⟨c4, ⟨⟩⟩⟩ h4
      simp only [decide_eq_true_eq] at ho
      refine Okk.ite (fun _ => ?_) fun _ => .pure ⟨c4, o', rfl, by omega, q2, h4.mono (by omega)⟩
      refine Okk.iteT (by omega) ?_
      refine Okk.bind (Okk.get (by simp only [Int.toNat_zero]; omega)) fun x hx => ?_
      refine Okk.iteT (by omega) ?_
      refine Okk.bind (Okk.get (by simp only [Int.toNat_zero]; omega)) fun y hy => ?_
      refine .pure ⟨c4, _, rfl, by simp; omega, ?_, h4.mono (by omega)⟩
      intro z hz
      rcases List.mem_or_eq_of_mem_set hz with hz | rfl
      · exact q2 z hz
      · exact ⟨(q2 y hy).1, (q2 x hx).1⟩
    · rintro _ ⟨c4, o'', rfl, q3, q4, h4⟩
      simp only [Sum.elim_inl]
      refine Okk.bind (P := fun y => ∃ (c' : TCur) (o : List TLit), y = .inl (c', o, ()) ∧ o.length ≤ 9 ∧ (∀ x ∈ o, liD x) ∧ Cu code (j + 20000) c') ?_ ?_
      · refine Okk.bind (d_pick hb h4 60 (by omega) (by omega)) ?_
        rintro ⟨⟨i, ⟨⟩⟩, ⟨c5, ⟨⟩⟩⟩ ⟨_, _, h5⟩
        simp only at h5
        refine Okk.ite (fun _ => ?_) fun _ => Okk.ite (fun _ => ?_) fun _ => .pure ⟨c5, o'', rfl, by omega, q4, h5.mono (by omega)⟩
        · refine Okk.bind (d_clause_fill hb ha (9 - o''.length) (j + 3022) c5 o'' (by omega) (by omega) q4 (h5.mono (by omega))) ?_
          rintro _ ⟨c6, o3, rfl, r1, r2, h6⟩
          exact .pure ⟨c6, o3, rfl, r1, r2, h6.mono (by omega)⟩
        · refine Okk.iteT (by simp only [List.length_cons, List.length_nil]; omega) (.pure ⟨c5, _, rfl, by simp; omega, ?_, h5.mono (by omega)⟩)
          intro y hy
          simp only [List.mem_append, List.mem_singleton] at hy
          rcases hy with hy | rfl
          · exact q4 y hy
          · exact ⟨by simp, by simp⟩
      · rintro _ ⟨c6, o3, rfl, r1, r2, h6⟩
        exact .pure ⟨r1, r2, h6⟩
end

end Go.Proofs.YtkdceefdipljaaaGreatFwo.Ev

/- Plain laws: the laws' comparing of lists; whether bytes are too many. No condition but sizes. -/
namespace Go.Proofs.YtkdceefdipljaaaGreatFwo.Ev
open Go
set_option autoImplicit false
set_option linter.unusedVariables false
set_option linter.unusedSimpArgs false

theorem p_sameInts_loop (a : List Int) (ha : a.length ≤ 17592186044416) : ∀ k i : Nat, i + k = a.length → l_laws_sameInts_58 M a a a.length i = some (.inl ()) := by
  intro k
  induction k with
  | zero =>
    intro i hi
    apply el_laws_sameInts_58
    simp only [ql_laws_sameInts_58]
    rw [if_neg (by simp; omega)]
  | succ k ih =>
    intro i hi
    have h1 : i < a.length := by omega
    apply el_laws_sameInts_58
    simp only [ql_laws_sameInts_58]
    rw [if_pos (by simpa using h1), idx_lt h1, inc_nat (by omega)]
    simp only [Option.bind_some]
    rw [if_neg (by simp)]
    exact ih (i + 1) (by omega)
theorem p_sameInts (a : List Int) (ha : a.length ≤ 17592186044416) : c_laws_sameInts M a a = some ((true, ()), ()) := by
  apply e_laws_sameInts
  simp only [q_laws_sameInts]
  have := p_sameInts_loop a ha a.length 0 (by omega)
  rw [show ((0 : Nat) : Int) = 0 from rfl] at this
  rw [if_neg (by simp), this]
  rfl
/-- Whether bytes are too many. -/
theorem p_big (a b : List Int) (la : a.length ≤ 9223372036854775807) (lb : b.length ≤ 9223372036854775807) : c_laws_big M a b = some ((decide (1048576 < a.length) || decide (1048576 - (a.length : Int) < b.length), ()), ()) := by
  apply e_laws_big
  simp only [q_laws_big]
  by_cases h : 1048576 < a.length
  · rw [if_pos (by simp; omega)]; simp [h]
  · rw [if_neg (by simp; omega), w64 (by omega) (by omega)]; simp [h]
end Go.Proofs.YtkdceefdipljaaaGreatFwo.Ev

/- Plain laws: worlds and clauses that are drawn; FnWorlds. No condition but that bytes are bytes and fit in memory. -/
namespace Go.Proofs.YtkdceefdipljaaaGreatFwo.Ev
open Go
set_option autoImplicit false
set_option linter.unusedVariables false
set_option linter.unusedSimpArgs false

theorem p_sameLists_loop (a : List (List Int)) (ha : a.length ≤ 1048576) (hx : ∀ x ∈ a, smS x) : ∀ k i : Nat, i + k = a.length → l_laws_sameLists_58 M a a a.length i = some (.inl ()) := by
  intro k
  induction k with
  | zero =>
    intro i hi
    apply el_laws_sameLists_58
    simp only [ql_laws_sameLists_58]
    rw [if_neg (by simp; omega)]
  | succ k ih =>
    intro i hi
    have h1 : i < a.length := by omega
    have h2 : a[i].length ≤ 1048576 := hx _ (List.getElem_mem h1)
    apply el_laws_sameLists_58
    simp only [ql_laws_sameLists_58]
    rw [if_pos (by simpa using h1), idx_lt h1, inc_nat (by omega)]
    simp only [Option.bind_some]
    rw [p_sameInts _ (by omega)]
    simp only [Option.bind_some]
    rw [if_neg (by simp)]
    exact ih (i + 1) (by omega)
theorem p_sameWorld (w : TWorld) (hw : smW w) : c_laws_sameWorld M w w = some ((true, ()), ()) := by
  have hl : c_laws_sameLists M w.2.1 w.2.1 = some ((true, ()), ()) := by
    apply e_laws_sameLists
    simp only [q_laws_sameLists]
    have := p_sameLists_loop w.2.1 hw.1 hw.2 w.2.1.length 0 (by omega)
    rw [show ((0 : Nat) : Int) = 0 from rfl] at this
    rw [if_neg (by simp), this]
    rfl
  apply e_laws_sameWorld
  simp only [q_laws_sameWorld, hl, Option.bind_some]
  rw [if_pos (by simp)]

section
variable {code : List Int} (hb : isBytes code)
include hb
theorem d_worldIn (w0 w1 : TWorld) (h1 : w1.1 ≤ 1000) (ar : List Int) (L i : Int) : ∀ (k : Nat) (j : Int) (c : TCur) (t : List Int), t.length + k ≤ 1000 → j + 2 * k ≤ 100000 → Cu code j c → Okk (fun y => ∃ (c' : TCur) (t' : List Int), y = .inl (c', w0, w1, t', ar, L, i, ()) ∧ t'.length = t.length + k ∧ Cu code (j + 2 * k) c') (l_spec_l1Cur_world_59802 M c w0 w1 t (k : Int) ar L i) := by
  intro k
  induction k with
  | zero =>
    intro j c t _ _ hc
    refine Okk.lift ?_ (el_spec_l1Cur_world_59802 _ _ _ _ _ _ _ _)
    simp only [ql_spec_l1Cur_world_59802, cur_eta, world_eta]
    exact Okk.iteF (by simp) (.pure ⟨c, t, rfl, by omega, hc.mono (by omega)⟩)
  | succ k ih =>
    intro j c t ht hj hc
    refine Okk.lift ?_ (el_spec_l1Cur_world_59802 _ _ _ _ _ _ _ _)
    simp only [ql_spec_l1Cur_world_59802, cur_eta, world_eta]
    refine Okk.iteT (by simp <;> omega) ?_
    refine Okk.bind (d_pick hb hc w1.1 (by omega) (by omega)) ?_
    rintro ⟨⟨x, ⟨⟩⟩, ⟨c1, ⟨⟩⟩⟩ ⟨_, _, g⟩
    simp only [cur_eta] at g ⊢
    refine Okk.iteT (by simp; omega) ?_
    rw [w64 (x := ((k + 1 : Nat) : Int) - 1) (by omega) (by omega), show ((k + 1 : Nat) : Int) - 1 = (k : Int) by omega]
    refine Okk.mono (ih (j + 2) c1 (t ++ [x]) (by simp; omega) (by omega) g) ?_
    rintro _ ⟨c', t', rfl, q1, q2⟩
    exact ⟨c', t', rfl, by rw [q1]; simp; omega, q2.mono (by omega)⟩
theorem d_world_loop {a : List Int} (ha : SgD a) (w0 : TWorld) (S : Int) (h1 : 1 ≤ S) (h3 : S ≤ 3) : ∀ (k i : Nat) (j : Int) (c : TCur) (o : List (List Int)), i + k = a.length → o.length = i → (∀ y ∈ o, smS y) → j + 60 * k ≤ 100000 → Cu code j c → Okk (fun y => ∃ (c' : TCur) (o' : List (List Int)), y = .inl (c', w0, (S, o', ()), ()) ∧ o'.length ≤ 10 ∧ (∀ y ∈ o', smS y) ∧ Cu code (j + 60 * k) c') (l_spec_l1Cur_world_58 M c w0 (S, o, ()) a (a.length : Int) (i : Int)) := by
  have ha10 := ha.1
  intro k
  induction k with
  | zero =>
    intro i j c o hi ho hx hj hc
    refine Okk.lift ?_ (el_spec_l1Cur_world_58 _ _ _ _ _ _)
    simp only [ql_spec_l1Cur_world_58, cur_eta, world_eta]
    exact Okk.iteF (by simp; omega) (.pure ⟨c, o, rfl, by omega, hx, hc.mono (by omega)⟩)
  | succ k ih =>
    intro i j c o hi ho hx hj hc
    have hi1 : i < a.length := by omega
    have hxa := ha.2 _ (List.getElem_mem hi1)
    obtain ⟨e1, e2, e3⟩ := en_ok h1 h3 hxa.1 hxa.2
    refine Okk.lift ?_ (el_spec_l1Cur_world_58 _ _ _ _ _ _)
    simp only [ql_spec_l1Cur_world_58, cur_eta, world_eta]
    refine Okk.iteT (by simp <;> omega) ?_
    rw [idx_lt hi1]
    simp only [Option.bind_some, p_l5Long S h1 h3 _ hxa.1 hxa.2]
    rw [← e1]
    refine Okk.bind (d_worldIn hb w0 (S, o, ()) (by simp only; omega) a a.length i (en S a[i]) j c [] (by simp; omega) (by omega) hc) ?_
    rintro _ ⟨c1, t, rfl, t1, t2⟩
    simp only [Sum.elim_inl, cur_eta, world_eta]
    refine Okk.iteT (by simp; omega) ?_
    rw [inc_nat (by omega)]
    refine Okk.mono (ih (i + 1) (j + 60) c1 (o ++ [t]) (by omega) (by simp [ho]) ?_ (by omega) (t2.mono (by omega))) ?_
    · intro y hy
      rcases List.mem_append.1 hy with h | h
      · exact hx y h
      · rw [List.mem_singleton.1 h]; unfold smS; rw [t1]; simp; omega
    · rintro _ ⟨c', o', rfl, q1, q2, q3⟩
      exact ⟨c', o', rfl, q1, q2, q3.mono (by omega)⟩
theorem d_world {a : List Int} (ha : SgD a) {j : Int} (hj : j ≤ 50000) {c : TCur} (hc : Cu code j c) : Okk (fun r => smW r.1.1 ∧ Cu code (j + 1000) r.2.1) (c_spec_l1Cur_world M c (a, ())) := by
  have ha10 := ha.1
  refine Okk.lift ?_ (e_spec_l1Cur_world c (a, ()))
  simp only [q_spec_l1Cur_world, cur_eta]
  refine Okk.bind (d_pick hb hc 3 (by omega) (by omega)) ?_
  rintro ⟨⟨x, ⟨⟩⟩, ⟨c1, ⟨⟩⟩⟩ ⟨x1, x2, g⟩
  simp only [cur_eta] at x1 x2 g ⊢
  rw [w64 (x := 1 + x) (by omega) (by omega)]
  have lp := d_world_loop hb ha (0, [], ()) (1 + x) (by omega) (by omega) a.length 0 (j + 2) c1 [] (by omega) rfl (by simp) (by omega) g
  rw [show ((0 : Nat) : Int) = 0 from rfl] at lp
  refine Okk.bind lp ?_
  rintro _ ⟨c2, o, rfl, o1, o2, o3⟩
  simp only [Sum.elim_inl, cur_eta]
  refine Okk.bind (P := fun y => ∃ (c' : TCur) (w : TWorld), y = .inl (c', (0, [], ()), w, ()) ∧ smW w ∧ Cu code (j + 1000) c') ?_ ?_
  · refine Okk.bind (d_pick hb o3 40 (by omega) (by omega)) ?_
    rintro ⟨⟨z, ⟨⟩⟩, ⟨c3, ⟨⟩⟩⟩ ⟨_, _, k3⟩
    simp only [cur_eta] at k3 ⊢
    refine Okk.ite (fun _ => ?_) fun _ => Okk.ite (fun _ => ?_) fun _ => ?_
    · exact .pure ⟨c3, _, rfl, ⟨by simp only; omega, o2⟩, k3.mono (by omega)⟩
    · exact .pure ⟨c3, _, rfl, ⟨by simp, by simp⟩, k3.mono (by omega)⟩
    · exact .pure ⟨c3, _, rfl, ⟨by simp only; omega, o2⟩, k3.mono (by omega)⟩
  · rintro _ ⟨c', w, rfl, q1, q2⟩
    exact .pure ⟨q1, q2⟩
omit hb in
theorem liD_smC {c : List TLit} (h : c.length ≤ 9) (hx : ∀ x ∈ c, liD x) : smC c := ⟨by omega, fun x h' => by have := hx x h'; exact ⟨by have := this.1; omega, by have := this.2; omega⟩⟩
theorem d_clauses_loop {a : List Int} (ha : SgD a) : ∀ (k : Nat) (j : Int) (c : TCur) (o : List (List TLit)), o.length + k ≤ 3 → (∀ y ∈ o, smC y) → j + 20000 * k ≤ 90000 → Cu code j c → Okk (fun y => ∃ (c' : TCur) (o' : List (List TLit)), y = .inl (c', o', ()) ∧ o'.length ≤ 3 ∧ (∀ y ∈ o', smC y) ∧ Cu code (j + 20000 * k) c') (l_spec_l1Cur_clauses_58 M c (a, ()) o (k : Int)) := by
  intro k
  induction k with
  | zero =>
    intro j c o ho hx hj hc
    refine Okk.lift ?_ (el_spec_l1Cur_clauses_58 _ _ _ _)
    simp only [ql_spec_l1Cur_clauses_58, cur_eta]
    exact Okk.iteF (by simp) (.pure ⟨c, o, rfl, by omega, hx, hc.mono (by omega)⟩)
  | succ k ih =>
    intro j c o ho hx hj hc
    refine Okk.lift ?_ (el_spec_l1Cur_clauses_58 _ _ _ _)
    simp only [ql_spec_l1Cur_clauses_58, cur_eta]
    refine Okk.iteT (by simp <;> omega) ?_
    refine Okk.bind (d_clause hb ha (by omega) hc) ?_
    rintro ⟨⟨d, ⟨⟩⟩, ⟨c1, ⟨⟩⟩⟩ ⟨d1, d2, d3⟩
    simp only [cur_eta] at d1 d2 d3 ⊢
    refine Okk.iteT (by simp; omega) ?_
    rw [w64 (x := ((k + 1 : Nat) : Int) - 1) (by omega) (by omega), show ((k + 1 : Nat) : Int) - 1 = (k : Int) by omega]
    refine Okk.mono (ih (j + 20000) c1 (o ++ [d]) (by simp; omega) ?_ (by omega) d3) ?_
    · intro y hy
      rcases List.mem_append.1 hy with h | h
      · exact hx y h
      · rw [List.mem_singleton.1 h]; exact liD_smC d1 d2
    · rintro _ ⟨c', o', rfl, q1, q2, q3⟩
      exact ⟨c', o', rfl, q1, q2, q3.mono (by omega)⟩
theorem d_clauses {a : List Int} (ha : SgD a) {j : Int} (hj : j ≤ 10000) {c : TCur} (hc : Cu code j c) : Okk (fun r => r.1.1.length ≤ 3 ∧ (∀ y ∈ r.1.1, smC y) ∧ Cu code (j + 70000) r.2.1) (c_spec_l1Cur_clauses M c (a, ()) 3) := by
  refine Okk.lift ?_ (e_spec_l1Cur_clauses c (a, ()) 3)
  simp only [q_spec_l1Cur_clauses, cur_eta]
  rw [w64 (x := 3 + 1) (by omega) (by omega)]
  refine Okk.bind (d_pick hb hc _ (by omega) (by omega)) ?_
  rintro ⟨⟨x, ⟨⟩⟩, ⟨c1, ⟨⟩⟩⟩ ⟨x1, x2, g⟩
  simp only [cur_eta] at x1 x2 g ⊢
  obtain ⟨n, rfl⟩ : ∃ n : Nat, x = (n : Int) := ⟨x.toNat, by omega⟩
  refine Okk.bind (d_clauses_loop hb ha n (j + 2) c1 [] (by simp; omega) (by simp) (by omega) g) ?_
  rintro _ ⟨c', o', rfl, q1, q2, q3⟩
  exact .pure ⟨q1, q2, q3.mono (by omega)⟩
theorem d_size {j : Int} (hj : j ≤ 1000000) {c : TCur} (hc : Cu code j c) : Okk (fun r => 0 ≤ r.1.1 ∧ r.1.1 ≤ 4 ∧ Cu code (j + 2) r.2.1) (c_spec_l1Cur_size M c) := by
  refine Okk.lift ?_ (e_spec_l1Cur_size c)
  simp only [q_spec_l1Cur_size, cur_eta]
  refine Okk.bind (d_among hb hc [1, 2, 2, 2, 3, 0, 4] (by omega) (by simp) (by simp)) ?_
  rintro ⟨⟨x, ⟨⟩⟩, ⟨c1, ⟨⟩⟩⟩ ⟨h1, h2⟩
  simp only [List.mem_cons, List.not_mem_nil, or_false] at h1
  exact .pure ⟨by simp only; omega, by simp only; omega, h2⟩
theorem d_smallSign {j : Int} (hj : j ≤ 100000) {c : TCur} (hc : Cu code j c) : Okk (fun r => SgD r.1.1.1 ∧ Cu code (j + 4) r.2.1) (c_spec_l1Cur_smallSign M c) := by
  refine Okk.lift ?_ (e_spec_l1Cur_smallSign c)
  simp only [q_spec_l1Cur_smallSign, cur_eta]
  refine Okk.bind (d_one hb hc 12 (by omega) (by omega)) ?_
  rintro ⟨⟨x, ⟨⟩⟩, ⟨c1, ⟨⟩⟩⟩ g
  simp only [cur_eta] at g ⊢
  refine Okk.ite (fun _ => ?_) fun _ => .pure ⟨by simp [SgD], g.mono (by omega)⟩
  refine Okk.bind (d_sign hb (by omega) g) ?_
  rintro ⟨⟨⟨a, ⟨⟩⟩, ⟨⟩⟩, ⟨c2, ⟨⟩⟩⟩ ⟨h1, h2⟩
  exact .pure ⟨h1, h2.mono (by omega)⟩
theorem d_DrawFalseAt : Okk (fun r => SgD r.1.1.1 ∧ smW r.1.2.1 ∧ smC r.1.2.2.1) (c_spec_DrawFalseAt M code) := by
  refine Okk.lift ?_ (e_spec_DrawFalseAt code)
  simp only [q_spec_DrawFalseAt]
  refine Okk.bind (P := fun r => SgD r.1.1.1 ∧ smW r.1.2.1 ∧ smC r.1.2.2.1) (Okk.lift ?_ (e_spec_DrawHoldsIn code)) fun r h => .pure h
  simp only [q_spec_DrawHoldsIn]
  refine Okk.bind (d_sign hb (by omega) (cu0 code)) ?_
  rintro ⟨⟨⟨a, ⟨⟩⟩, ⟨⟩⟩, ⟨c1, ⟨⟩⟩⟩ ⟨h1, h2⟩
  refine Okk.bind (d_world hb h1 (by omega) h2) ?_
  rintro ⟨⟨w, ⟨⟩⟩, ⟨c2, ⟨⟩⟩⟩ ⟨h3, h4⟩
  refine Okk.bind (d_clause hb h1 (by omega) h4) ?_
  rintro ⟨⟨d, ⟨⟩⟩, ⟨c3, ⟨⟩⟩⟩ ⟨d1, d2, d3⟩
  exact .pure ⟨h1, h3, liD_smC d1 d2⟩
theorem d_DrawAllHold : Okk (fun r => SgD r.1.1.1 ∧ smW r.1.2.1 ∧ r.1.2.2.1.length ≤ 3 ∧ ∀ y ∈ r.1.2.2.1, smC y) (c_spec_DrawAllHold M code) := by
  refine Okk.lift ?_ (e_spec_DrawAllHold code)
  simp only [q_spec_DrawAllHold]
  refine Okk.bind (d_sign hb (by omega) (cu0 code)) ?_
  rintro ⟨⟨⟨a, ⟨⟩⟩, ⟨⟩⟩, ⟨c1, ⟨⟩⟩⟩ ⟨h1, h2⟩
  refine Okk.bind (d_world hb h1 (by omega) h2) ?_
  rintro ⟨⟨w, ⟨⟩⟩, ⟨c2, ⟨⟩⟩⟩ ⟨h3, h4⟩
  refine Okk.bind (d_clauses hb h1 (by omega) h4) ?_
  rintro ⟨⟨d, ⟨⟩⟩, ⟨c3, ⟨⟩⟩⟩ ⟨d1, d2, d3⟩
  exact .pure ⟨h1, h3, d1, d2⟩
theorem d_DrawFindWorld : Okk (fun r => SgD r.1.1.1 ∧ r.1.2.1.length ≤ 3 ∧ ∀ y ∈ r.1.2.1, smC y) (c_spec_DrawFindWorld M code) := by
  refine Okk.lift ?_ (e_spec_DrawFindWorld code)
  simp only [q_spec_DrawFindWorld]
  refine Okk.bind (d_smallSign hb (by omega) (cu0 code)) ?_
  rintro ⟨⟨⟨a, ⟨⟩⟩, ⟨⟩⟩, ⟨c1, ⟨⟩⟩⟩ ⟨h1, h2⟩
  refine Okk.bind (d_clauses hb h1 (by omega) h2) ?_
  rintro ⟨⟨d, ⟨⟩⟩, ⟨c3, ⟨⟩⟩⟩ ⟨d1, d2, d3⟩
  refine Okk.bind (d_size hb (by omega) d3) ?_
  rintro ⟨⟨x, ⟨⟩⟩, ⟨c4, ⟨⟩⟩⟩ _
  exact .pure ⟨h1, d1, d2⟩
theorem d_DrawWorldAt : Okk (fun r => SgD r.1.1.1) (c_spec_DrawWorldAt M code) := by
  refine Okk.lift ?_ (e_spec_DrawWorldAt code)
  simp only [q_spec_DrawWorldAt]
  refine Okk.bind (d_smallSign hb (by omega) (cu0 code)) ?_
  rintro ⟨⟨⟨a, ⟨⟩⟩, ⟨⟩⟩, ⟨c1, ⟨⟩⟩⟩ ⟨h1, h2⟩
  refine Okk.bind (d_size hb (by omega) h2) ?_
  rintro ⟨⟨x, ⟨⟩⟩, ⟨c2, ⟨⟩⟩⟩ ⟨_, _, g2⟩
  refine Okk.bind (d_pick hb g2 70 (by omega) (by omega)) ?_
  rintro ⟨⟨y, ⟨⟩⟩, ⟨c3, ⟨⟩⟩⟩ ⟨_, _, g3⟩
  refine Okk.bind (d_pick hb g3 20 (by omega) (by omega)) ?_
  rintro ⟨⟨z, ⟨⟩⟩, ⟨c4, ⟨⟩⟩⟩ _
  exact Okk.iteF (by omega) (.pure h1)
end

theorem SgD_lenW {a : List Int} (h : SgD a) : a.length ≤ 1048576 := by have := h.1; omega
/-- The law's second half. -/
noncomputable def wTail (b : List Int) : Option ((Bool × Unit) × (Unit)) :=
  ((c_spec_DrawFindWorld M b).bind fun r10 => ((c_impl_FindWorld M (r10.1.1.1, ()) r10.1.2.1 r10.1.2.2.1).bind fun r11 => ((c_spec_FindWorld M (r10.1.1.1, ()) r10.1.2.1 r10.1.2.2.1).bind fun r12 => (if (!(r11.1.2.1 == r12.1.2.1)) = true then (some ((false, ()), ())) else ((c_laws_sameWorld M (r11.1.1.1, r11.1.1.2.1, ()) (r12.1.1.1, r12.1.1.2.1, ())).bind fun r13 => (if (!r13.1.1) = true then (some ((false, ()), ())) else (((if r11.1.2.1 = true then ((c_impl_AllHold M (r10.1.1.1, ()) (r11.1.1.1, r11.1.1.2.1, ()) r10.1.2.1).bind fun r15 => (if (!r15.1.2.1) = true then ((some ((false, ()), ())).map .inr) else (if (!r15.1.1) = true then ((some ((false, ()), ())).map .inr) else ((c_impl_GoodWorld M (r10.1.1.1, ()) (r11.1.1.1, r11.1.1.2.1, ())).bind fun r16 => (if (!r16.1.1) = true then ((some ((false, ()), ())).map .inr) else (some (.inl (b, ())))))))) else (some (.inl (b, ())))) : Option (((List Int) × Unit) ⊕ (Bool × Unit) × (Unit))).bind (Sum.elim (fun q14 => ((c_spec_DrawWorldAt M q14.1).bind fun r17 => ((c_impl_WorldAt M (r17.1.1.1, ()) r17.1.2.1 r17.1.2.2.1).bind fun r18 => ((c_spec_WorldAt M (r17.1.1.1, ()) r17.1.2.1 r17.1.2.2.1).bind fun r19 => ((c_impl_CountWorlds M (r17.1.1.1, ()) r17.1.2.1).bind fun r20 => ((c_spec_CountWorlds M (r17.1.1.1, ()) r17.1.2.1).bind fun r21 => ((c_spec_DrawAllHold M q14.1).bind fun r22 => ((c_impl_AllHold M (r22.1.1.1, ()) (r22.1.2.1.1, r22.1.2.1.2.1, ()) r22.1.2.2.1).bind fun r23 => ((c_spec_AllHold M (r22.1.1.1, ()) (r22.1.2.1.1, r22.1.2.1.2.1, ()) r22.1.2.2.1).bind fun r24 => (if (r18.1.2.1 == r19.1.2.1) = true then ((c_laws_sameWorld M (r18.1.1.1, r18.1.1.2.1, ()) (r19.1.1.1, r19.1.1.2.1, ())).bind fun r25 => (if r25.1.1 = true then (if (r20.1.2.1 == r21.1.2.1) = true then (if (r20.1.1 == r21.1.1) = true then (if (r23.1.2.1 == r24.1.2.1) = true then (if (r23.1.1 == r24.1.1) = true then (if (!r18.1.2.1) = true then (some ((true, ()), ())) else ((c_impl_GoodWorld M (r17.1.1.1, ()) (r18.1.1.1, r18.1.1.2.1, ())).bind fun r26 => (some ((r26.1.1, ()), ())))) else (some ((false, ()), ()))) else (some ((false, ()), ()))) else (some ((false, ()), ()))) else (some ((false, ()), ()))) else (some ((false, ()), ())))) else (some ((false, ()), ())))))))))))) (fun r => some r)))))))))
theorem p_wTail (b : List Int) (bb : isBytes b) : wTail b = some ((true, ()), ()) := by
  obtain ⟨⟨⟨⟨s, ⟨⟩⟩, ⟨l, S, ⟨⟩⟩⟩, ⟨⟩⟩, d1, d2, d3, d4⟩ := d_DrawFindWorld bb
  obtain ⟨⟨⟨⟨u, ⟨⟩⟩, ⟨S2, no, ⟨⟩⟩⟩, ⟨⟩⟩, f1, f2⟩ := d_DrawWorldAt bb
  obtain ⟨⟨⟨⟨v, ⟨⟩⟩, ⟨⟨zS, zT, ⟨⟩⟩, m, ⟨⟩⟩⟩, ⟨⟩⟩, g1, g2, g3, g4, g5⟩ := d_DrawAllHold bb
  simp only at d2 d3 d4 f2 g2 g3 g4 g5
  have hs := SgD_lenW d2
  have hu := SgD_lenW f2
  have hv := SgD_lenW g2
  obtain ⟨⟨⟨⟨wS, wT, ⟨⟩⟩, ok, ⟨⟩⟩, ⟨⟩⟩, w1, w2, w3, w4⟩ := p_FindWorlds (s, ()) hs l (by omega) d4 S
  obtain ⟨⟨⟨⟨xS, xT, ⟨⟩⟩, ok2, ⟨⟩⟩, ⟨⟩⟩, x1, x2, x3⟩ := p_WorldAts (u, ()) hu S2 no
  obtain ⟨y1, y2⟩ := p_CountWorlds (u, ()) hu S2
  obtain ⟨z1, z2⟩ := p_AllHolds (v, ()) hv (zS, zT, ()) g3 m (by omega) g5
  obtain ⟨w5, w6⟩ := w3
  obtain ⟨x5, x6⟩ := x3
  simp only at w4 w5 w6 x5 x6
  have fin : (((c_spec_DrawWorldAt M b).bind fun r17 => ((c_impl_WorldAt M (r17.1.1.1, ()) r17.1.2.1 r17.1.2.2.1).bind fun r18 => ((c_spec_WorldAt M (r17.1.1.1, ()) r17.1.2.1 r17.1.2.2.1).bind fun r19 => ((c_impl_CountWorlds M (r17.1.1.1, ()) r17.1.2.1).bind fun r20 => ((c_spec_CountWorlds M (r17.1.1.1, ()) r17.1.2.1).bind fun r21 => ((c_spec_DrawAllHold M b).bind fun r22 => ((c_impl_AllHold M (r22.1.1.1, ()) (r22.1.2.1.1, r22.1.2.1.2.1, ()) r22.1.2.2.1).bind fun r23 => ((c_spec_AllHold M (r22.1.1.1, ()) (r22.1.2.1.1, r22.1.2.1.2.1, ()) r22.1.2.2.1).bind fun r24 => (if (r18.1.2.1 == r19.1.2.1) = true then ((c_laws_sameWorld M (r18.1.1.1, r18.1.1.2.1, ()) (r19.1.1.1, r19.1.1.2.1, ())).bind fun r25 => (if r25.1.1 = true then (if (r20.1.2.1 == r21.1.2.1) = true then (if (r20.1.1 == r21.1.1) = true then (if (r23.1.2.1 == r24.1.2.1) = true then (if (r23.1.1 == r24.1.1) = true then (if (!r18.1.2.1) = true then (some ((true, ()), ())) else ((c_impl_GoodWorld M (r17.1.1.1, ()) (r18.1.1.1, r18.1.1.2.1, ())).bind fun r26 => (some ((r26.1.1, ()), ())))) else (some ((false, ()), ()))) else (some ((false, ()), ()))) else (some ((false, ()), ()))) else (some ((false, ()), ()))) else (some ((false, ()), ())))) else (some ((false, ()), ()))))))))))) : Option ((Bool × Unit) × (Unit))) = some ((true, ()), ()) := by
    rw [f1]
    simp only [Option.bind_some, x1, x2, y1, y2]
    rw [g1]
    simp only [Option.bind_some, z1, z2]
    rw [if_pos (by simp), p_sameWorld (xS, xT, ()) x5]
    simp only [Option.bind_some]
    rw [if_pos trivial, if_pos (by simp), if_pos (by simp), if_pos (by simp), if_pos (by simp)]
    cases ok2 with
    | false => rfl
    | true =>
      obtain ⟨q1, q2⟩ := x6 rfl
      rw [if_neg (by simp), p_impl_GoodWorld (u, ()) hu (xS, xT, ()) x5]
      simp [q1, q2]
  unfold wTail
  rw [d1]
  simp only [Option.bind_some, w1, w2]
  rw [if_neg (by simp), p_sameWorld (wS, wT, ()) w5]
  simp only [Option.bind_some]
  rw [if_neg (by simp)]
  cases ok with
  | false => exact fin
  | true =>
    obtain ⟨q1, q2⟩ := w6 rfl
    obtain ⟨q3, q4⟩ := w4 rfl
    rw [if_pos rfl, (p_AllHolds (s, ()) hs (wS, wT, ()) w5 l (by omega) d4).1]
    have e : rAH (s, ()) (wS, wT, ()) l = ((true, true, ()), ()) := by
      unfold rAH
      rw [if_pos (by simp [q1, q2, q3]), q4]
    rw [e]
    simp only [Option.bind_some]
    rw [if_neg (by simp), if_neg (by simp), p_impl_GoodWorld (s, ()) hs (wS, wT, ()) w5]
    simp only [Option.bind_some]
    rw [if_neg (by simp [q1, q2])]
    exact fin
theorem p_FnWorlds (a b : List Int) (ha : ∀ x ∈ a, 0 ≤ x ∧ x ≤ 255) (hb : ∀ x ∈ b, 0 ≤ x ∧ x ≤ 255) (la : a.length ≤ 9223372036854775807) (lb : b.length ≤ 9223372036854775807) : c_laws_FnWorlds M a b = some ((true, ()), ()) := by
  apply e_laws_FnWorlds
  simp only [q_laws_FnWorlds, p_big a b la lb, Option.bind_some]
  by_cases hB : (decide (1048576 < a.length) || decide (1048576 - (a.length : Int) < b.length)) = true
  · rw [if_pos hB]
  · rw [if_neg hB]
    simp only [Bool.or_eq_true, decide_eq_true_eq, not_or] at hB
    have ba : isBytes a := ⟨by omega, ha⟩
    have bb : isBytes b := ⟨by omega, hb⟩
    obtain ⟨⟨⟨⟨s, ⟨⟩⟩, ⟨⟨S, T, ⟨⟩⟩, c, ⟨⟩⟩⟩, ⟨⟩⟩, d1, d2, d3, d4⟩ := d_DrawFalseAt ba
    simp only at d2 d3 d4
    have hs := SgD_lenW d2
    obtain ⟨f1, f2⟩ := p_FalseAts (s, ()) hs (S, T, ()) d3 c d4
    obtain ⟨h1, h2⟩ := p_HoldsIns (s, ()) hs (S, T, ()) d3 c d4
    rw [d1]
    simp only [Option.bind_some, f1, f2, h1, h2]
    have hlen : (rFA (s, ()) (S, T, ()) c).1.1.length ≤ 12 := by
      unfold rFA
      split
      · rename_i h
        simp only [Bool.and_eq_true] at h
        exact FA_len _ _ (wOK_parts h.1.2).1 _
      · simp
    rw [if_neg (by simp), p_sameInts _ (by omega)]
    simp only [Option.bind_some]
    rw [if_neg (by simp), if_neg (by simp), if_neg (by simp)]
    by_cases hok : (gS s && wOK s (S, T, ()) && ask s c) = true
    · have e1 : rFA (s, ()) (S, T, ()) c = (((FA (s, ()) (S, T, ()) c).1, (FA (s, ()) (S, T, ()) c).2, ()), ()) := by unfold rFA; rw [if_pos hok]
      have e2 : rHI (s, ()) (S, T, ()) c = ((!(FA (s, ()) (S, T, ()) c).2, true, ()), ()) := by unfold rHI; rw [if_pos hok]
      rw [e1, e2]
      simp only
      rw [if_pos trivial, if_neg (by simp)]
      have hw1 : 1 ≤ S := by
        have := hok
        simp only [Bool.and_eq_true] at this
        exact (wOK_parts this.1.2).1
      cases hF : (FA (s, ()) (S, T, ()) c).2 with
      | false => exact p_wTail b bb
      | true =>
        obtain ⟨k1, k2⟩ := FA_ok (s, ()) (S, T, ()) hw1 c hF
        rw [if_pos rfl, p_HoldsAt (s, ()) hs (S, T, ()) d3 c d4 hok _ k1, k2]
        exact p_wTail b bb
    · have e1 : rFA (s, ()) (S, T, ()) c = (([], false, ()), ()) := by unfold rFA; rw [if_neg hok]
      have e2 : rHI (s, ()) (S, T, ()) c = ((false, false, ()), ()) := by unfold rHI; rw [if_neg hok]
      rw [e1, e2]
      exact p_wTail b bb
end Go.Proofs.YtkdceefdipljaaaGreatFwo.Ev
