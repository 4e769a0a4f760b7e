/- Plain law: FnExactOldWorld answers true. No condition but that lists fit in memory. -/
import Derived.Test.YtejklhcalinhpaaOwPQw
namespace Go.Proofs.YtejklhcalinhpaaOw.Ev
open Go
set_option autoImplicit false
set_option linter.unusedVariables false
set_option linter.unusedSimpArgs false

theorem p_l1Own (x : List Int) (h : x.length ≤ 1048576) : c_spec_l1Own M x = some ((x, ()), ()) := by
  apply e_spec_l1Own
  simp only [q_spec_l1Own]
  rw [if_pos (by simp; omega)]
  simp
theorem p_impl_OldWorld_loop (z : TWorld) (n : Int) (T : List (List Int)) (hT : T.length ≤ 1048576) (hx : ∀ x ∈ T, smS x) : ∀ (k i : Nat) (acc : List (List Int)), i + k = T.length → acc.length ≤ 1048576 + i → l_impl_OldWorld_122 M z (n, acc, ()) T T.length i = some (.inl (z, (n, acc ++ T.drop i, ()), ())) := by
  intro k
  induction k with
  | zero =>
    intro i acc hi _
    apply el_impl_OldWorld_122
    simp only [ql_impl_OldWorld_122]
    rw [if_neg (by simp; omega), List.drop_eq_nil_of_le (by omega), List.append_nil]
  | succ k ih =>
    intro i acc hi ha
    have h1 : i < T.length := by omega
    have h2 : (T[i]).length ≤ 1048576 := hx _ (List.getElem_mem h1)
    apply el_impl_OldWorld_122
    simp only [ql_impl_OldWorld_122]
    rw [if_pos (by simpa using h1), idx_lt h1, inc_nat (by omega)]
    simp only [Option.bind_some]
    rw [if_pos (by omega), if_pos (by simp; omega)]
    have := ih (i + 1) (acc ++ [T[i]]) (by omega) (by simp; omega)
    rw [List.drop_eq_getElem_cons h1]
    rw [List.append_assoc] at this
    exact this
theorem p_spec_OldWorld_loop (z : TWorld) (n : Int) (T : List (List Int)) (hT : T.length ≤ 1048576) (hx : ∀ x ∈ T, smS x) : ∀ (k i : Nat) (acc : List (List Int)), i + k = T.length → acc.length ≤ 1048576 + i → l_spec_OldWorld_122 M z (n, acc, ()) T T.length i = some (.inl (z, (n, acc ++ T.drop i, ()), ())) := by
  intro k
  induction k with
  | zero =>
    intro i acc hi _
    apply el_spec_OldWorld_122
    simp only [ql_spec_OldWorld_122]
    rw [if_neg (by simp; omega), List.drop_eq_nil_of_le (by omega), List.append_nil]
  | succ k ih =>
    intro i acc hi ha
    have h1 : i < T.length := by omega
    have h2 : (T[i]).length ≤ 1048576 := hx _ (List.getElem_mem h1)
    apply el_spec_OldWorld_122
    simp only [ql_spec_OldWorld_122]
    rw [if_pos (by simpa using h1), idx_lt h1, inc_nat (by omega)]
    simp only [Option.bind_some]
    rw [p_l1Own _ h2]
    simp only [Option.bind_some]
    rw [if_pos (by simp; omega)]
    have := ih (i + 1) (acc ++ [T[i]]) (by omega) (by simp; omega)
    rw [List.drop_eq_getElem_cons h1]
    rw [List.append_assoc] at this
    exact this

/-- What both answer. -/
def OW (s : TSign) (w : TWorld) (n : Int) : TWorld × Bool := if (gS s.1 && wOK s.1 w) = true ∧ 1 ≤ n ∧ n ≤ s.1.length then ((w.1, w.2.1.take n.toNat, ()), true) else ((0, [], ()), false)

theorem p_OldWorlds (s : TSign) (hs : s.1.length ≤ 1048576) (w : TWorld) (hl : w.2.1.length ≤ 1048576) (hx : ∀ y ∈ w.2.1, smS y) (n : Int) :
    c_spec_OldWorld M s w n = some (((OW s w n).1, (OW s w n).2, ()), ()) ∧ c_impl_OldWorld M s w n = some (((OW s w n).1, (OW s w n).2, ()), ()) := by
  have g1 := p_spec_GoodWorld s hs w hl hx
  have g2 : c_impl_GoodWorld M s w = some ((gS s.1 && wOK s.1 w, ()), ()) := by
    apply e_impl_GoodWorld
    simp only [q_impl_GoodWorld, sign_eta', world_eta, p_impl_GoodSign s (by omega), Option.bind_some]
    cases hg : gS s.1 with
    | false => rfl
    | true => rw [if_pos rfl, p_isWorld s hg w hl hx]; rfl
  unfold OW
  cases hb : (gS s.1 && wOK s.1 w) with
  | false =>
    rw [hb] at g1 g2
    rw [if_neg (by simp)]
    refine ⟨e_spec_OldWorld _ _ _ ?_, e_impl_OldWorld _ _ _ ?_⟩
    · simp only [q_spec_OldWorld, sign_eta', world_eta, g1, Option.bind_some]; rfl
    · simp only [q_impl_OldWorld, sign_eta', world_eta, g2, Option.bind_some]; rfl
  | true =>
    rw [hb] at g1 g2
    simp only [Bool.and_eq_true] at hb
    have hwl : w.2.1.length = s.1.length := by
      have := hb.2
      simp only [wOK, Bool.and_eq_true, decide_eq_true_eq] at this
      exact this.2.2.1
    by_cases hn : 1 ≤ n ∧ n ≤ s.1.length
    · rw [if_pos ⟨rfl, hn⟩]
      have hlt : (w.2.1.take n.toNat).length = n.toNat := by rw [List.length_take]; omega
      have hT : ∀ x ∈ w.2.1.take n.toNat, smS x := fun x hxx => hx x (List.mem_of_mem_take hxx)
      have l1 := p_spec_OldWorld_loop (0, [], ()) w.1 (w.2.1.take n.toNat) (by omega) hT n.toNat 0 [] (by omega) (by simp)
      have l2 := p_impl_OldWorld_loop (0, [], ()) w.1 (w.2.1.take n.toNat) (by omega) hT n.toNat 0 [] (by omega) (by simp)
      rw [show ((0 : Nat) : Int) = 0 from rfl, List.drop_zero, List.nil_append] at l1 l2
      refine ⟨e_spec_OldWorld _ _ _ ?_, e_impl_OldWorld _ _ _ ?_⟩
      · simp only [q_spec_OldWorld, sign_eta', world_eta, g1, Option.bind_some, p_l1In]
        rw [if_neg (by simp), if_neg (by simp; omega), if_pos (by omega), Int.toNat_zero, List.drop_zero, l1]
        rfl
      · simp only [q_impl_OldWorld, sign_eta', world_eta, g2, Option.bind_some]
        rw [if_neg (by simp), if_neg (by simp; omega), if_neg (by simp; omega), if_pos (by omega), Int.toNat_zero, List.drop_zero, l2]
        rfl
    · rw [if_neg (fun h => hn h.2)]
      refine ⟨e_spec_OldWorld _ _ _ ?_, e_impl_OldWorld _ _ _ ?_⟩
      · simp only [q_spec_OldWorld, sign_eta', world_eta, g1, Option.bind_some, p_l1In]
        rw [if_neg (by simp), if_pos (by simp; omega)]
      · simp only [q_impl_OldWorld, sign_eta', world_eta, g2, Option.bind_some]
        rw [if_neg (by simp)]
        by_cases h1 : n < 1
        · rw [if_pos (by simpa using h1)]
        · rw [if_neg (by simpa using h1), if_pos (by simp; omega)]

theorem OW_sm {s : TSign} {w : TWorld} (hl : w.2.1.length ≤ 1048576) (hx : ∀ y ∈ w.2.1, smS y) (n : Int) : (OW s w n).1.2.1.length ≤ 1048576 ∧ ∀ y ∈ (OW s w n).1.2.1, smS y := by
  unfold OW
  split
  · exact ⟨by simp only [List.length_take]; omega, fun y hy => hx y (List.mem_of_mem_take hy)⟩
  · exact ⟨by simp, by simp⟩

theorem p_FnExactOldWorld (s : TSign) (w : TWorld) (n : Int) (hs : s.1.length ≤ 9223372036854775807) (hw : w.2.1.length ≤ 9223372036854775807) (hwx : ∀ y ∈ w.2.1, wlS y) : c_laws_FnExactOldWorld M s w n = some ((true, ()), ()) := by
  obtain ⟨r1, e1, g1, k1⟩ := p_szSign s 1048576 (by omega) (by omega) hs
  by_cases h1 : r1 < 0
  · apply e_laws_FnExactOldWorld
    simp only [q_laws_FnExactOldWorld, sign_eta', e1, Option.bind_some]
    rw [if_pos (by simpa using h1)]
  · obtain ⟨r2, e2, g2, k2⟩ := p_szWorld w r1 (by omega) g1 hw hwx
    by_cases h2 : r2 < 0
    · apply e_laws_FnExactOldWorld
      simp only [q_laws_FnExactOldWorld, sign_eta', world_eta, e1, e2, Option.bind_some]
      rw [if_neg (by simpa using h1), if_pos (by simpa using h2)]
    · have hs' := k1 (by omega)
      obtain ⟨hw', hwx'⟩ := k2 (by omega)
      obtain ⟨t1, t2⟩ := p_OldWorlds s hs' w hw' hwx' n
      obtain ⟨o1, o2⟩ := OW_sm (s := s) hw' hwx' n
      have b1 := totS_le w.2.1 hwx'
      have b2 := totS_le (OW s w n).1.2.1 o2
      have m1 := p_markSign s 1 (by omega) (by omega)
      have m2 := p_markWorld w (1 + s.1.length) (by omega) (by omega) (by omega)
      have m3 := p_markWorld (OW s w n).1 1 (by omega) (by omega) (by omega)
      have m4 := p_heldWorld (OW s w n).1 1 (by omega) (by omega) (by omega)
      apply e_laws_FnExactOldWorld
      simp only [q_laws_FnExactOldWorld, sign_eta', world_eta, e1, e2, Option.bind_some, p_toSign s (by omega), p_toWorld w hw' hwx', t1, t2, p_eqSign s (by omega), p_eqWorld w hw' hwx', p_eqWorld (OW s w n).1 o1 o2, m1, m2, m3, m4]
      rw [if_neg (by simpa using h1), if_neg (by simpa using h2)]
      simp
      rw [if_neg (by omega), if_neg (by omega), if_neg (by omega)]

end Go.Proofs.YtejklhcalinhpaaOw.Ev
