/- Texts laid together: WAj, WAm, PA, PDe, PD, PQz, PQlz, WAn; no condition but those that each theorem names. -/
import Derived.Test.YtpmjpijpjmphnaaGreatWiWAi
import Derived.Test.YtpmjpijpjmphnaaGreatWiWAd
/- Plain laws: superposition, by both programs. No condition but sizes. -/
namespace Go.Proofs.YtpmjpijpjmphnaaGreatWi.Ev
open Go
set_option autoImplicit false
set_option linter.unusedVariables false
set_option linter.unusedSimpArgs false
set_option maxHeartbeats 1000000
/-- A term in the place of another one. -/
theorem sE_swap {a : List Int} (hg : gS a = true) {p r z : List Int} (hp : Tm a p) (hr : Tm a r) : ∀ (l : List Int) (k : Int), 0 ≤ k → sE a k (l ++ (p ++ z)) = some [] → sE a k (l ++ (r ++ z)) = some []
 | [], k, hk, h => by
  have pp := Tm.pos hp
  by_cases h0 : k ≤ 0
  ·exfalso
   have : sE a k (p ++ z) = some (p ++ z) := by
    cases hpz : p ++ z with
    | nil => simp [sE, h0]
    | cons n t => simp [sE, h0]
   rw [List.nil_append, this] at h
   have h' := Option.some.inj h
   rw [List.append_eq_nil_iff] at h'
   rw [h'.1] at pp
   simp at pp
  ·have e1 := sE_app hg p 1 (k - 1) z (by omega) (by omega) hp
   have e2 := sE_app hg r 1 (k - 1) z (by omega) (by omega) hr
   rw [show 1 + (k - 1) = k by omega] at e1 e2
   rw [List.nil_append] at h ⊢
   rw [e1] at h
   rw [e2]; exact h
 | n :: l, k, hk, h => by
  rw [List.cons_append] at h ⊢
  simp only [sE] at h ⊢
  split at h
  ·cases h
  ·rename_i h1
   rw [if_neg h1]
   split at h
   ·cases h
   ·rename_i h2
    rw [if_neg h2]
    have := ar_ge hg n
    exact sE_swap hg hp hr l _ (by omega) h
theorem Tm_swap {a : List Int} (hg : gS a = true) {l p r z : List Int} (h : Tm a (l ++ (p ++ z))) (hp : Tm a p) (hr : Tm a r) : Tm a (l ++ (r ++ z)) := sE_swap hg hp hr l 1 (by omega) h
theorem p_super (s : TSign) (hg : gS s.1 = true) (c d : List TLit) (hc : clOK s.1 c = true) (hd : clOK s.1 d = true) (i sc j ot p0 : Int) : ∃ r, c_impl_Sign_superpose M s c d (i, sc, j, ot, p0, ()) = some r ∧ c_spec_l6Super M s c d (i, sc, j, ot, p0, ()) = some r ∧ (r.1.1 = [] ∨ ((r.1.2.1 = 0 ∨ r.1.2.1 = 5) ∧ ∃ out, r.1.1 = outC out ∧ SupOK s.1 c d (i, sc, j, ot, p0, ()) out)) := by
 obtain ⟨c1, c2⟩ := clOK_iff.1 hc
 obtain ⟨d1, d2⟩ := clOK_iff.1 hd
 have fail : ∀ k : Int, c_impl_Sign_superpose M s c d (i, sc, j, ot, p0, ()) = some (([], k, ()), ()) → c_spec_l6Super M s c d (i, sc, j, ot, p0, ()) = some (([], k, ()), ()) → ∃ r, c_impl_Sign_superpose M s c d (i, sc, j, ot, p0, ()) = some r ∧ c_spec_l6Super M s c d (i, sc, j, ot, p0, ()) = some r ∧ (r.1.1 = [] ∨ ((r.1.2.1 = 0 ∨ r.1.2.1 = 5) ∧ ∃ out, r.1.1 = outC out ∧ SupOK s.1 c d (i, sc, j, ot, p0, ()) out)) := fun k h1 h2 => ⟨_, h1, h2, .inl rfl⟩
 have lc := p_l6Lit c (by omega) i sc
 have ld := p_l6Lit d (by omega) j ot
 by_cases h1 : 0 ≤ i ∧ i < (c.length : Int)
 case neg =>
  have e : (decide (0 ≤ i) && decide (i < (c.length : Int)) && is01 sc) = false := by
   by_cases h0 : 0 ≤ i
   ·rw [decide_eq_true h0, decide_eq_false (fun q => h1 ⟨h0, q⟩)]; rfl
   ·rw [decide_eq_false h0]; rfl
  rw [e] at lc
  refine fail 1 (e_impl_Sign_superpose _ _ _ _ ?_) (e_spec_l6Super _ _ _ _ ?_)
  ·simp only [q_impl_Sign_superpose, p_hasLit0 c i h1, Option.bind_some]; rfl
  ·simp only [q_spec_l6Super, lc, Option.bind_some]; rfl
 case pos =>
 obtain ⟨n, rfl⟩ : ∃ n : Nat, i = (n : Int) := ⟨i.toNat, by omega⟩
 have hn : n < c.length := by omega
 rw [decide_eq_true h1.1, decide_eq_true h1.2, Bool.true_and, Bool.true_and] at lc
 have hl := p_hasLit c n n hn rfl
 have hci := idx_lt hn
 cases h2 : c[n].1 with
 | false =>
  rw [h2] at hl
  refine fail 1 (e_impl_Sign_superpose _ _ _ _ ?_) (e_spec_l6Super _ _ _ _ ?_)
  ·simp only [q_impl_Sign_superpose, hl, Option.bind_some]; rfl
  ·simp only [q_spec_l6Super, lc, hci, h2, Option.bind_some]
   cases is01 sc <;> rfl
 | true =>
 rw [h2] at hl
 have si := p_isSide sc
 cases h3 : is01 sc with
 | false =>
  rw [h3] at lc si
  refine fail 1 (e_impl_Sign_superpose _ _ _ _ ?_) (e_spec_l6Super _ _ _ _ ?_)
  ·simp only [q_impl_Sign_superpose, hl, si, Option.bind_some]; rfl
  ·simp only [q_spec_l6Super, lc, Option.bind_some]; rfl
 | true =>
 rw [h3] at lc si
 by_cases h4 : 0 ≤ j ∧ j < (d.length : Int)
 case neg =>
  have e : (decide (0 ≤ j) && decide (j < (d.length : Int)) && is01 ot) = false := by
   by_cases h0 : 0 ≤ j
   ·rw [decide_eq_true h0, decide_eq_false (fun q => h4 ⟨h0, q⟩)]; rfl
   ·rw [decide_eq_false h0]; rfl
  rw [e] at ld
  refine fail 1 (e_impl_Sign_superpose _ _ _ _ ?_) (e_spec_l6Super _ _ _ _ ?_)
  ·simp only [q_impl_Sign_superpose, hl, si, Option.bind_some, Bool.not_true, Bool.false_eq_true, if_false]
   by_cases h0 : j < 0
   ·rw [if_pos (by simpa using h0)]
   ·rw [if_neg (by simpa using h0), if_pos (by simp; omega)]
  ·simp only [q_spec_l6Super, lc, ld, hci, h2, Option.bind_some, Bool.not_true, Bool.false_eq_true, if_false]; rfl
 case pos =>
 obtain ⟨m, rfl⟩ : ∃ m : Nat, j = (m : Int) := ⟨j.toNat, by omega⟩
 have hm : m < d.length := by omega
 rw [decide_eq_true h4.1, decide_eq_true h4.2, Bool.true_and, Bool.true_and] at ld
 have hdj := idx_lt hm
 have j0 : decide ((m : Int) < 0) = false := by simp
 have j1 : decide ((m : Int) ≥ (d.length : Int)) = false := by simp; omega
 have so := p_isSide ot
 cases h5 : is01 ot with
 | false =>
  rw [h5] at ld so
  refine fail 1 (e_impl_Sign_superpose _ _ _ _ ?_) (e_spec_l6Super _ _ _ _ ?_)
  ·simp only [q_impl_Sign_superpose, hl, si, so, j0, j1, Option.bind_some, Bool.not_true, Bool.false_eq_true, if_false]; rfl
  ·simp only [q_spec_l6Super, lc, ld, hci, h2, Option.bind_some, Bool.not_true, Bool.false_eq_true, if_false]; rfl
 | true =>
 rw [h5] at ld so
 have hot : ot = 0 ∨ ot = 1 := by
  simp only [is01, Bool.and_eq_true, decide_eq_true_eq] at h5
  omega
 have hdT := sd_isT (d2 _ (List.getElem_mem hm)) ot
 have hdl := (isT_iff.1 hdT.1).1
 obtain ⟨sd1, sd2⟩ := p_sides d[m] ot
 by_cases h6 : 0 ≤ p0 ∧ p0 < ((sd d[m] ot).1.length : Int)
 case neg =>
  have e : (decide (0 ≤ p0) && decide (p0 ≤ ((sd d[m] ot).1.length : Int) - 1)) = false := by
   by_cases h0 : 0 ≤ p0
   ·rw [decide_eq_true h0, decide_eq_false (by omega)]; rfl
   ·rw [decide_eq_false h0]; rfl
  refine fail 1 (e_impl_Sign_superpose _ _ _ _ ?_) (e_spec_l6Super _ _ _ _ ?_)
  ·simp only [q_impl_Sign_superpose, hl, si, so, j0, j1, hdj, lit_eta, sd1, Option.bind_some, Bool.not_true, Bool.false_eq_true, if_false]
   by_cases h0 : p0 < 0
   ·rw [if_pos (by simpa using h0)]
   ·rw [if_neg (by simpa using h0), if_pos (by simp; omega)]
  ·simp only [q_spec_l6Super, lc, ld, hci, hdj, h2, lit_eta, sd2, Option.bind_some, Bool.not_true, Bool.false_eq_true, if_false]
   rw [w64 (by omega) (by omega), p_l1In, e]
   rfl
 case pos =>
 obtain ⟨q, rfl⟩ : ∃ q : Nat, p0 = (q : Int) := ⟨p0.toNat, by omega⟩
 have hq : q < (sd d[m] ot).1.length := by omega
 have huq := idx_lt hq
 have p0' : decide ((q : Int) < 0) = false := by simp
 have p1' : decide ((q : Int) ≥ ((sd d[m] ot).1.length : Int)) = false := by simp; omega
 have inq : c_spec_l1In M (q : Int) 0 (IntKind.i64.wrap (((sd d[m] ot).1.length : Int) - 1)) = some ((true, ()), ()) := by
  rw [w64 (by omega) (by omega), p_l1In, decide_eq_true (by omega), decide_eq_true (by omega)]; rfl
 by_cases h7 : (sd d[m] ot).1[q] < 0
 case pos =>
  refine fail 1 (e_impl_Sign_superpose _ _ _ _ ?_) (e_spec_l6Super _ _ _ _ ?_)
  ·simp only [q_impl_Sign_superpose, hl, si, so, j0, j1, hdj, lit_eta, sd1, p0', p1', huq, decide_eq_true h7, Option.bind_some, Bool.not_true, Bool.false_eq_true, if_false, if_true]
  ·simp only [q_spec_l6Super, lc, ld, hci, hdj, h2, lit_eta, sd2, inq, huq, decide_eq_true h7, Option.bind_some, Bool.not_true, Bool.false_eq_true, if_false, if_true]
 case neg =>
 have apI := p_impl_apart s hg c d hc hd
 have apS' := p_spec_apart s hg c d hc hd
 cases h8 : (apartC c d).all (litOK s.1) with
 | false =>
  rw [h8] at apI apS'
  refine fail 2 (e_impl_Sign_superpose _ _ _ _ ?_) (e_spec_l6Super _ _ _ _ ?_)
  ·simp only [q_impl_Sign_superpose, hl, si, so, j0, j1, hdj, lit_eta, sd1, p0', p1', huq, decide_eq_false h7, sign_eta, apI, Option.bind_some, Bool.not_true, Bool.false_eq_true, if_false]; rfl
  ·simp only [q_spec_l6Super, lc, ld, hci, hdj, h2, lit_eta, sd2, inq, huq, decide_eq_false h7, sign_eta, apS', Option.bind_some, Bool.not_true, Bool.false_eq_true, if_false]; rfl
 | true =>
 rw [h8, if_pos rfl] at apI apS'
 have e2 : ∀ x ∈ apartC c d, litOK s.1 x = true := List.all_eq_true.1 h8
 have hel : (apartC c d).length = d.length := by simp [apartC]
 have hJ : m < (apartC c d).length := by omega
 have hej := idx_lt hJ
 obtain ⟨se1, se2⟩ := p_sides (apartC c d)[m] ot
 obtain ⟨sc1, sc2⟩ := p_sides c[n] sc
 have lt : ((true, c[n].2.1, c[n].2.2) : TLit) = c[n] := by rw [← h2]
 have sc2t : c_spec_l6Sides M (true, c[n].2.1, c[n].2.2) sc = some (((sd c[n] sc).1, (sd c[n] sc).2, ()), ()) := by rw [lt]; exact sc2
 have hul : (sd (apartC c d)[m] ot).1.length = (sd d[m] ot).1.length := by
  simp only [apartC, List.getElem_map, sd, shl]
  split <;> simp
 have huT := sd_isT (e2 _ (List.getElem_mem hJ)) ot
 obtain ⟨hu1, hu2⟩ := isT_iff.1 huT.1
 obtain ⟨p, z, hpz, hp⟩ := Tm.at hg hu2 (show q < (sd (apartC c d)[m] ot).1.length by omega)
 obtain ⟨k1, k2⟩ := cut_part hpz (Tm.pos hp)
 have prI := p_partT s hg _ (by omega) hpz hp
 have prS := p_l1PartT s hg _ (by omega) hpz hp
 have hcT := sd_isT (c2 _ (List.getElem_mem hn)) sc
 obtain ⟨hl1, hl2⟩ := isT_iff.1 hcT.1
 obtain ⟨hr1, hr2⟩ := isT_iff.1 hcT.2
 obtain ⟨ru, u1, u2, u3⟩ := p_unify s hg (sd c[n] sc).1 p hcT.1 (isT_iff.2 ⟨by omega, hp⟩)
 cases h9 : ru.1.2.1 with
 | false =>
  refine fail 3 (e_impl_Sign_superpose _ _ _ _ ?_) (e_spec_l6Super _ _ _ _ ?_)
  ·simp only [q_impl_Sign_superpose, hl, si, so, j0, j1, hdj, lit_eta, sd1, p0', p1', huq, decide_eq_false h7, sign_eta, apI, hci, hej, sc1, se1, prI, u1, h9, Option.bind_some, Bool.not_true, Bool.false_eq_true, if_false]; rfl
  ·simp only [q_spec_l6Super, lc, ld, hci, hdj, h2, lit_eta, sd2, inq, huq, decide_eq_false h7, sign_eta, apS', hej, sc2t, se2, prS, u2, h9, Option.bind_some, Bool.not_true, Bool.false_eq_true, if_false]; rfl
 | true =>
 obtain ⟨τ, hτ, ht, hun, _⟩ := u3 h9
 have lτ : ∀ v, (τ v).length ≤ 100000 := fun v => by have := hτ.len v; omega
 have acI := p_applyClause τ lτ c (by omega) (fun x hx => isT_lim (c2 x hx))
 have aeI := p_applyClause τ lτ (apartC c d) (by omega) (fun x hx => isT_lim (e2 x hx))
 have acS := p_l4Apply τ lτ c (by omega) (fun x hx => isT_lim (c2 x hx))
 have aeS := p_l4Apply τ lτ (apartC c d) (by omega) (fun x hx => isT_lim (e2 x hx))
 obtain ⟨rpI, rpS⟩ := p_replaceT s hg (sd (apartC c d)[m] ot).1 (sd c[n] sc).2 (by omega) (by omega) hpz hp
 generalize hR : (sd (apartC c d)[m] ot).1.take q ++ (sd c[n] sc).2 ++ z = R at rpI rpS
 have hRl : R.length ≤ 100 := by rw [← hR]; simp; omega
 have hRn : ∀ x ∈ R, -12 ≤ x := by
  intro x hx
  rw [← hR] at hx
  rcases List.mem_append.1 hx with hx | hx
  ·rcases List.mem_append.1 hx with hx | hx
   ·exact (isT_sm huT.1).2 x (List.mem_of_mem_take hx)
   ·exact (isT_sm hcT.2).2 x hx
  ·exact (isT_sm huT.1).2 x (List.mem_of_mem_drop (by rw [hpz]; exact List.mem_append_right _ hx))
 have toI := p_applyI _ _ (tabS_F τ) lτ R hRl hRn
 have toS := p_applyB _ _ (tabS_F τ) lτ R hRl hRn
 have vS := p_applyB _ _ (tabS_F τ) lτ (sd (apartC c d)[m] ot).2 (by have := (isT_iff.1 huT.2).1; omega) (isT_sm huT.2).2
 have lcb : (apC τ c).length = c.length := by simp [apC]
 have leb : (apC τ (apartC c d)).length = (apartC c d).length := by simp [apC]
 have hJ' : m < (apC τ (apartC c d)).length := by omega
 have hI' : n < (apC τ c).length := by omega
 have sdJ := sd_apC τ (apartC c d) hJ hJ' ot
 have sdI := sd_apC τ c hn hI' sc
 have L1 := p_sup1 s ((n : Int), sc, (m : Int), ot, (q : Int), ()) (sd (apartC c d)[m] ot).1 (sd c[n] sc).1 (sd c[n] sc).2 (sd (apartC c d)[m] ot).2 (tabS τ) (apC τ c) (apC τ (apartC c d)) (by omega) (apC τ c).length 0 [] (by omega) (by simp)
 rw [show ((0 : Nat) : Int) = 0 from rfl, List.drop_zero, List.nil_append] at L1
 simp only at L1
 rw [filter_erase _ 0 n (by omega), Nat.sub_zero] at L1
 have L2 := p_sup2 s (n : Int) sc ot (q : Int) m (sd (apartC c d)[m] ot).1 (sd c[n] sc).1 (sd c[n] sc).2 (sd (apartC c d)[m] ot).2 (apS τ (sd (apartC c d)[m] ot).2) (apS τ R) (tabS τ) (apC τ c) (apC τ (apartC c d)) (by omega) hJ' hot ⟨R, rpS, toS⟩ vS (by
  have : (sd (apC τ (apartC c d))[m] ot).2 = apS τ (sd (apartC c d)[m] ot).2 := by rw [sdJ]
  rw [← this]
  exact ⟨fun e => by rw [e]; rfl, fun e => by rw [e]; rfl⟩) (apC τ (apartC c d)).length 0 ((apC τ c).eraseIdx n) (by omega) (by have := List.length_eraseIdx_le (apC τ c) n; omega)
 rw [show ((0 : Nat) : Int) = 0 from rfl, List.drop_zero] at L2
 generalize hN : newL ot (apC τ (apartC c d))[m] (apS τ R) = NL at L2
 generalize hO : (apC τ c).eraseIdx n ++ (apC τ (apartC c d)).set m NL = OUT at L2
 have hOl : OUT.length = c.length - 1 + d.length := by
  rw [← hO, List.length_append, List.length_set, List.length_eraseIdx_of_lt hI', lcb, leb, hel]
 have kc := clOK_apC hg hτ c1 c2
 have ke := clOK_apC hg hτ (c := apartC c d) (by omega) e2
 have smlc : ∀ x ∈ apC τ c, smL x := by
  intro x hx
  obtain ⟨y, hy, rfl⟩ := List.mem_map.1 hx
  have := isT_lim (c2 y hy)
  have b1 := apS_len (σ := τ) (fun v => by have := hτ.len v; omega) y.2.1
  have b2 := apS_len (σ := τ) (fun v => by have := hτ.len v; omega) y.2.2.1
  exact ⟨by simp only; omega, by simp only; omega⟩
 have smle : ∀ x ∈ apC τ (apartC c d), smL x := by
  intro x hx
  obtain ⟨y, hy, rfl⟩ := List.mem_map.1 hx
  have := isT_lim (e2 y hy)
  have b1 := apS_len (σ := τ) (fun v => by have := hτ.len v; omega) y.2.1
  have b2 := apS_len (σ := τ) (fun v => by have := hτ.len v; omega) y.2.2.1
  exact ⟨by simp only; omega, by simp only; omega⟩
 have smR' : (apS τ R).length ≤ 1048576 := by
  have := apS_len (σ := τ) (fun v => by have := hτ.len v; omega) R
  omega
 have smNL : smL NL := by
  have := smle _ (List.getElem_mem hJ')
  rw [← hN]
  unfold newL
  split
  ·exact ⟨smR', this.2⟩
  ·exact ⟨this.1, smR'⟩
 have smO : ∀ x ∈ OUT, smL x := by
  intro x hx
  rw [← hO] at hx
  rcases List.mem_append.1 hx with hx | hx
  ·exact smlc x (List.mem_of_mem_eraseIdx hx)
  ·rcases List.mem_or_eq_of_mem_set hx with hx | rfl
   ·exact smle x hx
   ·exact smNL
 have ccb := p_l4Clause s hg (apC τ c) (by omega) smlc
 have ceb := p_l4Clause s hg (apC τ (apartC c d)) (by omega) smle
 have cout := p_l4Clause s hg OUT (by omega) smO
 rw [kc] at ccb
 rw [ke] at ceb
 -- the program's head and the reference's, up to the sizes
 have big : ¬ (fitT τ (tms c) = true ∧ fitT τ (tms (apartC c d)) = true ∧ (apS τ R).length ≤ 40 ∧ c.length + d.length ≤ 9) → ∃ r, c_impl_Sign_superpose M s c d (n, sc, m, ot, q, ()) = some r ∧ c_spec_l6Super M s c d (n, sc, m, ot, q, ()) = some r ∧ (r.1.1 = [] ∨ ((r.1.2.1 = 0 ∨ r.1.2.1 = 5) ∧ ∃ out, r.1.1 = outC out ∧ SupOK s.1 c d (n, sc, m, ot, q, ()) out)) := by
  intro hbig
  refine fail 4 (e_impl_Sign_superpose _ _ _ _ ?_) (e_spec_l6Super _ _ _ _ ?_)
  ·simp only [q_impl_Sign_superpose, hl, si, so, j0, j1, hdj, lit_eta, sd1, p0', p1', huq, decide_eq_false h7, sign_eta, apI, hci, hej, sc1, se1, prI, u1, h9, ht, acI, aeI, rpI, toI, Option.bind_some, Bool.not_true, Bool.false_eq_true, if_false]
   cases f1 : fitT τ (tms c) with
   | false => rfl
   | true =>
    cases f2 : fitT τ (tms (apartC c d)) with
    | false => rfl
    | true =>
     simp only [if_true, Bool.not_true, Bool.false_eq_true, if_false]
     by_cases f3 : (apS τ R).length ≤ 40
     ·rw [if_pos f3]
      simp only [Bool.not_true, Bool.false_eq_true, if_false]
      have : ¬ (c.length + d.length ≤ 9) := fun f4 => hbig ⟨f1, f2, f3, f4⟩
      rw [w64 (x := (c.length : Int) + ((apartC c d).length : Int)) (by omega) (by omega), w64 (by omega) (by omega), if_pos (by simp; omega)]
     ·rw [if_neg f3]
      rfl
  ·simp only [q_spec_l6Super, lc, ld, hci, hdj, h2, lit_eta, sd2, inq, huq, decide_eq_false h7, sign_eta, apS', hej, sc2t, se2, prS, u2, h9, ht, acS, aeS, Option.bind_some, Bool.not_true, Bool.false_eq_true, if_false]
   rw [L1]
   simp only [Option.bind_some, Sum.elim_inl, sign_eta]
   rw [L2]
   simp only [Option.bind_some, Sum.elim_inl, sign_eta, ccb, ceb, cout]
   cases f1 : fitT τ (tms c) with
   | false => rfl
   | true =>
    cases f2 : fitT τ (tms (apartC c d)) with
    | false => rfl
    | true =>
     have : clOK s.1 OUT = false := by
      cases hco : clOK s.1 OUT with
      | false => rfl
      | true =>
       exfalso
       obtain ⟨o1, o2⟩ := clOK_iff.1 hco
       have hmem : NL ∈ OUT := by
        rw [← hO]
        exact List.mem_append_right _ (List.mem_set hJ' NL)
       have hNLok := litOK_iff.1 (o2 NL hmem)
       have f3 : (apS τ R).length ≤ 40 := by
        rw [← hN] at hNLok
        unfold newL at hNLok
        split at hNLok
        ·exact (isT_iff.1 hNLok.1).1
        ·exact (isT_iff.1 hNLok.2).1
       exact hbig ⟨f1, f2, f3, by omega⟩
     rw [this]
     rfl
 by_cases hok : fitT τ (tms c) = true ∧ fitT τ (tms (apartC c d)) = true ∧ (apS τ R).length ≤ 40 ∧ c.length + d.length ≤ 9
 case neg => exact big hok
 case pos =>
 obtain ⟨f1, f2, f3, f4⟩ := hok
 rw [f1] at ccb acI kc
 rw [f2] at ceb aeI ke
 rw [if_pos f3] at toI
 have kc' := (clOK_iff.1 kc).2
 have ke' := (clOK_iff.1 ke).2
 have hTτ : ∀ v, τ v ≠ [] → Tm s.1 (τ v) := fun v h => (isT_iff.1 (hτ.1 v h).1).2
 have hun2 : apS τ (sd c[n] sc).1 = apS τ p := hun
 -- the replaced term is a term
 have hRT : Tm s.1 R := by
  have hu' : Tm s.1 ((sd (apartC c d)[m] ot).1.take q ++ (p ++ z)) := by
   rw [← hpz, List.take_append_drop]; exact hu2
  rw [← hR, List.append_assoc]
  exact Tm_swap hg hu' hp hr2
 have hNLok : litOK s.1 NL = true := by
  have h0 := litOK_iff.1 (ke' _ (List.getElem_mem hJ'))
  have hY : isT s.1 (apS τ R) = true := isT_iff.2 ⟨f3, Tm_apS hg hTτ hRT⟩
  rw [← hN]
  unfold newL
  split
  ·exact litOK_iff.2 ⟨hY, h0.2⟩
  ·exact litOK_iff.2 ⟨h0.1, hY⟩
 have hOok : ∀ x ∈ OUT, litOK s.1 x = true := by
  intro x hx
  rw [← hO] at hx
  rcases List.mem_append.1 hx with hx | hx
  ·exact kc' x (List.mem_of_mem_eraseIdx hx)
  ·rcases List.mem_or_eq_of_mem_set hx with hx | rfl
   ·exact ke' x hx
   ·exact hNLok
 have hO8 : OUT.length ≤ 8 := by omega
 have hclO : clOK s.1 OUT = true := clOK_iff.2 ⟨hO8, hOok⟩
 rw [hclO] at cout
 have limO : ∀ x ∈ OUT, x.2.1.length ≤ 1000 ∧ x.2.2.1.length ≤ 1000 := fun x hx => by have := isT_lim (hOok x hx); omega
 have sup : SupOK s.1 c d (n, sc, m, ot, q, ()) OUT := ⟨n, m, q, hn, hJ, τ, p, z, rfl, rfl, h2, hot, hτ, h8, hpz, hp, hun2, by rw [← hO, ← hN, ← hR], hO8, hOok⟩
 have tI := sd_isT (kc' _ (List.getElem_mem hI')) sc
 have tJ := sd_isT (ke' _ (List.getElem_mem hJ')) ot
 rw [sdI] at tI
 rw [sdJ] at tJ
 have b1 := p_below _ _ (isT_sm tI.1) (isT_sm tI.2)
 have b2 := p_below _ _ (isT_sm tJ.1) (isT_sm tJ.2)
 obtain ⟨x1, m1, m1'⟩ := p_maximal (apC τ c) (by omega) (fun x hx => ⟨isT_sm (litOK_iff.1 (kc' x hx)).1, isT_sm (litOK_iff.1 (kc' x hx)).2⟩) n hI'
 obtain ⟨x2, m2, m2'⟩ := p_maximal (apC τ (apartC c d)) (by omega) (fun x hx => ⟨isT_sm (litOK_iff.1 (ke' x hx)).1, isT_sm (litOK_iff.1 (ke' x hx)).2⟩) m hJ'
 have inO := p_inOrder OUT (by omega) limO
 have outS := (p_concludes OUT (by omega) limO).2
 simp only at tI tJ b1 b2
 have lS := p_applyB _ _ (tabS_F τ) lτ (sd c[n] sc).1 (by omega) (isT_sm hcT.1).2
 have rS := p_applyB _ _ (tabS_F τ) lτ (sd c[n] sc).2 (by omega) (isT_sm hcT.2).2
 have uS := p_applyB _ _ (tabS_F τ) lτ (sd (apartC c d)[m] ot).1 (by omega) (isT_sm huT.1).2
 have cin := idx_lt hI'
 have cjn := idx_lt hJ'
 obtain ⟨z1, _⟩ := p_sides (apC τ c)[n] sc
 obtain ⟨z2, _⟩ := p_sides (apC τ (apartC c d))[m] ot
 rw [sdI] at z1
 rw [sdJ] at z2
 simp only at z1 z2
 refine ⟨((outC OUT, (if (ovr (apS τ (sd c[n] sc).1) (apS τ (sd c[n] sc).2) && (ovr (apS τ (sd (apartC c d)[m] ot).1) (apS τ (sd (apartC c d)[m] ot).2) && (x1 && x2))) = true then 0 else 5), ()), ()), e_impl_Sign_superpose _ _ _ _ ?_, e_spec_l6Super _ _ _ _ ?_, .inr ⟨by split <;> simp, OUT, rfl, sup⟩⟩
 ·simp only [q_impl_Sign_superpose, hl, si, so, j0, j1, hdj, lit_eta, sd1, p0', p1', huq, decide_eq_false h7, sign_eta, apI, hci, hej, sc1, se1, prI, u1, h9, ht, acI, aeI, rpI, toI, Option.bind_some, Bool.not_true, Bool.false_eq_true, if_false, if_true]
  rw [w64 (x := (c.length : Int) + ((apartC c d).length : Int)) (by omega) (by omega), w64 (x := (c.length : Int) + ((apartC c d).length : Int) - 1) (by omega) (by omega), if_neg (by simp; omega), if_pos (by omega), inc_nat (by omega), if_pos (by omega)]
  have hcat := p_cL [(apC τ c).take n, (apC τ c).drop (n + 1), apC τ (apartC c d)] (by
   intro y hy
   simp only [List.mem_cons, List.not_mem_nil, or_false] at hy
   rcases hy with rfl | rfl | rfl
   ·simp; omega
   ·simp; omega
   ·omega) (by simp) (by simp; omega)
  have hfl : [(apC τ c).take n, (apC τ c).drop (n + 1), apC τ (apartC c d)].flatten = (apC τ c).eraseIdx n ++ apC τ (apartC c d) := by
   rw [← eraseIdx_cut]; simp
  rw [hfl] at hcat
  simp only [Int.toNat_natCast, Int.toNat_zero, List.drop_zero, List.take_length]
  rw [hcat]
  have hel' : ((apC τ c).eraseIdx n).length = c.length - 1 := by rw [List.length_eraseIdx_of_lt hI', lcb]
  have hat : IntKind.i64.wrap (IntKind.i64.wrap (((apC τ c).length : Int) - 1) + (m : Int)) = ((c.length - 1 + m : Nat) : Int) := by
   rw [w64 (x := ((apC τ c).length : Int) - 1) (by omega) (by omega), w64 (by omega) (by omega)]; omega
  have hget : ((apC τ c).eraseIdx n ++ apC τ (apartC c d))[c.length - 1 + m]? = some (apC τ (apartC c d))[m] := by
   rw [List.getElem?_append_right (by omega), hel', Nat.add_sub_cancel_left, List.getElem?_eq_getElem hJ']
  have hset : ∀ y, ((apC τ c).eraseIdx n ++ apC τ (apartC c d)).set (c.length - 1 + m) y = (apC τ c).eraseIdx n ++ (apC τ (apartC c d)).set m y := by
   intro y
   rw [List.set_append_right _ _ (by omega), hel', Nat.add_sub_cancel_left]
  simp only [Option.bind_some, hat, Int.toNat_natCast]
  have hlt : 0 ≤ ((c.length - 1 + m : Nat) : Int) ∧ ((c.length - 1 + m : Nat) : Int) < (((apC τ c).eraseIdx n ++ apC τ (apartC c d)).length : Int) := by
   rw [List.length_append, hel']; omega
  have tail : ∀ O : List TLit, O = OUT → ((idx (apC τ c) (n : Int)).bind fun x22 => (c_impl_Lit_side M (x22.1, x22.2.1, x22.2.2.1, ()) sc).bind fun r23 => (idx (apC τ (apartC c d)) (m : Int)).bind fun x24 => (c_impl_Lit_side M (x24.1, x24.2.1, x24.2.2.1, ()) ot).bind fun r25 => (c_impl_isBelow M r23.1.1 r23.1.2.1).bind fun r26 => if (!r26.1.1) = true then (c_impl_isBelow M r25.1.1 r25.1.2.1).bind fun r27 => if (!r27.1.1) = true then (c_impl_isMaximal M (apC τ c) (n : Int)).bind fun r28 => if r28.1.1 = true then (c_impl_isMaximal M (apC τ (apartC c d)) (m : Int)).bind fun r29 => (c_impl_inOrder M O r29.1.1).bind fun r30 => some ((r30.1.1, r30.1.2.1, ()), ()) else (c_impl_inOrder M O false).bind fun r31 => some ((r31.1.1, r31.1.2.1, ()), ()) else (c_impl_inOrder M O false).bind fun r32 => some ((r32.1.1, r32.1.2.1, ()), ()) else (c_impl_inOrder M O false).bind fun r33 => some ((r33.1.1, r33.1.2.1, ()), ())) = some (((outC OUT, (if (ovr (apS τ (sd c[n] sc).1) (apS τ (sd c[n] sc).2) && (ovr (apS τ (sd (apartC c d)[m] ot).1) (apS τ (sd (apartC c d)[m] ot).2) && (x1 && x2))) = true then 0 else 5), ()), ())) := by
   intro O hO'
   subst hO'
   rw [cin, cjn]
   simp only [Option.bind_some, lit_eta, z1, z2, b1.1, b2.1, m1, m2, Bool.not_not, inO]
   cases ovr (apS τ (sd c[n] sc).1) (apS τ (sd c[n] sc).2) <;> cases ovr (apS τ (sd (apartC c d)[m] ot).1) (apS τ (sd (apartC c d)[m] ot).2) <;> cases x1 <;> cases x2 <;> rfl
  rcases hot with rfl | rfl
  ·rw [if_pos (by decide), if_pos hlt, hget]
   simp only [Option.bind_some, Sum.elim_inl, hset]
   exact tail _ (by rw [← hO, ← hN]; rfl)
  ·rw [if_neg (by decide), if_pos hlt, hget]
   simp only [Option.bind_some, Sum.elim_inl, hset]
   exact tail _ (by rw [← hO, ← hN]; rfl)
 ·simp only [q_spec_l6Super, lc, ld, hci, hdj, h2, lit_eta, sd2, inq, huq, decide_eq_false h7, sign_eta, apS', hej, sc2t, se2, prS, u2, h9, ht, acS, aeS, Option.bind_some, Bool.not_true, Bool.false_eq_true, if_false]
  rw [L1]
  simp only [Option.bind_some, Sum.elim_inl, sign_eta]
  rw [L2]
  simp only [Option.bind_some, Sum.elim_inl, sign_eta, ccb, ceb, cout, Bool.not_true, Bool.false_eq_true, if_false]
  rw [lS]
  simp only [Option.bind_some]
  rw [rS]
  simp only [Option.bind_some, b1.2]
  cases ovr (apS τ (sd c[n] sc).1) (apS τ (sd c[n] sc).2) with
  | false =>
   simp only [Bool.not_false, if_true, outS, Option.bind_some]; rfl
  | true =>
   simp only [Bool.not_true, Bool.false_eq_true, if_false]
   rw [uS]
   simp only [Option.bind_some]
   rw [vS]
   simp only [Option.bind_some, b2.2]
   cases ovr (apS τ (sd (apartC c d)[m] ot).1) (apS τ (sd (apartC c d)[m] ot).2) with
   | false =>
    simp only [Bool.not_false, if_true, outS, Option.bind_some]; rfl
   | true =>
    simp only [Bool.not_true, Bool.false_eq_true, if_false, m1', m2', Option.bind_some]
    cases x1 with
    | false => simp only [Bool.not_false, if_true, outS, Option.bind_some]; rfl
    | true =>
     cases x2 with
     | false => simp only [Bool.not_true, Bool.not_false, Bool.false_eq_true, if_false, if_true, outS, Option.bind_some]; rfl
     | true => simp only [Bool.not_true, Bool.false_eq_true, if_false, outS, Option.bind_some]; rfl
end Go.Proofs.YtpmjpijpjmphnaaGreatWi.Ev

/- Plain laws: all ways of superposition, by both programs. No condition but sizes. -/
namespace Go.Proofs.YtpmjpijpjmphnaaGreatWi.Ev
open Go
set_option autoImplicit false
set_option linter.unusedVariables false
set_option linter.unusedSimpArgs false
section
variable (s : TSign) (hg : gS s.1 = true) (c d : List TLit) (hc : clOK s.1 c = true) (hd : clOK s.1 d = true)
include hg hc hd
theorem p_way5 (i sc j ot n1 n2 n3 n4 n5 n6 : Int) (x : TLit) (m1 m2 : Int) (D : List TLit) (m3 m4 : Int) (L : Nat) (hL : L ≤ 100) : ∀ (k q : Nat) (o : List TWay), q + k = L → o.length + k ≤ 1000000 → ∃ o', l_impl_Sign_waysInto_501652180174 M c d s o i sc j ot n1 n2 n3 n4 n5 n6 L q = some (.inl (c, d, s, o', i, sc, j, n1, n2, n3, n4, n5, n6, ())) ∧
  l_spec_l6Ways_31353025318 M c d s o i sc j x ot m1 m2 D m3 m4 L q = some (.inl (c, d, s, o', i, sc, j, x, ot, m1, m2, D, m3, m4, ())) ∧ o'.length ≤ o.length + k := by
 intro k
 induction k with
 | zero =>
  intro q o hq ho
  obtain rfl : q = L := by omega
  refine ⟨o, el_impl_Sign_waysInto_501652180174 _ _ _ _ _ _ _ _ _ _ _ _ _ _ _ _ ?_, el_spec_l6Ways_31353025318 _ _ _ _ _ _ _ _ _ _ _ _ _ _ _ _ ?_, by omega⟩
  ·simp only [ql_impl_Sign_waysInto_501652180174, sign_eta]
   rw [if_neg (by simp)]
  ·simp only [ql_spec_l6Ways_31353025318, sign_eta, lit_eta]
   rw [if_neg (by simp)]
 | succ k ih =>
  intro q o hq ho
  obtain ⟨r, r1, r2, _⟩ := p_super s hg c d hc hd i sc j ot (q : Int)
  by_cases h : r.1.2.1 = 0
  ·obtain ⟨o', e1, e2, e3⟩ := ih (q + 1) (o ++ [(i, sc, j, ot, (q : Int), ())]) (by omega) (by simp; omega)
   refine ⟨o', el_impl_Sign_waysInto_501652180174 _ _ _ _ _ _ _ _ _ _ _ _ _ _ _ _ ?_, el_spec_l6Ways_31353025318 _ _ _ _ _ _ _ _ _ _ _ _ _ _ _ _ ?_, by simp at e3; omega⟩
   ·simp only [ql_impl_Sign_waysInto_501652180174, sign_eta, r1, Option.bind_some]
    rw [if_pos (by simp; omega), if_pos (by simpa using h), if_pos (by simp; omega)]
    simp only [Option.bind_some, Sum.elim_inl, sign_eta]
    rw [inc_nat (by omega)]
    exact e1
   ·simp only [ql_spec_l6Ways_31353025318, sign_eta, lit_eta, r2, Option.bind_some]
    rw [if_pos (by simp; omega), if_pos (by simpa using h), if_pos (by simp; omega)]
    simp only [Option.bind_some, Sum.elim_inl, sign_eta, lit_eta]
    rw [inc_nat (by omega)]
    exact e2
  ·obtain ⟨o', e1, e2, e3⟩ := ih (q + 1) o (by omega) (by omega)
   refine ⟨o', el_impl_Sign_waysInto_501652180174 _ _ _ _ _ _ _ _ _ _ _ _ _ _ _ _ ?_, el_spec_l6Ways_31353025318 _ _ _ _ _ _ _ _ _ _ _ _ _ _ _ _ ?_, by omega⟩
   ·simp only [ql_impl_Sign_waysInto_501652180174, sign_eta, r1, Option.bind_some]
    rw [if_pos (by simp; omega), if_neg (by simpa using h)]
    simp only [Option.bind_some, Sum.elim_inl, sign_eta]
    rw [inc_nat (by omega)]
    exact e1
   ·simp only [ql_spec_l6Ways_31353025318, sign_eta, lit_eta, r2, Option.bind_some]
    rw [if_pos (by simp; omega), if_neg (by simpa using h)]
    simp only [Option.bind_some, Sum.elim_inl, sign_eta, lit_eta]
    rw [inc_nat (by omega)]
    exact e2
theorem p_way4 (i sc n1 n2 n3 n4 : Int) (j : Nat) (hj : j < d.length) (m1 m2 : Int) (D : List TLit) (m3 m4 : Int) : ∀ (k ot : Nat) (o : List TWay), ot + k = 2 → o.length + 100 * k ≤ 1000000 → ∃ o', l_impl_Sign_waysInto_979789414 M c d s o i sc j n1 n2 n3 n4 j ot = some (.inl (c, d, s, o', i, sc, n1, n2, n3, n4, (j : Int), ())) ∧
  l_spec_l6Ways_244945510 M c d s o i sc j d[j] ot m1 m2 D m3 m4 = some (.inl (c, d, s, o', i, sc, m1, m2, D, m3, m4, ())) ∧ o'.length ≤ o.length + 100 * k := by
 have d2 := (clOK_iff.1 hd).2
 intro k
 induction k with
 | zero =>
  intro ot o hq ho
  obtain rfl : ot = 2 := by omega
  refine ⟨o, el_impl_Sign_waysInto_979789414 _ _ _ _ _ _ _ _ _ _ _ _ _ ?_, el_spec_l6Ways_244945510 _ _ _ _ _ _ _ _ _ _ _ _ _ _ ?_, by omega⟩
  ·simp only [ql_impl_Sign_waysInto_979789414, sign_eta]
   rw [if_neg (by simp)]
  ·simp only [ql_spec_l6Ways_244945510, sign_eta]
   rw [if_neg (by simp)]
 | succ k ih =>
  intro ot o hq ho
  obtain ⟨s1, s2⟩ := p_sides d[j] (ot : Int)
  have hl := (isT_iff.1 (sd_isT (d2 _ (List.getElem_mem hj)) (ot : Int)).1).1
  obtain ⟨o1, e1, e2, e3⟩ := p_way5 s hg c d hc hd i sc j ot n1 n2 n3 n4 j ot d[j] m1 m2 D m3 m4 (sd d[j] (ot : Int)).1.length (by omega) (sd d[j] (ot : Int)).1.length 0 o (by omega) (by omega)
  rw [show ((0 : Nat) : Int) = 0 from rfl] at e1 e2
  obtain ⟨o', f1, f2, f3⟩ := ih (ot + 1) o1 (by omega) (by omega)
  refine ⟨o', el_impl_Sign_waysInto_979789414 _ _ _ _ _ _ _ _ _ _ _ _ _ ?_, el_spec_l6Ways_244945510 _ _ _ _ _ _ _ _ _ _ _ _ _ _ ?_, by omega⟩
  ·simp only [ql_impl_Sign_waysInto_979789414, sign_eta, idx_lt hj, lit_eta, Option.bind_some, s1, e1, Sum.elim_inl]
   rw [if_pos (by simp; omega), inc_nat (by omega)]
   exact f1
  ·simp only [ql_spec_l6Ways_244945510, sign_eta, lit_eta, Option.bind_some, s2, e2, Sum.elim_inl]
   rw [if_pos (by simp; omega), inc_nat (by omega)]
   exact f2
theorem p_way3 (i sc n1 n2 n3 m1 m2 : Int) : ∀ (k j : Nat) (o : List TWay), j + k = d.length → o.length + 200 * k ≤ 1000000 → ∃ o', l_impl_Sign_waysInto_3827302 M c d s o i sc n1 n2 n3 d.length j = some (.inl (c, d, s, o', i, n1, n2, n3, ())) ∧
  l_spec_l6Ways_956818 M c d s o i sc m1 m2 d d.length j = some (.inl (c, d, s, o', i, sc, m1, m2, ())) ∧ o'.length ≤ o.length + 200 * k := by
 have d1 := (clOK_iff.1 hd).1
 intro k
 induction k with
 | zero =>
  intro j o hq ho
  obtain rfl : j = d.length := by omega
  refine ⟨o, el_impl_Sign_waysInto_3827302 _ _ _ _ _ _ _ _ _ _ _ ?_, el_spec_l6Ways_956818 _ _ _ _ _ _ _ _ _ _ _ ?_, by omega⟩
  ·simp only [ql_impl_Sign_waysInto_3827302, sign_eta]
   rw [if_neg (by simp)]
  ·simp only [ql_spec_l6Ways_956818, sign_eta]
   rw [if_neg (by simp)]
 | succ k ih =>
  intro j o hq ho
  have hj : j < d.length := by omega
  obtain ⟨o1, e1, e2, e3⟩ := p_way4 s hg c d hc hd i sc n1 n2 n3 d.length j hj m1 m2 d d.length j 2 0 o (by omega) (by omega)
  rw [show ((0 : Nat) : Int) = 0 from rfl] at e1 e2
  obtain ⟨o', f1, f2, f3⟩ := ih (j + 1) o1 (by omega) (by omega)
  refine ⟨o', el_impl_Sign_waysInto_3827302 _ _ _ _ _ _ _ _ _ _ _ ?_, el_spec_l6Ways_956818 _ _ _ _ _ _ _ _ _ _ _ ?_, by omega⟩
  ·simp only [ql_impl_Sign_waysInto_3827302, sign_eta, e1, Option.bind_some, Sum.elim_inl]
   rw [if_pos (by simp; omega), inc_nat (by omega)]
   exact f1
  ·simp only [ql_spec_l6Ways_956818, sign_eta, lit_eta, idx_lt hj, e2, Option.bind_some, Sum.elim_inl]
   rw [if_pos (by simp; omega), inc_nat (by omega)]
   exact f2
theorem p_way2 (i n1 n2 m1 m2 : Int) : ∀ (k sc : Nat) (o : List TWay), sc + k = 2 → o.length + 2000 * k ≤ 1000000 → ∃ o', l_impl_Sign_waysInto_14950 M c d s o i n1 n2 sc = some (.inl (c, d, s, o', n1, n2, ())) ∧
  l_spec_l6Ways_14950 M c d s o i sc m1 m2 = some (.inl (c, d, s, o', m1, m2, ())) ∧ o'.length ≤ o.length + 2000 * k := by
 have d1 := (clOK_iff.1 hd).1
 intro k
 induction k with
 | zero =>
  intro sc o hq ho
  obtain rfl : sc = 2 := by omega
  refine ⟨o, el_impl_Sign_waysInto_14950 _ _ _ _ _ _ _ _ ?_, el_spec_l6Ways_14950 _ _ _ _ _ _ _ _ ?_, by omega⟩
  ·simp only [ql_impl_Sign_waysInto_14950, sign_eta]
   rw [if_neg (by simp)]
  ·simp only [ql_spec_l6Ways_14950, sign_eta]
   rw [if_neg (by simp)]
 | succ k ih =>
  intro sc o hq ho
  obtain ⟨o1, e1, e2, e3⟩ := p_way3 s hg c d hc hd i sc n1 n2 sc m1 m2 d.length 0 o (by omega) (by omega)
  rw [show ((0 : Nat) : Int) = 0 from rfl] at e1 e2
  obtain ⟨o', f1, f2, f3⟩ := ih (sc + 1) o1 (by omega) (by omega)
  refine ⟨o', el_impl_Sign_waysInto_14950 _ _ _ _ _ _ _ _ ?_, el_spec_l6Ways_14950 _ _ _ _ _ _ _ _ ?_, by omega⟩
  ·simp only [ql_impl_Sign_waysInto_14950, sign_eta, e1, Option.bind_some, Sum.elim_inl]
   rw [if_pos (by simp; omega), inc_nat (by omega)]
   exact f1
  ·simp only [ql_spec_l6Ways_14950, sign_eta, e2, Option.bind_some, Sum.elim_inl]
   rw [if_pos (by simp; omega), inc_nat (by omega)]
   exact f2
set_option maxRecDepth 20000 in
theorem p_way1 : ∀ (k i : Nat) (o : List TWay), i + k = c.length → o.length + 4000 * k ≤ 1000000 → ∃ o', l_impl_Sign_waysInto_58 M c d s o c.length i = some (.inl (o', ())) ∧
  l_spec_l6Ways_58 M c d s o c.length i = some (.inl (o', ())) ∧ o'.length ≤ o.length + 4000 * k := by
 have c1 := (clOK_iff.1 hc).1
 intro k
 induction k with
 | zero =>
  intro i o hq ho
  obtain rfl : i = c.length := by omega
  refine ⟨o, el_impl_Sign_waysInto_58 _ _ _ _ _ _ ?_, el_spec_l6Ways_58 _ _ _ _ _ _ ?_, by omega⟩
  ·simp only [ql_impl_Sign_waysInto_58, sign_eta]
   rw [if_neg (by simp)]
  ·simp only [ql_spec_l6Ways_58, sign_eta]
   rw [if_neg (by simp)]
 | succ k ih =>
  intro i o hq ho
  have hq2 : o.length + 2000 * 2 ≤ 1000000 := by
   have q1 : 2000 * 2 ≤ 4000 * (k + 1) := by omega
   exact Nat.le_trans (Nat.add_le_add_left q1 _) ho
  have hz2 : 0 + 2 = 2 := rfl
  obtain ⟨o1, e1, e2, e3⟩ := p_way2 s hg c d hc hd i c.length i c.length i 2 0 o hz2 hq2
  rw [show ((0 : Nat) : Int) = 0 from rfl] at e1 e2
  obtain ⟨o', f1, f2, f3⟩ := ih (i + 1) o1 (by omega) (by omega)
  refine ⟨o', el_impl_Sign_waysInto_58 _ _ _ _ _ _ ?_, el_spec_l6Ways_58 _ _ _ _ _ _ ?_, by omega⟩
  ·simp only [ql_impl_Sign_waysInto_58, sign_eta, e1, Option.bind_some, Sum.elim_inl]
   rw [if_pos (by simp; omega), inc_nat (by omega)]
   exact f1
  ·simp only [ql_spec_l6Ways_58, sign_eta, e2, Option.bind_some, Sum.elim_inl]
   rw [if_pos (by simp; omega), inc_nat (by omega)]
   exact f2
theorem p_ways : ∃ o : List TWay, c_impl_Sign_waysInto M s c d = some ((o, ()), ()) ∧ c_spec_l6Ways M s c d = some ((o, ()), ()) ∧ o.length ≤ 40000 := by
 have c1 := (clOK_iff.1 hc).1
 have hq : ([] : List TWay).length + 4000 * c.length ≤ 1000000 := by
  have e : ([] : List TWay).length = 0 := rfl
  rw [e]
  omega
 have hz : 0 + c.length = c.length := Nat.zero_add _
 obtain ⟨o, e1, e2, e3⟩ := p_way1 s hg c d hc hd c.length 0 [] hz hq
 rw [show ((0 : Nat) : Int) = 0 from rfl] at e1 e2
 refine ⟨o, e_impl_Sign_waysInto _ _ _ ?_, e_spec_l6Ways _ _ _ ?_, by simp only [List.length_nil] at e3; omega⟩
 ·simp only [q_impl_Sign_waysInto, sign_eta, e1, Option.bind_some, Sum.elim_inl]
 ·simp only [q_spec_l6Ways, sign_eta, e2, Option.bind_some, Sum.elim_inl]
end
theorem p_WaysIntos (s : TSign) (hs : s.1.length ≤ 1048576) (c d : List TLit) (hc : c.length ≤ 1048576) (hcx : ∀ x ∈ c, smL x) (hd : d.length ≤ 1048576) (hdx : ∀ x ∈ d, smL x) : ∃ r : (List TWay × Bool × Unit) × Unit, c_spec_WaysInto M s c d = some r ∧ c_impl_WaysInto M s c d = some r ∧ r.1.1.length ≤ 40000 := by
 cases h1 : (gS s.1 && clOK s.1 c) with
 | false =>
  refine ⟨(([], false, ()), ()), e_spec_WaysInto _ _ _ ?_, e_impl_WaysInto _ _ _ ?_, by simp⟩
  ·simp only [q_spec_WaysInto, sign_eta', p_spec_GoodClause s hs c hc hcx, h1, Option.bind_some]; rfl
  ·simp only [q_impl_WaysInto, sign_eta', p_impl_GoodClause s hs c hc, h1, Option.bind_some]; rfl
 | true =>
  have h1' := h1
  simp only [Bool.and_eq_true] at h1'
  obtain ⟨hg, h2⟩ := h1'
  cases h3 : clOK s.1 d with
  | false =>
   refine ⟨(([], false, ()), ()), e_spec_WaysInto _ _ _ ?_, e_impl_WaysInto _ _ _ ?_, by simp⟩
   ·simp only [q_spec_WaysInto, sign_eta', p_spec_GoodClause s hs c hc hcx, h1, Option.bind_some, p_l4Clause s hg d hd hdx, h3]; rfl
   ·simp only [q_impl_WaysInto, sign_eta', p_impl_GoodClause s hs c hc, h1, Option.bind_some, p_isClause s hg d hd, h3]; rfl
  | true =>
   obtain ⟨o, r1, r2, r3⟩ := p_ways s hg c d h2 h3
   refine ⟨((o, true, ()), ()), e_spec_WaysInto _ _ _ ?_, e_impl_WaysInto _ _ _ ?_, r3⟩
   ·simp only [q_spec_WaysInto, sign_eta', p_spec_GoodClause s hs c hc hcx, h1, Option.bind_some, p_l4Clause s hg d hd hdx, h3, r2]; rfl
   ·simp only [q_impl_WaysInto, sign_eta', p_impl_GoodClause s hs c hc, h1, Option.bind_some, p_isClause s hg d hd, h3, r1]; rfl
end Go.Proofs.YtpmjpijpjmphnaaGreatWi.Ev

/- Plain laws: the laws' own copying, comparing and counting functions answer as they should, at lists that memory can hold. -/
namespace Go.Proofs.YtpmjpijpjmphnaaGreatWi.Ev
open Go
set_option autoImplicit false
set_option linter.unusedVariables false
set_option linter.unusedSimpArgs false
theorem p_toIntS_loop (a : List Int) (ha : a.length ≤ 17592186044416) : ∀ k i : Nat, i + k = a.length → ∀ o : List Int, o.length = a.length → l_laws_toIntS_58 M a o i = some (.inl (o.take i ++ a.drop i, ())) := by
 intro k
 induction k with
 | zero =>
  intro i hi o ho
  obtain rfl : i = a.length := by omega
  apply el_laws_toIntS_58
  simp only [ql_laws_toIntS_58, Int.lt_irrefl, decide_false, Bool.false_eq_true, if_false, List.drop_length, List.append_nil]
  rw [← ho, List.take_length]
 | succ k ih =>
  intro i hi o ho
  apply el_laws_toIntS_58
  have h1 : i < a.length := by omega
  have h2 : i < o.length := by omega
  simp only [ql_laws_toIntS_58]
  rw [if_pos (by simpa using h1), idx_lt h1, inc_nat (by omega)]
  simp only [Option.bind_some]
  rw [if_pos (by omega)]
  simp only [Option.bind_some, Int.toNat_natCast, List.getElem?_eq_getElem h2]
  rw [ih (i + 1) (by omega) _ (by simpa using ho)]
  rw [List.take_set, List.take_succ_eq_append_getElem h2, List.set_append_right _ _ (by simp; omega), List.drop_eq_getElem_cons h1]
  simp [Nat.min_eq_left (Nat.le_of_lt h2)]
theorem p_toIntS (a : List Int) (ha : a.length ≤ 17592186044416) : c_laws_toIntS M a = some ((a, ()), ()) := by
 apply e_laws_toIntS
 simp only [q_laws_toIntS]
 rw [if_pos (by refine ⟨by omega, by omega, trivial⟩)]
 have := p_toIntS_loop a ha a.length 0 (by omega) (List.replicate a.length 0) (by simp)
 simp only [Int.toNat_natCast]
 rw [show ((0 : Nat) : Int) = 0 from rfl] at this
 rw [this]
 simp
theorem p_eqIntS_loop (a : List Int) (ha : a.length ≤ 17592186044416) : ∀ k i : Nat, i + k = a.length → l_laws_eqIntS_58 M a a i = some (.inl ()) := by
 intro k
 induction k with
 | zero =>
  intro i hi
  obtain rfl : i = a.length := by omega
  apply el_laws_eqIntS_58
  simp only [ql_laws_eqIntS_58, Int.lt_irrefl, decide_false, Bool.false_eq_true, if_false]
 | succ k ih =>
  intro i hi
  apply el_laws_eqIntS_58
  have h1 : i < a.length := by omega
  simp only [ql_laws_eqIntS_58]
  rw [if_pos (by simpa using h1), idx_lt h1, inc_nat (by omega)]
  simp only [Option.bind_some, bne_self_eq_false, Bool.false_eq_true, if_false]
  exact ih (i + 1) (by omega)
theorem p_eqIntS (a : List Int) (ha : a.length ≤ 17592186044416) : c_laws_eqIntS M a a = some ((true, ()), ()) := by
 apply e_laws_eqIntS
 simp only [q_laws_eqIntS, bne_self_eq_false, Bool.false_eq_true, if_false]
 have := p_eqIntS_loop a ha a.length 0 (by omega)
 rw [show ((0 : Nat) : Int) = 0 from rfl] at this
 rw [this]
 rfl
theorem p_szIntS (a : List Int) (n : Int) (hn : 0 ≤ n) (hn' : n ≤ 1048576) (ha : a.length ≤ 9223372036854775807) : c_laws_szIntS M a n = some ((if n - a.length < 0 then -1 else n - a.length, ()), ()) := by
 apply e_laws_szIntS
 simp only [q_laws_szIntS, decide_eq_true_eq]
 rw [w64 (by omega) (by omega)]
 split <;> rfl
theorem p_szSign (s : TSign) (n : Int) (hn : 0 ≤ n) (hn' : n ≤ 1048576) (ha : s.1.length ≤ 9223372036854775807) : ∃ r : Int, c_laws_szSign M s n = some ((r, ()), ()) ∧ r ≤ n ∧ (0 ≤ r → s.1.length ≤ 1048576) := by
 refine ⟨if n - s.1.length < 0 then -1 else n - s.1.length, ?_, by split <;> omega, by split <;> omega⟩
 apply e_laws_szSign
 simp only [q_laws_szSign, p_szIntS s.1 n hn hn' ha, Option.bind_some, decide_eq_true_eq]
 by_cases h : n - (s.1.length : Int) < 0
 ·simp [h]
 ·simp [h]
theorem p_toSign (s : TSign) (ha : s.1.length ≤ 17592186044416) : c_laws_toSign M s = some ((s, ()), ()) := by
 apply e_laws_toSign
 simp only [q_laws_toSign, p_toIntS s.1 ha, Option.bind_some]
theorem p_eqSign (s : TSign) (ha : s.1.length ≤ 17592186044416) : c_laws_eqSign M s s = some ((true, ()), ()) := by
 apply e_laws_eqSign
 simp only [q_laws_eqSign, p_eqIntS s.1 ha, Option.bind_some, Bool.not_true, Bool.false_eq_true, if_false]
end Go.Proofs.YtpmjpijpjmphnaaGreatWi.Ev

/- Plain laws: literals, compared. No condition but sizes. -/
namespace Go.Proofs.YtpmjpijpjmphnaaGreatWi.Ev
open Go
set_option autoImplicit false
set_option linter.unusedVariables false
set_option linter.unusedSimpArgs false
theorem p_eqLit (x : TLit) (h : smL x) : c_laws_eqLit M x x = some ((true, ()), ()) := by
 apply e_laws_eqLit
 simp only [q_laws_eqLit, p_eqIntS x.2.1 (by have := h.1; omega), p_eqIntS x.2.2.1 (by have := h.2; omega), Option.bind_some]
 simp
theorem p_eqLitS_loop (a : List TLit) (ha : a.length ≤ 1048576) (hx : ∀ x ∈ a, smL x) : ∀ k i : Nat, i + k = a.length → l_laws_eqLitS_58 M a a i = some (.inl ()) := by
 intro k
 induction k with
 | zero =>
  intro i hi
  obtain rfl : i = a.length := by omega
  apply el_laws_eqLitS_58
  simp only [ql_laws_eqLitS_58, Int.lt_irrefl, decide_false, Bool.false_eq_true, if_false]
 | succ k ih =>
  intro i hi
  apply el_laws_eqLitS_58
  have h1 : i < a.length := by omega
  simp only [ql_laws_eqLitS_58]
  rw [if_pos (by simpa using h1), idx_lt h1, inc_nat (by omega)]
  simp only [Option.bind_some, lit_eta, p_eqLit a[i] (hx _ (List.getElem_mem h1)), Bool.not_true, Bool.false_eq_true, if_false]
  exact ih (i + 1) (by omega)
theorem p_eqLitS (a : List TLit) (ha : a.length ≤ 1048576) (hx : ∀ x ∈ a, smL x) : c_laws_eqLitS M a a = some ((true, ()), ()) := by
 apply e_laws_eqLitS
 simp only [q_laws_eqLitS, bne_self_eq_false, Bool.false_eq_true, if_false]
 have := p_eqLitS_loop a ha hx a.length 0 (by omega)
 rw [show ((0 : Nat) : Int) = 0 from rfl] at this
 rw [this]
 rfl
end Go.Proofs.YtpmjpijpjmphnaaGreatWi.Ev

/- Plain laws: clauses, as the laws copy, compare and count them. No condition but sizes. -/
namespace Go.Proofs.YtpmjpijpjmphnaaGreatWi.Ev
open Go
set_option autoImplicit false
set_option linter.unusedVariables false
set_option linter.unusedSimpArgs false
theorem p_toLit (x : TLit) (h : smL x) : c_laws_toLit M x = some ((x, ()), ()) := by
 apply e_laws_toLit
 simp only [q_laws_toLit, p_toIntS x.2.1 (by have := h.1; omega), p_toIntS x.2.2.1 (by have := h.2; omega), Option.bind_some]
theorem p_toLitS_loop (a : List TLit) (ha : a.length ≤ 1048576) (hx : ∀ x ∈ a, smL x) : ∀ k i : Nat, i + k = a.length → ∀ o : List TLit, o.length = a.length → l_laws_toLitS_58 M a o i = some (.inl (o.take i ++ a.drop i, ())) := by
 intro k
 induction k with
 | zero =>
  intro i hi o ho
  obtain rfl : i = a.length := by omega
  apply el_laws_toLitS_58
  simp only [ql_laws_toLitS_58, Int.lt_irrefl, decide_false, Bool.false_eq_true, if_false, List.drop_length, List.append_nil]
  rw [← ho, List.take_length]
 | succ k ih =>
  intro i hi o ho
  apply el_laws_toLitS_58
  have h1 : i < a.length := by omega
  have h2 : i < o.length := by omega
  simp only [ql_laws_toLitS_58]
  rw [if_pos (by simpa using h1), idx_lt h1, inc_nat (by omega)]
  simp only [Option.bind_some, lit_eta, p_toLit a[i] (hx _ (List.getElem_mem h1))]
  rw [if_pos (by omega)]
  simp only [Option.bind_some, Int.toNat_natCast, List.getElem?_eq_getElem h2]
  rw [ih (i + 1) (by omega) _ (by simpa using ho)]
  rw [List.take_set, List.take_succ_eq_append_getElem h2, List.set_append_right _ _ (by simp; omega), List.drop_eq_getElem_cons h1]
  simp [Nat.min_eq_left (Nat.le_of_lt h2)]
theorem p_toLitS (a : List TLit) (ha : a.length ≤ 1048576) (hx : ∀ x ∈ a, smL x) : c_laws_toLitS M a = some ((a, ()), ()) := by
 apply e_laws_toLitS
 simp only [q_laws_toLitS]
 rw [if_pos (by refine ⟨by omega, by omega, trivial⟩)]
 have := p_toLitS_loop a ha hx a.length 0 (by omega) (List.replicate a.length (false, [], [], ())) (by simp)
 simp only [Int.toNat_natCast]
 rw [show ((0 : Nat) : Int) = 0 from rfl] at this
 rw [this]
 simp
def wlL (x : TLit) : Prop := x.2.1.length ≤ 9223372036854775807 ∧ x.2.2.1.length ≤ 9223372036854775807
theorem p_szLit (x : TLit) (n : Int) (hn : 0 ≤ n) (hn' : n ≤ 1048576) (hx : wlL x) : ∃ r : Int, c_laws_szLit M x n = some ((r, ()), ()) ∧ r ≤ n ∧ (0 ≤ r → smL x) := by
 by_cases h1 : n - x.2.1.length < 0
 ·refine ⟨-1, e_laws_szLit _ _ ?_, by omega, by omega⟩
  simp only [q_laws_szLit, p_szIntS x.2.1 n hn hn' hx.1, Option.bind_some, if_pos h1]
  rfl
 ·by_cases h2 : n - x.2.1.length - x.2.2.1.length < 0
  ·refine ⟨-1, e_laws_szLit _ _ ?_, by omega, by omega⟩
   simp only [q_laws_szLit, p_szIntS x.2.1 n hn hn' hx.1, Option.bind_some, if_neg h1, decide_eq_true_eq, p_szIntS x.2.2.1 (n - x.2.1.length) (by omega) (by omega) hx.2, if_pos h2]
   rfl
  ·refine ⟨n - x.2.1.length - x.2.2.1.length, e_laws_szLit _ _ ?_, by omega, fun _ => ⟨by omega, by omega⟩⟩
   simp only [q_laws_szLit, p_szIntS x.2.1 n hn hn' hx.1, Option.bind_some, if_neg h1, decide_eq_true_eq, p_szIntS x.2.2.1 (n - x.2.1.length) (by omega) (by omega) hx.2, if_neg h2]
theorem p_szLitS_loop (a : List TLit) (ha : a.length ≤ 1048576) (hx : ∀ x ∈ a, wlL x) : ∀ (k i : Nat) (n : Int), i + k = a.length → 0 ≤ n → n ≤ 1048576 → (∀ x ∈ a.take i, smL x) →
  ∃ r, l_laws_szLitS_122 M a n i = some r ∧ (match r with | .inl y => 0 ≤ y.1 ∧ y.1 ≤ n ∧ ∀ x ∈ a, smL x | .inr y => y.1.1 = -1) := by
 intro k
 induction k with
 | zero =>
  intro i n hi h0 hn hs
  obtain rfl : i = a.length := by omega
  refine ⟨.inl (n, ()), el_laws_szLitS_122 _ _ _ (by simp [ql_laws_szLitS_122]), h0, Int.le_refl _, by simpa using hs⟩
 | succ k ih =>
  intro i n hi h0 hn hs
  have h1 : i < a.length := by omega
  obtain ⟨m, hm, hm1, hm2⟩ := p_szLit a[i] n h0 hn (hx _ (List.getElem_mem h1))
  by_cases hneg : m < 0
  ·refine ⟨.inr ((-1, ()), ()), el_laws_szLitS_122 _ _ _ ?_, rfl⟩
   simp only [ql_laws_szLitS_122]
   rw [if_pos (by simpa using h1), idx_lt h1]
   simp only [Option.bind_some, lit_eta, hm]
   rw [if_pos (by simpa using hneg)]
  ·obtain ⟨r, hr, hp⟩ := ih (i + 1) m (by omega) (by omega) (by omega) (by
    intro x hx'
    rw [List.take_succ_eq_append_getElem h1] at hx'
    rcases List.mem_append.1 hx' with h | h
    ·exact hs x h
    ·rw [List.mem_singleton.1 h]; exact hm2 (by omega))
   refine ⟨r, el_laws_szLitS_122 _ _ _ ?_, ?_⟩
   ·simp only [ql_laws_szLitS_122]
    rw [if_pos (by simpa using h1), idx_lt h1, inc_nat (by omega)]
    simp only [Option.bind_some, lit_eta, hm]
    rw [if_neg (by simpa using hneg)]
    exact hr
   ·cases r with
    | inl y => exact ⟨hp.1, by have := hp.2.1; omega, hp.2.2⟩
    | inr y => exact hp
theorem p_szLitS (a : List TLit) (n : Int) (hn : 0 ≤ n) (hn' : n ≤ 1048576) (ha : a.length ≤ 9223372036854775807) (hx : ∀ x ∈ a, wlL x) : ∃ r : Int, c_laws_szLitS M a n = some ((r, ()), ()) ∧ r ≤ n ∧ (0 ≤ r → a.length ≤ 1048576 ∧ ∀ x ∈ a, smL x) := by
 have hw : IntKind.i64.wrap (n - a.length) = n - a.length := w64 (by omega) (by omega)
 by_cases h1 : n - a.length < 0
 ·refine ⟨-1, e_laws_szLitS _ _ ?_, by omega, by omega⟩
  simp only [q_laws_szLitS, hw]
  rw [if_pos (by simpa using h1)]
 ·obtain ⟨r, hr, hp⟩ := p_szLitS_loop a (by omega) hx a.length 0 (n - a.length) (by omega) (by omega) (by omega) (by simp)
  rw [show ((0 : Nat) : Int) = 0 from rfl] at hr
  cases r with
  | inl y =>
   refine ⟨y.1, e_laws_szLitS _ _ ?_, by have := hp.2.1; omega, fun _ => ⟨by omega, hp.2.2⟩⟩
   simp only [q_laws_szLitS, hw]
   rw [if_neg (by simpa using h1), hr]
   rfl
  | inr y =>
   obtain ⟨⟨y, _⟩, _⟩ := y
   simp only at hp
   subst hp
   refine ⟨-1, e_laws_szLitS _ _ ?_, by omega, by omega⟩
   simp only [q_laws_szLitS, hw]
   rw [if_neg (by simpa using h1), hr]
   rfl
end Go.Proofs.YtpmjpijpjmphnaaGreatWi.Ev

/- Plain laws: what the laws write into rows to tell whether they are shared. No condition but sizes. -/
namespace Go.Proofs.YtpmjpijpjmphnaaGreatWi.Ev
open Go
set_option autoImplicit false
set_option linter.unusedVariables false
set_option linter.unusedSimpArgs false
/-- Numbers from one on. -/
def mkS (k : Int) : Nat → List Int
 | 0 => []
 | n + 1 => k :: mkS (k + 1) n
theorem mkS_len : ∀ (n : Nat) (k : Int), (mkS k n).length = n
 | 0, _ => rfl
 | n + 1, k => by simp [mkS, mkS_len n]
theorem set_mid {α : Type} (P R : List α) (x y : α) : (P ++ x :: R).set P.length y = P ++ y :: R := by
 rw [List.set_append_right _ _ (Nat.le_refl _)]; simp
theorem get_mid {α : Type} (P R : List α) (x : α) : (P ++ x :: R)[P.length]? = some x := by simp
theorem idx_midQ {α : Type} (P R : List α) (x : α) : idx (P ++ x :: R) (P.length : Int) = some x := by rw [idx_nat]; simp
theorem p_markIntS_loop : ∀ (R P : List Int) (k : Int), 0 ≤ k → k + R.length ≤ 4611686018427387904 → P.length + R.length ≤ 4611686018427387904 → l_laws_markIntS_26 M (P ++ R) k P.length = some (.inl (P ++ mkS k R.length, k + R.length, ())) := by
 intro R
 induction R with
 | nil =>
  intro P k _ _ _
  apply el_laws_markIntS_26
  simp [ql_laws_markIntS_26, mkS]
 | cons x R ih =>
  intro P k h0 hk hp
  simp only [List.length_cons] at hk hp
  apply el_laws_markIntS_26
  simp only [ql_laws_markIntS_26]
  rw [if_pos (by simp; omega), if_pos (by simp; omega), Int.toNat_natCast, get_mid, set_mid, w64 (x := k + 1) (by omega) (by omega), inc_nat (by omega)]
  simp only [Option.bind_some]
  have := ih (P ++ [k]) (k + 1) (by omega) (by omega) (by simp; omega)
  rw [List.append_assoc, List.length_append] at this
  simp only [List.cons_append, List.nil_append, List.length_cons, List.length_nil, Nat.zero_add] at this
  rw [this]
  simp only [List.length_cons, mkS, List.append_assoc, List.cons_append, List.nil_append]
  rw [show k + 1 + (R.length : Int) = k + ((R.length + 1 : Nat) : Int) by omega]
theorem p_markIntS (a : List Int) (k : Int) (h0 : 0 ≤ k) (hk : k + a.length ≤ 4611686018427387904) : c_laws_markIntS M a k = some ((k + a.length, ()), (mkS k a.length, ())) := by
 apply e_laws_markIntS
 have := p_markIntS_loop a [] k h0 hk (by simp; omega)
 simp only [List.nil_append, List.length_nil] at this
 rw [show ((0 : Nat) : Int) = 0 from rfl] at this
 simp only [q_laws_markIntS, this, Option.bind_some, Sum.elim_inl]
theorem p_markSign (s : TSign) (k : Int) (h0 : 0 ≤ k) (hk : k + s.1.length ≤ 4611686018427387904) : c_laws_markSign M s k = some ((k + s.1.length, ()), ((mkS k s.1.length, ()), ())) := by
 apply e_laws_markSign
 simp only [q_laws_markSign, p_markIntS s.1 k h0 hk, Option.bind_some]
end Go.Proofs.YtpmjpijpjmphnaaGreatWi.Ev

/- Plain laws: marks in literals. No condition but sizes. -/
namespace Go.Proofs.YtpmjpijpjmphnaaGreatWi.Ev
open Go
set_option autoImplicit false
set_option linter.unusedVariables false
set_option linter.unusedSimpArgs false
/-- How many marks literals take. -/
def totL : List TLit → Nat
 | [] => 0
 | x :: r => 1 + x.2.1.length + x.2.2.1.length + totL r
/-- Literals with marks. -/
def mkL (k : Int) : List TLit → List TLit
 | [] => []
 | x :: r => (((Int.tmod k 3) == 0), mkS (k + 1) x.2.1.length, mkS (k + 1 + x.2.1.length) x.2.2.1.length, ()) :: mkL (k + 1 + x.2.1.length + x.2.2.1.length) r
theorem mkL_len : ∀ (r : List TLit) (k : Int), (mkL k r).length = r.length
 | [], _ => rfl
 | x :: r, k => by simp [mkL, mkL_len r]
theorem totL_le : ∀ (r : List TLit), (∀ x ∈ r, smL x) → totL r ≤ 2097153 * r.length
 | [], _ => by simp [totL]
 | x :: r, h => by
  have h1 := h x (by simp)
  have h2 := totL_le r (fun y hy => h y (by simp [hy]))
  have h3 := h1.1
  have h4 := h1.2
  simp only [totL, List.length_cons]
  omega
theorem p_markLitS_loop : ∀ (R P : List TLit) (k : Int), 0 ≤ k → k + totL R ≤ 4611686018427387904 → P.length + R.length ≤ 4611686018427387904 → l_laws_markLitS_26 M (P ++ R) k P.length = some (.inl (P ++ mkL k R, k + totL R, ())) := by
 intro R
 induction R with
 | nil =>
  intro P k _ _ _
  apply el_laws_markLitS_26
  simp [ql_laws_markLitS_26, mkL, totL]
 | cons x R ih =>
  intro P k h0 hk hp
  simp only [List.length_cons, totL] at hk hp
  apply el_laws_markLitS_26
  simp only [ql_laws_markLitS_26]
  rw [if_pos (by simp; omega), if_neg (by omega), if_pos (by simp; omega), Int.toNat_natCast, get_mid, inc_nat (by omega), w64 (x := k + 1) (by omega) (by omega)]
  simp only [Option.bind_some]
  rw [set_mid, if_pos (by simp; omega), get_mid]
  simp only [Option.bind_some]
  rw [p_markIntS x.2.1 (k + 1) (by omega) (by omega)]
  simp only [Option.bind_some]
  rw [set_mid, if_pos (by simp; omega), get_mid]
  simp only [Option.bind_some]
  rw [p_markIntS x.2.2.1 (k + 1 + x.2.1.length) (by omega) (by omega)]
  simp only [Option.bind_some]
  rw [set_mid]
  have := ih (P ++ [(((Int.tmod k 3) == 0), mkS (k + 1) x.2.1.length, mkS (k + 1 + x.2.1.length) x.2.2.1.length, ())]) (k + 1 + x.2.1.length + x.2.2.1.length) (by omega) (by omega) (by simp; omega)
  rw [List.append_assoc, List.length_append] at this
  simp only [List.cons_append, List.nil_append, List.length_cons, List.length_nil, Nat.zero_add] at this
  rw [this]
  simp only [mkL, totL, List.append_assoc, List.cons_append, List.nil_append]
  rw [show k + 1 + (x.2.1.length : Int) + (x.2.2.1.length : Int) + (totL R : Int) = k + ((1 + x.2.1.length + x.2.2.1.length + totL R : Nat) : Int) by omega]
theorem p_markLitS (a : List TLit) (k : Int) (h0 : 0 ≤ k) (hk : k + totL a ≤ 4611686018427387904) (hl : a.length ≤ 4611686018427387904) : c_laws_markLitS M a k = some ((k + totL a, ()), (mkL k a, ())) := by
 apply e_laws_markLitS
 have := p_markLitS_loop a [] k h0 hk (by simp; omega)
 simp only [List.nil_append, List.length_nil] at this
 rw [show ((0 : Nat) : Int) = 0 from rfl] at this
 simp only [q_laws_markLitS, this, Option.bind_some, Sum.elim_inl]
end Go.Proofs.YtpmjpijpjmphnaaGreatWi.Ev

/- Plain laws: FnExactWaysInto. No condition but sizes. -/
namespace Go.Proofs.YtpmjpijpjmphnaaGreatWi.Ev
open Go
set_option autoImplicit false
set_option linter.unusedVariables false
set_option linter.unusedSimpArgs false
theorem way_eta (w : TWay) : (w.1, w.2.1, w.2.2.1, w.2.2.2.1, w.2.2.2.2.1, ()) = w := by
 obtain ⟨_, _, _, _, _, ⟨⟩⟩ := w
 rfl
theorem p_eqWay (x : TWay) : c_laws_eqWay M x x = some ((true, ()), ()) := by
 apply e_laws_eqWay
 simp [q_laws_eqWay]
theorem p_eqWayS_loop (a : List TWay) (ha : a.length ≤ 1048576) : ∀ k i : Nat, i + k = a.length → l_laws_eqWayS_58 M a a i = some (.inl ()) := by
 intro k
 induction k with
 | zero =>
  intro i hi
  obtain rfl : i = a.length := by omega
  apply el_laws_eqWayS_58
  simp only [ql_laws_eqWayS_58, Int.lt_irrefl, decide_false, Bool.false_eq_true, if_false]
 | succ k ih =>
  intro i hi
  apply el_laws_eqWayS_58
  have h1 : i < a.length := by omega
  simp only [ql_laws_eqWayS_58]
  rw [if_pos (by simpa using h1), idx_lt h1, inc_nat (by omega)]
  simp only [Option.bind_some, way_eta, p_eqWay a[i], Bool.not_true, Bool.false_eq_true, if_false]
  exact ih (i + 1) (by omega)
theorem p_eqWayS (a : List TWay) (ha : a.length ≤ 1048576) : c_laws_eqWayS M a a = some ((true, ()), ()) := by
 apply e_laws_eqWayS
 simp only [q_laws_eqWayS, bne_self_eq_false, Bool.false_eq_true, if_false]
 have := p_eqWayS_loop a ha a.length 0 (by omega)
 rw [show ((0 : Nat) : Int) = 0 from rfl] at this
 rw [this]
 rfl
/-- Ways with marks. -/
def mkW (k : Int) : Nat → List TWay
 | 0 => []
 | n + 1 => (k, k + 1, k + 1 + 1, k + 1 + 1 + 1, k + 1 + 1 + 1 + 1, ()) :: mkW (k + 1 + 1 + 1 + 1 + 1) n
theorem mkW_len : ∀ (n : Nat) (k : Int), (mkW k n).length = n
 | 0, _ => rfl
 | n + 1, k => by simp [mkW, mkW_len n]
theorem p_markWayS_loop : ∀ (R P : List TWay) (k : Int), 0 ≤ k → k + 5 * R.length ≤ 4611686018427387904 → P.length + R.length ≤ 4611686018427387904 → l_laws_markWayS_26 M (P ++ R) k P.length = some (.inl (P ++ mkW k R.length, k + 5 * R.length, ())) := by
 intro R
 induction R with
 | nil =>
  intro P k _ _ _
  apply el_laws_markWayS_26
  simp [ql_laws_markWayS_26, mkW]
 | cons x R ih =>
  intro P k h0 hk hp
  simp only [List.length_cons] at hk hp
  apply el_laws_markWayS_26
  simp only [ql_laws_markWayS_26]
  rw [if_pos (by simp; omega), if_pos (by simp; omega), Int.toNat_natCast, get_mid, inc_nat (by omega), w64 (x := k + 1) (by omega) (by omega)]
  simp only [Option.bind_some]
  rw [set_mid, if_pos (by simp; omega), get_mid, w64 (x := k + 1 + 1) (by omega) (by omega)]
  simp only [Option.bind_some]
  rw [set_mid, if_pos (by simp; omega), get_mid, w64 (x := k + 1 + 1 + 1) (by omega) (by omega)]
  simp only [Option.bind_some]
  rw [set_mid, if_pos (by simp; omega), get_mid, w64 (x := k + 1 + 1 + 1 + 1) (by omega) (by omega)]
  simp only [Option.bind_some]
  rw [set_mid, if_pos (by simp; omega), get_mid, w64 (x := k + 1 + 1 + 1 + 1 + 1) (by omega) (by omega)]
  simp only [Option.bind_some]
  rw [set_mid]
  have := ih (P ++ [(k, k + 1, k + 1 + 1, k + 1 + 1 + 1, k + 1 + 1 + 1 + 1, ())]) (k + 1 + 1 + 1 + 1 + 1) (by omega) (by omega) (by simp; omega)
  rw [List.append_assoc, List.length_append] at this
  simp only [List.cons_append, List.nil_append, List.length_cons, List.length_nil, Nat.zero_add] at this
  rw [this]
  simp only [mkW, List.append_assoc, List.cons_append, List.nil_append, List.length_cons]
  rw [show k + 1 + 1 + 1 + 1 + 1 + 5 * (R.length : Int) = k + 5 * ((R.length + 1 : Nat) : Int) by omega]
theorem p_markWayS (a : List TWay) (k : Int) (h0 : 0 ≤ k) (hk : k + 5 * a.length ≤ 4611686018427387904) (hl : a.length ≤ 4611686018427387904) : c_laws_markWayS M a k = some ((k + 5 * a.length, ()), (mkW k a.length, ())) := by
 apply e_laws_markWayS
 have := p_markWayS_loop a [] k h0 hk (by simp; omega)
 simp only [List.nil_append, List.length_nil] at this
 rw [show ((0 : Nat) : Int) = 0 from rfl] at this
 simp only [q_laws_markWayS, this, Option.bind_some, Sum.elim_inl]
theorem p_heldWayS_loop : ∀ (n : Nat) (P : List TWay) (k : Int), 0 ≤ k → k + 5 * n ≤ 4611686018427387904 → P.length + n ≤ 4611686018427387904 → l_laws_heldWayS_26 M (P ++ mkW k n) k P.length = some (.inl (k + 5 * n, ())) := by
 intro n
 induction n with
 | zero =>
  intro P k _ _ _
  apply el_laws_heldWayS_26
  simp [ql_laws_heldWayS_26, mkW]
 | succ n ih =>
  intro P k h0 hk hp
  rw [show mkW k (n + 1) = (k, k + 1, k + 1 + 1, k + 1 + 1 + 1, k + 1 + 1 + 1 + 1, ()) :: mkW (k + 1 + 1 + 1 + 1 + 1) n from rfl]
  apply el_laws_heldWayS_26
  simp only [ql_laws_heldWayS_26]
  rw [if_pos (by simp [mkW_len]; omega), idx_midQ, inc_nat (by omega), w64 (x := k + 1) (by omega) (by omega)]
  simp only [Option.bind_some]
  rw [w64 (x := k + 1 + 1) (by omega) (by omega), w64 (x := k + 1 + 1 + 1) (by omega) (by omega), w64 (x := k + 1 + 1 + 1 + 1) (by omega) (by omega), w64 (x := k + 1 + 1 + 1 + 1 + 1) (by omega) (by omega), if_neg (by simp), if_neg (by simp), if_neg (by simp), if_neg (by simp), if_neg (by simp)]
  have := ih (P ++ [(k, k + 1, k + 1 + 1, k + 1 + 1 + 1, k + 1 + 1 + 1 + 1, ())]) (k + 1 + 1 + 1 + 1 + 1) (by omega) (by omega) (by simp; omega)
  rw [List.append_assoc, List.length_append] at this
  simp only [List.cons_append, List.nil_append, List.length_cons, List.length_nil, Nat.zero_add] at this
  rw [this]
  rw [show k + 1 + 1 + 1 + 1 + 1 + 5 * (n : Int) = k + 5 * ((n + 1 : Nat) : Int) by omega]
theorem p_heldWayS (n : Nat) (k : Int) (h0 : 0 ≤ k) (hk : k + 5 * n ≤ 4611686018427387904) : c_laws_heldWayS M (mkW k n) k = some ((k + 5 * n, ()), ()) := by
 apply e_laws_heldWayS
 have := p_heldWayS_loop n [] k h0 hk (by simp; omega)
 simp only [List.nil_append, List.length_nil] at this
 rw [show ((0 : Nat) : Int) = 0 from rfl] at this
 simp only [q_laws_heldWayS, this, Option.bind_some, Sum.elim_inl]
theorem p_FnExactWaysInto (s : TSign) (c d : List TLit) (hs : s.1.length ≤ 9223372036854775807) (hc : c.length ≤ 9223372036854775807) (hx : ∀ x ∈ c, wlL x) (hd : d.length ≤ 9223372036854775807) (hy : ∀ x ∈ d, wlL x) : c_laws_FnExactWaysInto M s c d = some ((true, ()), ()) := by
 obtain ⟨r1, e1, g1, k1⟩ := p_szSign s 1048576 (by omega) (by omega) hs
 apply e_laws_FnExactWaysInto
 by_cases h1 : r1 < 0
 ·simp only [q_laws_FnExactWaysInto, sign_eta', e1, Option.bind_some]
  rw [if_pos (by simpa using h1)]
 ·obtain ⟨r2, e2, g2, k2⟩ := p_szLitS c r1 (by omega) g1 hc hx
  by_cases h2 : r2 < 0
  ·simp only [q_laws_FnExactWaysInto, sign_eta', e1, e2, Option.bind_some]
   rw [if_neg (by simpa using h1), if_pos (by simpa using h2)]
  ·obtain ⟨r3, e3, g3, k3⟩ := p_szLitS d r2 (by omega) (by omega) hd hy
   by_cases h3 : r3 < 0
   ·simp only [q_laws_FnExactWaysInto, sign_eta', e1, e2, e3, Option.bind_some]
    rw [if_neg (by simpa using h1), if_neg (by simpa using h2), if_pos (by simpa using h3)]
   ·have hs' := k1 (by omega)
    obtain ⟨hc', hx'⟩ := k2 (by omega)
    obtain ⟨hd', hy'⟩ := k3 (by omega)
    obtain ⟨r, t1, t2, o⟩ := p_WaysIntos s hs' c d hc' hx' hd' hy'
    have b1 := totL_le c hx'
    have b3 := totL_le d hy'
    have m1 := p_markSign s 1 (by omega) (by omega)
    have m2 := p_markLitS c (1 + s.1.length) (by omega) (by omega) (by omega)
    have m2' := p_markLitS d (1 + s.1.length + totL c) (by omega) (by omega) (by omega)
    have m3 := p_markWayS r.1.1 1 (by omega) (by omega) (by omega)
    have m4 := p_heldWayS r.1.1.length 1 (by omega) (by omega)
    simp only [q_laws_FnExactWaysInto, sign_eta', e1, e2, e3, Option.bind_some, p_toSign s (by omega), p_toLitS c hc' hx', p_toLitS d hd' hy', t1, t2, p_eqSign s (by omega), p_eqLitS c hc' hx', p_eqLitS d hd' hy', p_eqWayS r.1.1 (by omega), m1, m2, m2', m3, m4]
    rw [if_neg (by simpa using h1), if_neg (by simpa using h2), if_neg (by simpa using h3)]
    simp
    rw [if_neg (by omega), if_neg (by omega), if_neg (by omega)]
end Go.Proofs.YtpmjpijpjmphnaaGreatWi.Ev
