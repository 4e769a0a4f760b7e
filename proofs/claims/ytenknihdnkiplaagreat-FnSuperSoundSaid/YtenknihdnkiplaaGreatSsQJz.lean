/- Texts laid together: WAj, WAm, SDa, PLy, SEa, XAa, SEb, SEc, PLz, HIa, HIb, QXr, PYb, PYa, PYl, WAk, QJz; no condition but those that each theorem names. -/
import Derived.Test.YtenknihdnkiplaaGreatSsWAi
import Derived.Test.YtenknihdnkiplaaGreatSsWAa
namespace Go.Proofs.YtenknihdnkiplaaGreatSs.Ev
open Go
set_option autoImplicit false
set_option linter.unusedVariables false
set_option linter.unusedSimpArgs false
set_option maxHeartbeats 1000000
theorem zvK {a : List Int} (hg : gS a = true) {p r z : List Int} (hp : Tm a p) (hr : Tm a r) : ∀ (l : List Int) (k : Int), 0 ≤ k → sE a k (l ++ (p ++ z)) = some [] → sE a k (l ++ (r ++ z)) = some []
 | [], k, hk, h => by
  have pp := Tm.pos hp
  by_cases h0 : k ≤ 0
  ·exfalso
   have : sE a k (p ++ z) = some (p ++ z) := by
    cases hpz : p ++ z with
    | nil => simp [sE, h0]
    | cons n t => simp [sE, h0]
   rw [List.nil_append, this] at h
   have h' := Option.some.inj h
   rw [List.append_eq_nil_iff] at h'
   rw [h'.1] at pp
   simp at pp
  ·have e1 := zo1 hg p 1 (k - 1) z (by omega) (by omega) hp
   have e2 := zo1 hg r 1 (k - 1) z (by omega) (by omega) hr
   rw [show 1 + (k - 1) = k by omega] at e1 e2
   rw [List.nil_append] at h ⊢
   rw [e1] at h
   rw [e2]; exact h
 | n :: l, k, hk, h => by
  rw [List.cons_append] at h ⊢
  simp only [sE] at h ⊢
  split at h
  ·cases h
  ·rename_i h1
   rw [if_neg h1]
   split at h
   ·cases h
   ·rename_i h2
    rw [if_neg h2]
    have := zlz hg n
    exact zvK hg hp hr l _ (by omega) h
theorem zsj {a : List Int} (hg : gS a = true) {l p r z : List Int} (h : Tm a (l ++ (p ++ z))) (hp : Tm a p) (hr : Tm a r) : Tm a (l ++ (r ++ z)) := zvK hg hp hr l 1 (by omega) h
theorem zvE (s : TSign) (hg : gS s.1 = true) (c d : List TLit) (hc : clOK s.1 c = true) (hd : clOK s.1 d = true) (i sc j ot p0 : Int) : ∃ r, zae M s c d (i, sc, j, ot, p0, ()) = some r ∧ zcp M s c d (i, sc, j, ot, p0, ()) = some r ∧ ((r.1.1 = [] ∧ r.1.2.1 ≠ 0 ∧ r.1.2.1 ≠ 5) ∨ ((r.1.2.1 = 0 ∨ r.1.2.1 = 5) ∧ ∃ out, r.1.1 = outC out ∧ SupOK s.1 c d (i, sc, j, ot, p0, ()) out)) := by
 obtain ⟨c1, c2⟩ := zbj.1 hc
 obtain ⟨d1, d2⟩ := zbj.1 hd
 have fail : ∀ k : Int, (k ≠ 0 ∧ k ≠ 5) → zae M s c d (i, sc, j, ot, p0, ()) = some (([], k, ()), ()) → zcp M s c d (i, sc, j, ot, p0, ()) = some (([], k, ()), ()) → ∃ r, zae M s c d (i, sc, j, ot, p0, ()) = some r ∧ zcp M s c d (i, sc, j, ot, p0, ()) = some r ∧ ((r.1.1 = [] ∧ r.1.2.1 ≠ 0 ∧ r.1.2.1 ≠ 5) ∨ ((r.1.2.1 = 0 ∨ r.1.2.1 = 5) ∧ ∃ out, r.1.1 = outC out ∧ SupOK s.1 c d (i, sc, j, ot, p0, ()) out)) := fun k h0 h1 h2 => ⟨_, h1, h2, .inl ⟨rfl, h0⟩⟩
 have lc := zvB c (by omega) i sc
 have ld := zvB d (by omega) j ot
 by_cases h1 : 0 ≤ i ∧ i < (c.length : Int)
 case neg =>
  have e : (decide (0 ≤ i) && decide (i < (c.length : Int)) && is01 sc) = false := by
   by_cases h0 : 0 ≤ i
   ·rw [decide_eq_true h0, decide_eq_false (fun q => h1 ⟨h0, q⟩)]; rfl
   ·rw [decide_eq_false h0]; rfl
  rw [e] at lc
  refine fail 1 (by decide) (zV _ _ _ _ ?_) (zbb _ _ _ _ ?_)
  ·simp only [zG, zwY c i h1, Option.bind_some]; rfl
  ·simp only [zaE, lc, Option.bind_some]; rfl
 case pos =>
 obtain ⟨n, rfl⟩ : ∃ n : Nat, i = (n : Int) := ⟨i.toNat, by omega⟩
 have hn : n < c.length := by omega
 rw [decide_eq_true h1.1, decide_eq_true h1.2, Bool.true_and, Bool.true_and] at lc
 have hl := zys c n n hn rfl
 have hci := ze hn
 cases h2 : c[n].1 with
 | false =>
  rw [h2] at hl
  refine fail 1 (by decide) (zV _ _ _ _ ?_) (zbb _ _ _ _ ?_)
  ·simp only [zG, hl, Option.bind_some]; rfl
  ·simp only [zaE, lc, hci, h2, Option.bind_some]
   cases is01 sc <;> rfl
 | true =>
 rw [h2] at hl
 have si := zul sc
 cases h3 : is01 sc with
 | false =>
  rw [h3] at lc si
  refine fail 1 (by decide) (zV _ _ _ _ ?_) (zbb _ _ _ _ ?_)
  ·simp only [zG, hl, si, Option.bind_some]; rfl
  ·simp only [zaE, lc, Option.bind_some]; rfl
 | true =>
 rw [h3] at lc si
 by_cases h4 : 0 ≤ j ∧ j < (d.length : Int)
 case neg =>
  have e : (decide (0 ≤ j) && decide (j < (d.length : Int)) && is01 ot) = false := by
   by_cases h0 : 0 ≤ j
   ·rw [decide_eq_true h0, decide_eq_false (fun q => h4 ⟨h0, q⟩)]; rfl
   ·rw [decide_eq_false h0]; rfl
  rw [e] at ld
  refine fail 1 (by decide) (zV _ _ _ _ ?_) (zbb _ _ _ _ ?_)
  ·simp only [zG, hl, si, Option.bind_some, Bool.not_true, Bool.false_eq_true, if_false]
   by_cases h0 : j < 0
   ·rw [if_pos (by simpa using h0)]
   ·rw [if_neg (by simpa using h0), if_pos (by simp; omega)]
  ·simp only [zaE, lc, ld, hci, h2, Option.bind_some, Bool.not_true, Bool.false_eq_true, if_false]; rfl
 case pos =>
 obtain ⟨m, rfl⟩ : ∃ m : Nat, j = (m : Int) := ⟨j.toNat, by omega⟩
 have hm : m < d.length := by omega
 rw [decide_eq_true h4.1, decide_eq_true h4.2, Bool.true_and, Bool.true_and] at ld
 have hdj := ze hm
 have j0 : decide ((m : Int) < 0) = false := by simp
 have j1 : decide ((m : Int) ≥ (d.length : Int)) = false := by simp; omega
 have so := zul ot
 cases h5 : is01 ot with
 | false =>
  rw [h5] at ld so
  refine fail 1 (by decide) (zV _ _ _ _ ?_) (zbb _ _ _ _ ?_)
  ·simp only [zG, hl, si, so, j0, j1, Option.bind_some, Bool.not_true, Bool.false_eq_true, if_false]; rfl
  ·simp only [zaE, lc, ld, hci, h2, Option.bind_some, Bool.not_true, Bool.false_eq_true, if_false]; rfl
 | true =>
 rw [h5] at ld so
 have hot : ot = 0 ∨ ot = 1 := by
  simp only [is01, Bool.and_eq_true, decide_eq_true_eq] at h5
  omega
 have hdT := zkC (d2 _ (List.getElem_mem hm)) ot
 have hdl := (zi.1 hdT.1).1
 obtain ⟨sd1, sd2⟩ := zlK d[m] ot
 by_cases h6 : 0 ≤ p0 ∧ p0 < ((sd d[m] ot).1.length : Int)
 case neg =>
  have e : (decide (0 ≤ p0) && decide (p0 ≤ ((sd d[m] ot).1.length : Int) - 1)) = false := by
   by_cases h0 : 0 ≤ p0
   ·rw [decide_eq_true h0, decide_eq_false (by omega)]; rfl
   ·rw [decide_eq_false h0]; rfl
  refine fail 1 (by decide) (zV _ _ _ _ ?_) (zbb _ _ _ _ ?_)
  ·simp only [zG, hl, si, so, j0, j1, hdj, zK, sd1, Option.bind_some, Bool.not_true, Bool.false_eq_true, if_false]
   by_cases h0 : p0 < 0
   ·rw [if_pos (by simpa using h0)]
   ·rw [if_neg (by simpa using h0), if_pos (by simp; omega)]
  ·simp only [zaE, lc, ld, hci, hdj, h2, zK, sd2, Option.bind_some, Bool.not_true, Bool.false_eq_true, if_false]
   rw [w64 (by omega) (by omega), zkB, e]
   rfl
 case pos =>
 obtain ⟨q, rfl⟩ : ∃ q : Nat, p0 = (q : Int) := ⟨p0.toNat, by omega⟩
 have hq : q < (sd d[m] ot).1.length := by omega
 have huq := ze hq
 have p0' : decide ((q : Int) < 0) = false := by simp
 have p1' : decide ((q : Int) ≥ ((sd d[m] ot).1.length : Int)) = false := by simp; omega
 have inq : zb6 M (q : Int) 0 (IntKind.i64.wrap (((sd d[m] ot).1.length : Int) - 1)) = some ((true, ()), ()) := by
  rw [w64 (by omega) (by omega), zkB, decide_eq_true (by omega), decide_eq_true (by omega)]; rfl
 by_cases h7 : (sd d[m] ot).1[q] < 0
 case pos =>
  refine fail 1 (by decide) (zV _ _ _ _ ?_) (zbb _ _ _ _ ?_)
  ·simp only [zG, hl, si, so, j0, j1, hdj, zK, sd1, p0', p1', huq, decide_eq_true h7, Option.bind_some, Bool.not_true, Bool.false_eq_true, if_false, if_true]
  ·simp only [zaE, lc, ld, hci, hdj, h2, zK, sd2, inq, huq, decide_eq_true h7, Option.bind_some, Bool.not_true, Bool.false_eq_true, if_false, if_true]
 case neg =>
 have apI := zo4 s hg c d hc hd
 have apS' := zpn s hg c d hc hd
 cases h8 : (apartC c d).all (litOK s.1) with
 | false =>
  rw [h8] at apI apS'
  refine fail 2 (by decide) (zV _ _ _ _ ?_) (zbb _ _ _ _ ?_)
  ·simp only [zG, hl, si, so, j0, j1, hdj, zK, sd1, p0', p1', huq, decide_eq_false h7, zb, apI, Option.bind_some, Bool.not_true, Bool.false_eq_true, if_false]; rfl
  ·simp only [zaE, lc, ld, hci, hdj, h2, zK, sd2, inq, huq, decide_eq_false h7, zb, apS', Option.bind_some, Bool.not_true, Bool.false_eq_true, if_false]; rfl
 | true =>
 rw [h8, if_pos rfl] at apI apS'
 have e2 : ∀ x ∈ apartC c d, litOK s.1 x = true := List.all_eq_true.1 h8
 have hel : (apartC c d).length = d.length := by simp [apartC]
 have hJ : m < (apartC c d).length := by omega
 have hej := ze hJ
 obtain ⟨se1, se2⟩ := zlK (apartC c d)[m] ot
 obtain ⟨sc1, sc2⟩ := zlK c[n] sc
 have lt : ((true, c[n].2.1, c[n].2.2) : TLit) = c[n] := by rw [← h2]
 have sc2t : zcq M (true, c[n].2.1, c[n].2.2) sc = some (((sd c[n] sc).1, (sd c[n] sc).2, ()), ()) := by rw [lt]; exact sc2
 have hul : (sd (apartC c d)[m] ot).1.length = (sd d[m] ot).1.length := by
  simp only [apartC, List.getElem_map, sd, shl]
  split <;> simp
 have huT := zkC (e2 _ (List.getElem_mem hJ)) ot
 obtain ⟨hu1, hu2⟩ := zi.1 huT.1
 obtain ⟨p, z, hpz, hp⟩ := Tm.at hg hu2 (show q < (sd (apartC c d)[m] ot).1.length by omega)
 obtain ⟨k1, k2⟩ := znE hpz (Tm.pos hp)
 have prI := zrT s hg _ (by omega) hpz hp
 have prS := zoM s hg _ (by omega) hpz hp
 have hcT := zkC (c2 _ (List.getElem_mem hn)) sc
 obtain ⟨hl1, hl2⟩ := zi.1 hcT.1
 obtain ⟨hr1, hr2⟩ := zi.1 hcT.2
 obtain ⟨ru, u1, u2, u3⟩ := zy1 s hg (sd c[n] sc).1 p hcT.1 (zi.2 ⟨by omega, hp⟩)
 cases h9 : ru.1.2.1 with
 | false =>
  refine fail 3 (by decide) (zV _ _ _ _ ?_) (zbb _ _ _ _ ?_)
  ·simp only [zG, hl, si, so, j0, j1, hdj, zK, sd1, p0', p1', huq, decide_eq_false h7, zb, apI, hci, hej, sc1, se1, prI, u1, h9, Option.bind_some, Bool.not_true, Bool.false_eq_true, if_false]; rfl
  ·simp only [zaE, lc, ld, hci, hdj, h2, zK, sd2, inq, huq, decide_eq_false h7, zb, apS', hej, sc2t, se2, prS, u2, h9, Option.bind_some, Bool.not_true, Bool.false_eq_true, if_false]; rfl
 | true =>
 obtain ⟨τ, hτ, ht, hun, _⟩ := u3 h9
 have lτ : ∀ v, (τ v).length ≤ 100000 := fun v => by have := hτ.len v; omega
 have acI := zn8 τ lτ c (by omega) (fun x hx => zj6 (c2 x hx))
 have aeI := zn8 τ lτ (apartC c d) (by omega) (fun x hx => zj6 (e2 x hx))
 have acS := zsE τ lτ c (by omega) (fun x hx => zj6 (c2 x hx))
 have aeS := zsE τ lτ (apartC c d) (by omega) (fun x hx => zj6 (e2 x hx))
 obtain ⟨rpI, rpS⟩ := zwq s hg (sd (apartC c d)[m] ot).1 (sd c[n] sc).2 (by omega) (by omega) hpz hp
 generalize hR : (sd (apartC c d)[m] ot).1.take q ++ (sd c[n] sc).2 ++ z = R at rpI rpS
 have hRl : R.length ≤ 100 := by rw [← hR]; simp; omega
 have hRn : ∀ x ∈ R, -12 ≤ x := by
  intro x hx
  rw [← hR] at hx
  rcases List.mem_append.1 hx with hx | hx
  ·rcases List.mem_append.1 hx with hx | hx
   ·exact (zco huT.1).2 x (List.mem_of_mem_take hx)
   ·exact (zco hcT.2).2 x hx
  ·exact (zco huT.1).2 x (List.mem_of_mem_drop (by rw [hpz]; exact List.mem_append_right _ hx))
 have toI := zmi _ _ (ze4 τ) lτ R hRl hRn
 have toS := zf5 _ _ (ze4 τ) lτ R hRl hRn
 have vS := zf5 _ _ (ze4 τ) lτ (sd (apartC c d)[m] ot).2 (by have := (zi.1 huT.2).1; omega) (zco huT.2).2
 have lcb : (apC τ c).length = c.length := by simp [apC]
 have leb : (apC τ (apartC c d)).length = (apartC c d).length := by simp [apC]
 have hJ' : m < (apC τ (apartC c d)).length := by omega
 have hI' : n < (apC τ c).length := by omega
 have sdJ := zq0 τ (apartC c d) hJ hJ' ot
 have sdI := zq0 τ c hn hI' sc
 have L1 := zz9 s ((n : Int), sc, (m : Int), ot, (q : Int), ()) (sd (apartC c d)[m] ot).1 (sd c[n] sc).1 (sd c[n] sc).2 (sd (apartC c d)[m] ot).2 (tabS τ) (apC τ c) (apC τ (apartC c d)) (by omega) (apC τ c).length 0 [] (by omega) (by simp)
 rw [show ((0 : Nat) : Int) = 0 from rfl, List.drop_zero, List.nil_append] at L1
 simp only at L1
 rw [zoE _ 0 n (by omega), Nat.sub_zero] at L1
 have L2 := zzG s (n : Int) sc ot (q : Int) m (sd (apartC c d)[m] ot).1 (sd c[n] sc).1 (sd c[n] sc).2 (sd (apartC c d)[m] ot).2 (apS τ (sd (apartC c d)[m] ot).2) (apS τ R) (tabS τ) (apC τ c) (apC τ (apartC c d)) (by omega) hJ' hot ⟨R, rpS, toS⟩ vS (by
  have : (sd (apC τ (apartC c d))[m] ot).2 = apS τ (sd (apartC c d)[m] ot).2 := by rw [sdJ]
  rw [← this]
  exact ⟨fun e => by rw [e]; rfl, fun e => by rw [e]; rfl⟩) (apC τ (apartC c d)).length 0 ((apC τ c).eraseIdx n) (by omega) (by have := List.length_eraseIdx_le (apC τ c) n; omega)
 rw [show ((0 : Nat) : Int) = 0 from rfl, List.drop_zero] at L2
 generalize hN : newL ot (apC τ (apartC c d))[m] (apS τ R) = NL at L2
 generalize hO : (apC τ c).eraseIdx n ++ (apC τ (apartC c d)).set m NL = OUT at L2
 have hOl : OUT.length = c.length - 1 + d.length := by
  rw [← hO, List.length_append, List.length_set, List.length_eraseIdx_of_lt hI', lcb, leb, hel]
 have kc := zuz hg hτ c1 c2
 have ke := zuz hg hτ (c := apartC c d) (by omega) e2
 have smlc : ∀ x ∈ apC τ c, smL x := by
  intro x hx
  obtain ⟨y, hy, rfl⟩ := List.mem_map.1 hx
  have := zj6 (c2 y hy)
  have b1 := zhZ (σ := τ) (fun v => by have := hτ.len v; omega) y.2.1
  have b2 := zhZ (σ := τ) (fun v => by have := hτ.len v; omega) y.2.2.1
  exact ⟨by simp only; omega, by simp only; omega⟩
 have smle : ∀ x ∈ apC τ (apartC c d), smL x := by
  intro x hx
  obtain ⟨y, hy, rfl⟩ := List.mem_map.1 hx
  have := zj6 (e2 y hy)
  have b1 := zhZ (σ := τ) (fun v => by have := hτ.len v; omega) y.2.1
  have b2 := zhZ (σ := τ) (fun v => by have := hτ.len v; omega) y.2.2.1
  exact ⟨by simp only; omega, by simp only; omega⟩
 have smR' : (apS τ R).length ≤ 1048576 := by
  have := zhZ (σ := τ) (fun v => by have := hτ.len v; omega) R
  omega
 have smNL : smL NL := by
  have := smle _ (List.getElem_mem hJ')
  rw [← hN]
  unfold newL
  split
  ·exact ⟨smR', this.2⟩
  ·exact ⟨this.1, smR'⟩
 have smO : ∀ x ∈ OUT, smL x := by
  intro x hx
  rw [← hO] at hx
  rcases List.mem_append.1 hx with hx | hx
  ·exact smlc x (List.mem_of_mem_eraseIdx hx)
  ·rcases List.mem_or_eq_of_mem_set hx with hx | rfl
   ·exact smle x hx
   ·exact smNL
 have ccb := zcP s hg (apC τ c) (by omega) smlc
 have ceb := zcP s hg (apC τ (apartC c d)) (by omega) smle
 have cout := zcP s hg OUT (by omega) smO
 rw [kc] at ccb
 rw [ke] at ceb
 have big : ¬ (fitT τ (tms c) = true ∧ fitT τ (tms (apartC c d)) = true ∧ (apS τ R).length ≤ 40 ∧ c.length + d.length ≤ 9) → ∃ r, zae M s c d (n, sc, m, ot, q, ()) = some r ∧ zcp M s c d (n, sc, m, ot, q, ()) = some r ∧ ((r.1.1 = [] ∧ r.1.2.1 ≠ 0 ∧ r.1.2.1 ≠ 5) ∨ ((r.1.2.1 = 0 ∨ r.1.2.1 = 5) ∧ ∃ out, r.1.1 = outC out ∧ SupOK s.1 c d (n, sc, m, ot, q, ()) out)) := by
  intro hbig
  refine fail 4 (by decide) (zV _ _ _ _ ?_) (zbb _ _ _ _ ?_)
  ·simp only [zG, hl, si, so, j0, j1, hdj, zK, sd1, p0', p1', huq, decide_eq_false h7, zb, apI, hci, hej, sc1, se1, prI, u1, h9, ht, acI, aeI, rpI, toI, Option.bind_some, Bool.not_true, Bool.false_eq_true, if_false]
   cases f1 : fitT τ (tms c) with
   | false => rfl
   | true =>
    cases f2 : fitT τ (tms (apartC c d)) with
    | false => rfl
    | true =>
     simp only [if_true, Bool.not_true, Bool.false_eq_true, if_false]
     by_cases f3 : (apS τ R).length ≤ 40
     ·rw [if_pos f3]
      simp only [Bool.not_true, Bool.false_eq_true, if_false]
      have : ¬ (c.length + d.length ≤ 9) := fun f4 => hbig ⟨f1, f2, f3, f4⟩
      rw [w64 (x := (c.length : Int) + ((apartC c d).length : Int)) (by omega) (by omega), w64 (by omega) (by omega), if_pos (by simp; omega)]
     ·rw [if_neg f3]
      rfl
  ·simp only [zaE, lc, ld, hci, hdj, h2, zK, sd2, inq, huq, decide_eq_false h7, zb, apS', hej, sc2t, se2, prS, u2, h9, ht, acS, aeS, Option.bind_some, Bool.not_true, Bool.false_eq_true, if_false]
   rw [L1]
   simp only [Option.bind_some, Sum.elim_inl, zb]
   rw [L2]
   simp only [Option.bind_some, Sum.elim_inl, zb, ccb, ceb, cout]
   cases f1 : fitT τ (tms c) with
   | false => rfl
   | true =>
    cases f2 : fitT τ (tms (apartC c d)) with
    | false => rfl
    | true =>
     have : clOK s.1 OUT = false := by
      cases hco : clOK s.1 OUT with
      | false => rfl
      | true =>
       exfalso
       obtain ⟨o1, o2⟩ := zbj.1 hco
       have hmem : NL ∈ OUT := by
        rw [← hO]
        exact List.mem_append_right _ (List.mem_set hJ' NL)
       have hNLok := zaL.1 (o2 NL hmem)
       have f3 : (apS τ R).length ≤ 40 := by
        rw [← hN] at hNLok
        unfold newL at hNLok
        split at hNLok
        ·exact (zi.1 hNLok.1).1
        ·exact (zi.1 hNLok.2).1
       exact hbig ⟨f1, f2, f3, by omega⟩
     rw [this]
     rfl
 by_cases hok : fitT τ (tms c) = true ∧ fitT τ (tms (apartC c d)) = true ∧ (apS τ R).length ≤ 40 ∧ c.length + d.length ≤ 9
 case neg => exact big hok
 case pos =>
 clear big
 obtain ⟨f1, f2, f3, f4⟩ := hok
 rw [f1] at ccb acI kc
 rw [f2] at ceb aeI ke
 rw [if_pos f3] at toI
 have kc' := (zbj.1 kc).2
 have ke' := (zbj.1 ke).2
 have hTτ : ∀ v, τ v ≠ [] → Tm s.1 (τ v) := fun v h => (zi.1 (hτ.1 v h).1).2
 have hun2 : apS τ (sd c[n] sc).1 = apS τ p := hun
 have hRT : Tm s.1 R := by
  have hu' : Tm s.1 ((sd (apartC c d)[m] ot).1.take q ++ (p ++ z)) := by
   rw [← hpz, List.take_append_drop]; exact hu2
  rw [← hR, List.append_assoc]
  exact zsj hg hu' hp hr2
 have hNLok : litOK s.1 NL = true := by
  have h0 := zaL.1 (ke' _ (List.getElem_mem hJ'))
  have hY : isT s.1 (apS τ R) = true := zi.2 ⟨f3, zg7 hg hTτ hRT⟩
  rw [← hN]
  unfold newL
  split
  ·exact zaL.2 ⟨hY, h0.2⟩
  ·exact zaL.2 ⟨h0.1, hY⟩
 have hOok : ∀ x ∈ OUT, litOK s.1 x = true := by
  intro x hx
  rw [← hO] at hx
  rcases List.mem_append.1 hx with hx | hx
  ·exact kc' x (List.mem_of_mem_eraseIdx hx)
  ·rcases List.mem_or_eq_of_mem_set hx with hx | rfl
   ·exact ke' x hx
   ·exact hNLok
 have hO8 : OUT.length ≤ 8 := by omega
 have hclO : clOK s.1 OUT = true := zbj.2 ⟨hO8, hOok⟩
 rw [hclO] at cout
 have limO : ∀ x ∈ OUT, x.2.1.length ≤ 1000 ∧ x.2.2.1.length ≤ 1000 := fun x hx => by have := zj6 (hOok x hx); omega
 have sup : SupOK s.1 c d (n, sc, m, ot, q, ()) OUT := ⟨n, m, q, hn, hJ, τ, p, z, rfl, rfl, h2, hot, hτ, h8, hpz, hp, hun2, by rw [← hO, ← hN, ← hR], hO8, hOok⟩
 have tI := zkC (kc' _ (List.getElem_mem hI')) sc
 have tJ := zkC (ke' _ (List.getElem_mem hJ')) ot
 rw [sdI] at tI
 rw [sdJ] at tJ
 have b1 := zvH _ _ (zco tI.1) (zco tI.2)
 have b2 := zvH _ _ (zco tJ.1) (zco tJ.2)
 obtain ⟨x1, m1, m1'⟩ := zsI (apC τ c) (by omega) (fun x hx => ⟨zco (zaL.1 (kc' x hx)).1, zco (zaL.1 (kc' x hx)).2⟩) n hI'
 obtain ⟨x2, m2, m2'⟩ := zsI (apC τ (apartC c d)) (by omega) (fun x hx => ⟨zco (zaL.1 (ke' x hx)).1, zco (zaL.1 (ke' x hx)).2⟩) m hJ'
 have inO := zxe OUT (by omega) limO
 have outS := (zp3 OUT (by omega) limO).2
 simp only at tI tJ b1 b2
 have lS := zf5 _ _ (ze4 τ) lτ (sd c[n] sc).1 (by omega) (zco hcT.1).2
 have rS := zf5 _ _ (ze4 τ) lτ (sd c[n] sc).2 (by omega) (zco hcT.2).2
 have uS := zf5 _ _ (ze4 τ) lτ (sd (apartC c d)[m] ot).1 (by omega) (zco huT.1).2
 have cin := ze hI'
 have cjn := ze hJ'
 obtain ⟨z1, _⟩ := zlK (apC τ c)[n] sc
 obtain ⟨z2, _⟩ := zlK (apC τ (apartC c d))[m] ot
 rw [sdI] at z1
 rw [sdJ] at z2
 simp only at z1 z2
 refine ⟨((outC OUT, (if (ovr (apS τ (sd c[n] sc).1) (apS τ (sd c[n] sc).2) && (ovr (apS τ (sd (apartC c d)[m] ot).1) (apS τ (sd (apartC c d)[m] ot).2) && (x1 && x2))) = true then 0 else 5), ()), ()), zV _ _ _ _ ?_, zbb _ _ _ _ ?_, .inr ⟨by split <;> simp, OUT, rfl, sup⟩⟩
 ·simp only [zG, hl, si, so, j0, j1, hdj, zK, sd1, p0', p1', huq, decide_eq_false h7, zb, apI, hci, hej, sc1, se1, prI, u1, h9, ht, acI, aeI, rpI, toI, Option.bind_some, Bool.not_true, Bool.false_eq_true, if_false, if_true]
  rw [w64 (x := (c.length : Int) + ((apartC c d).length : Int)) (by omega) (by omega), w64 (x := (c.length : Int) + ((apartC c d).length : Int) - 1) (by omega) (by omega), if_neg (by simp; omega), if_pos (by omega), za (by omega), if_pos (by omega)]
  have hcat := p_cL [(apC τ c).take n, (apC τ c).drop (n + 1), apC τ (apartC c d)] (by
   intro y hy
   simp only [List.mem_cons, List.not_mem_nil, or_false] at hy
   rcases hy with rfl | rfl | rfl
   ·simp; omega
   ·simp; omega
   ·omega) (by simp) (by simp; omega)
  have hfl : [(apC τ c).take n, (apC τ c).drop (n + 1), apC τ (apartC c d)].flatten = (apC τ c).eraseIdx n ++ apC τ (apartC c d) := by
   rw [← ztR]; simp
  rw [hfl] at hcat
  simp only [Int.toNat_natCast, Int.toNat_zero, List.drop_zero, List.take_length]
  rw [hcat]
  have hel' : ((apC τ c).eraseIdx n).length = c.length - 1 := by rw [List.length_eraseIdx_of_lt hI', lcb]
  have hat : IntKind.i64.wrap (IntKind.i64.wrap (((apC τ c).length : Int) - 1) + (m : Int)) = ((c.length - 1 + m : Nat) : Int) := by
   rw [w64 (x := ((apC τ c).length : Int) - 1) (by omega) (by omega), w64 (by omega) (by omega)]; omega
  have hget : ((apC τ c).eraseIdx n ++ apC τ (apartC c d))[c.length - 1 + m]? = some (apC τ (apartC c d))[m] := by
   rw [List.getElem?_append_right (by omega), hel', Nat.add_sub_cancel_left, List.getElem?_eq_getElem hJ']
  have hset : ∀ y, ((apC τ c).eraseIdx n ++ apC τ (apartC c d)).set (c.length - 1 + m) y = (apC τ c).eraseIdx n ++ (apC τ (apartC c d)).set m y := by
   intro y
   rw [List.set_append_right _ _ (by omega), hel', Nat.add_sub_cancel_left]
  simp only [Option.bind_some, hat, Int.toNat_natCast]
  have hlt : 0 ≤ ((c.length - 1 + m : Nat) : Int) ∧ ((c.length - 1 + m : Nat) : Int) < (((apC τ c).eraseIdx n ++ apC τ (apartC c d)).length : Int) := by
   rw [List.length_append, hel']; omega
  have tail : ∀ O : List TLit, O = OUT → ((idx (apC τ c) (n : Int)).bind fun x22 => (zaY M (x22.1, x22.2.1, x22.2.2.1, ()) sc).bind fun r23 => (idx (apC τ (apartC c d)) (m : Int)).bind fun x24 => (zaY M (x24.1, x24.2.1, x24.2.2.1, ()) ot).bind fun r25 => (zdi M r23.1.1 r23.1.2.1).bind fun r26 => if (!r26.1.1) = true then (zdi M r25.1.1 r25.1.2.1).bind fun r27 => if (!r27.1.1) = true then (zci M (apC τ c) (n : Int)).bind fun r28 => if r28.1.1 = true then (zci M (apC τ (apartC c d)) (m : Int)).bind fun r29 => (zbe M O r29.1.1).bind fun r30 => some ((r30.1.1, r30.1.2.1, ()), ()) else (zbe M O false).bind fun r31 => some ((r31.1.1, r31.1.2.1, ()), ()) else (zbe M O false).bind fun r32 => some ((r32.1.1, r32.1.2.1, ()), ()) else (zbe M O false).bind fun r33 => some ((r33.1.1, r33.1.2.1, ()), ())) = some (((outC OUT, (if (ovr (apS τ (sd c[n] sc).1) (apS τ (sd c[n] sc).2) && (ovr (apS τ (sd (apartC c d)[m] ot).1) (apS τ (sd (apartC c d)[m] ot).2) && (x1 && x2))) = true then 0 else 5), ()), ())) := by
   intro O hO'
   subst hO'
   rw [cin, cjn]
   simp only [Option.bind_some, zK, z1, z2, b1.1, b2.1, m1, m2, Bool.not_not, inO]
   cases ovr (apS τ (sd c[n] sc).1) (apS τ (sd c[n] sc).2) <;> cases ovr (apS τ (sd (apartC c d)[m] ot).1) (apS τ (sd (apartC c d)[m] ot).2) <;> cases x1 <;> cases x2 <;> rfl
  rcases hot with rfl | rfl
  ·rw [if_pos (by decide), if_pos hlt, hget]
   simp only [Option.bind_some, Sum.elim_inl, hset]
   exact tail _ (by rw [← hO, ← hN]; rfl)
  ·rw [if_neg (by decide), if_pos hlt, hget]
   simp only [Option.bind_some, Sum.elim_inl, hset]
   exact tail _ (by rw [← hO, ← hN]; rfl)
 ·simp only [zaE, lc, ld, hci, hdj, h2, zK, sd2, inq, huq, decide_eq_false h7, zb, apS', hej, sc2t, se2, prS, u2, h9, ht, acS, aeS, Option.bind_some, Bool.not_true, Bool.false_eq_true, if_false]
  rw [L1]
  simp only [Option.bind_some, Sum.elim_inl, zb]
  rw [L2]
  simp only [Option.bind_some, Sum.elim_inl, zb, ccb, ceb, cout, Bool.not_true, Bool.false_eq_true, if_false]
  rw [lS]
  simp only [Option.bind_some]
  rw [rS]
  simp only [Option.bind_some, b1.2]
  cases ovr (apS τ (sd c[n] sc).1) (apS τ (sd c[n] sc).2) with
  | false =>
   simp only [Bool.not_false, if_true, outS, Option.bind_some]; rfl
  | true =>
   simp only [Bool.not_true, Bool.false_eq_true, if_false]
   rw [uS]
   simp only [Option.bind_some]
   rw [vS]
   simp only [Option.bind_some, b2.2]
   cases ovr (apS τ (sd (apartC c d)[m] ot).1) (apS τ (sd (apartC c d)[m] ot).2) with
   | false =>
    simp only [Bool.not_false, if_true, outS, Option.bind_some]; rfl
   | true =>
    simp only [Bool.not_true, Bool.false_eq_true, if_false, m1', m2', Option.bind_some]
    cases x1 with
    | false => simp only [Bool.not_false, if_true, outS, Option.bind_some]; rfl
    | true =>
     cases x2 with
     | false => simp only [Bool.not_true, Bool.not_false, Bool.false_eq_true, if_false, if_true, outS, Option.bind_some]; rfl
     | true => simp only [Bool.not_true, Bool.false_eq_true, if_false, outS, Option.bind_some]; rfl
end Go.Proofs.YtenknihdnkiplaaGreatSs.Ev
namespace Go.Proofs.YtenknihdnkiplaaGreatSs.Ev
open Go
set_option autoImplicit false
set_option linter.unusedVariables false
set_option linter.unusedSimpArgs false
def Dn (s : TSign) (c d : List TLit) (o : List TWay) : Prop := ∀ w ∈ o, ∃ r, zae M s c d w = some r ∧ r.1.2.1 = 0
section
variable (s : TSign) (hg : gS s.1 = true) (c d : List TLit) (hc : clOK s.1 c = true) (hd : clOK s.1 d = true)
include hg hc hd
theorem zzZ (i sc j ot n1 n2 n3 n4 n5 n6 : Int) (x : TLit) (m1 m2 : Int) (D : List TLit) (m3 m4 : Int) (L : Nat) (hL : L ≤ 100) : ∀ (k q : Nat) (o : List TWay), q + k = L → o.length + k ≤ 1000000 → ∃ o', zaD M c d s o i sc j ot n1 n2 n3 n4 n5 n6 L q = some (.inl (c, d, s, o', i, sc, j, n1, n2, n3, n4, n5, n6, ())) ∧
  zby M c d s o i sc j x ot m1 m2 D m3 m4 L q = some (.inl (c, d, s, o', i, sc, j, x, ot, m1, m2, D, m3, m4, ())) ∧ o'.length ≤ o.length + k ∧ (Dn s c d o → Dn s c d o') := by
 intro k
 induction k with
 | zero =>
  intro q o hq ho
  obtain rfl : q = L := by omega
  refine ⟨o, zbT _ _ _ _ _ _ _ _ _ _ _ _ _ _ _ _ ?_, zec _ _ _ _ _ _ _ _ _ _ _ _ _ _ _ _ ?_, by omega, id⟩
  ·simp only [zay, zb]
   rw [if_neg (by simp)]
  ·simp only [zbl, zb, zK]
   rw [if_neg (by simp)]
 | succ k ih =>
  intro q o hq ho
  obtain ⟨r, r1, r2, _⟩ := zvE s hg c d hc hd i sc j ot (q : Int)
  by_cases h : r.1.2.1 = 0
  ·obtain ⟨o', e1, e2, e3, e4⟩ := ih (q + 1) (o ++ [(i, sc, j, ot, (q : Int), ())]) (by omega) (by simp; omega)
   refine ⟨o', zbT _ _ _ _ _ _ _ _ _ _ _ _ _ _ _ _ ?_, zec _ _ _ _ _ _ _ _ _ _ _ _ _ _ _ _ ?_, by simp at e3; omega, fun hn => e4 fun w hw => by
    rcases List.mem_append.1 hw with q | q
    ·exact hn w q
    ·rw [List.mem_singleton.1 q]; exact ⟨r, r1, h⟩⟩
   ·simp only [zay, zb, r1, Option.bind_some]
    rw [if_pos (by simp; omega), if_pos (by simpa using h), if_pos (by simp; omega)]
    simp only [Option.bind_some, Sum.elim_inl, zb]
    rw [za (by omega)]
    exact e1
   ·simp only [zbl, zb, zK, r2, Option.bind_some]
    rw [if_pos (by simp; omega), if_pos (by simpa using h), if_pos (by simp; omega)]
    simp only [Option.bind_some, Sum.elim_inl, zb, zK]
    rw [za (by omega)]
    exact e2
  ·obtain ⟨o', e1, e2, e3, e4⟩ := ih (q + 1) o (by omega) (by omega)
   refine ⟨o', zbT _ _ _ _ _ _ _ _ _ _ _ _ _ _ _ _ ?_, zec _ _ _ _ _ _ _ _ _ _ _ _ _ _ _ _ ?_, by omega, e4⟩
   ·simp only [zay, zb, r1, Option.bind_some]
    rw [if_pos (by simp; omega), if_neg (by simpa using h)]
    simp only [Option.bind_some, Sum.elim_inl, zb]
    rw [za (by omega)]
    exact e1
   ·simp only [zbl, zb, zK, r2, Option.bind_some]
    rw [if_pos (by simp; omega), if_neg (by simpa using h)]
    simp only [Option.bind_some, Sum.elim_inl, zb, zK]
    rw [za (by omega)]
    exact e2
theorem zzL (i sc n1 n2 n3 n4 : Int) (j : Nat) (hj : j < d.length) (m1 m2 : Int) (D : List TLit) (m3 m4 : Int) : ∀ (k ot : Nat) (o : List TWay), ot + k = 2 → o.length + 100 * k ≤ 1000000 → ∃ o', zaX M c d s o i sc j n1 n2 n3 n4 j ot = some (.inl (c, d, s, o', i, sc, n1, n2, n3, n4, (j : Int), ())) ∧
  zbN M c d s o i sc j d[j] ot m1 m2 D m3 m4 = some (.inl (c, d, s, o', i, sc, m1, m2, D, m3, m4, ())) ∧ o'.length ≤ o.length + 100 * k ∧ (Dn s c d o → Dn s c d o') := by
 have d2 := (zbj.1 hd).2
 intro k
 induction k with
 | zero =>
  intro ot o hq ho
  obtain rfl : ot = 2 := by omega
  refine ⟨o, zfs _ _ _ _ _ _ _ _ _ _ _ _ _ ?_, zhK _ _ _ _ _ _ _ _ _ _ _ _ _ _ ?_, by omega, id⟩
  ·simp only [zbp, zb]
   rw [if_neg (by simp)]
  ·simp only [zcL, zb]
   rw [if_neg (by simp)]
 | succ k ih =>
  intro ot o hq ho
  obtain ⟨s1, s2⟩ := zlK d[j] (ot : Int)
  have hl := (zi.1 (zkC (d2 _ (List.getElem_mem hj)) (ot : Int)).1).1
  obtain ⟨o1, e1, e2, e3, e4⟩ := zzZ s hg c d hc hd i sc j ot n1 n2 n3 n4 j ot d[j] m1 m2 D m3 m4 (sd d[j] (ot : Int)).1.length (by omega) (sd d[j] (ot : Int)).1.length 0 o (by omega) (by omega)
  rw [show ((0 : Nat) : Int) = 0 from rfl] at e1 e2
  obtain ⟨o', f1, f2, f3, f4⟩ := ih (ot + 1) o1 (by omega) (by omega)
  refine ⟨o', zfs _ _ _ _ _ _ _ _ _ _ _ _ _ ?_, zhK _ _ _ _ _ _ _ _ _ _ _ _ _ _ ?_, by omega, fun hn => f4 (e4 hn)⟩
  ·simp only [zbp, zb, ze hj, zK, Option.bind_some, s1, e1, Sum.elim_inl]
   rw [if_pos (by simp; omega), za (by omega)]
   exact f1
  ·simp only [zcL, zb, zK, Option.bind_some, s2, e2, Sum.elim_inl]
   rw [if_pos (by simp; omega), za (by omega)]
   exact f2
theorem zzQ (i sc n1 n2 n3 m1 m2 : Int) : ∀ (k j : Nat) (o : List TWay), j + k = d.length → o.length + 200 * k ≤ 1000000 → ∃ o', zbc M c d s o i sc n1 n2 n3 d.length j = some (.inl (c, d, s, o', i, n1, n2, n3, ())) ∧
  zcE M c d s o i sc m1 m2 d d.length j = some (.inl (c, d, s, o', i, sc, m1, m2, ())) ∧ o'.length ≤ o.length + 200 * k ∧ (Dn s c d o → Dn s c d o') := by
 have d1 := (zbj.1 hd).1
 intro k
 induction k with
 | zero =>
  intro j o hq ho
  obtain rfl : j = d.length := by omega
  refine ⟨o, zf9 _ _ _ _ _ _ _ _ _ _ _ ?_, zi1 _ _ _ _ _ _ _ _ _ _ _ ?_, by omega, id⟩
  ·simp only [zbC, zb]
   rw [if_neg (by simp)]
  ·simp only [zd6, zb]
   rw [if_neg (by simp)]
 | succ k ih =>
  intro j o hq ho
  have hj : j < d.length := by omega
  obtain ⟨o1, e1, e2, e3, e4⟩ := zzL s hg c d hc hd i sc n1 n2 n3 d.length j hj m1 m2 d d.length j 2 0 o (by omega) (by omega)
  rw [show ((0 : Nat) : Int) = 0 from rfl] at e1 e2
  obtain ⟨o', f1, f2, f3, f4⟩ := ih (j + 1) o1 (by omega) (by omega)
  refine ⟨o', zf9 _ _ _ _ _ _ _ _ _ _ _ ?_, zi1 _ _ _ _ _ _ _ _ _ _ _ ?_, by omega, fun hn => f4 (e4 hn)⟩
  ·simp only [zbC, zb, e1, Option.bind_some, Sum.elim_inl]
   rw [if_pos (by simp; omega), za (by omega)]
   exact f1
  ·simp only [zd6, zb, zK, ze hj, e2, Option.bind_some, Sum.elim_inl]
   rw [if_pos (by simp; omega), za (by omega)]
   exact f2
theorem zzJ (i n1 n2 m1 m2 : Int) : ∀ (k sc : Nat) (o : List TWay), sc + k = 2 → o.length + 2000 * k ≤ 1000000 → ∃ o', zbn M c d s o i n1 n2 sc = some (.inl (c, d, s, o', n1, n2, ())) ∧
  zde M c d s o i sc m1 m2 = some (.inl (c, d, s, o', m1, m2, ())) ∧ o'.length ≤ o.length + 2000 * k ∧ (Dn s c d o → Dn s c d o') := by
 have d1 := (zbj.1 hd).1
 intro k
 induction k with
 | zero =>
  intro sc o hq ho
  obtain rfl : sc = 2 := by omega
  refine ⟨o, zgB _ _ _ _ _ _ _ _ ?_, zjh _ _ _ _ _ _ _ _ ?_, by omega, id⟩
  ·simp only [zbW, zb]
   rw [if_neg (by simp)]
  ·simp only [zeI, zb]
   rw [if_neg (by simp)]
 | succ k ih =>
  intro sc o hq ho
  obtain ⟨o1, e1, e2, e3, e4⟩ := zzQ s hg c d hc hd i sc n1 n2 sc m1 m2 d.length 0 o (by omega) (by omega)
  rw [show ((0 : Nat) : Int) = 0 from rfl] at e1 e2
  obtain ⟨o', f1, f2, f3, f4⟩ := ih (sc + 1) o1 (by omega) (by omega)
  refine ⟨o', zgB _ _ _ _ _ _ _ _ ?_, zjh _ _ _ _ _ _ _ _ ?_, by omega, fun hn => f4 (e4 hn)⟩
  ·simp only [zbW, zb, e1, Option.bind_some, Sum.elim_inl]
   rw [if_pos (by simp; omega), za (by omega)]
   exact f1
  ·simp only [zeI, zb, e2, Option.bind_some, Sum.elim_inl]
   rw [if_pos (by simp; omega), za (by omega)]
   exact f2
set_option maxRecDepth 20000 in
theorem zzY : ∀ (k i : Nat) (o : List TWay), i + k = c.length → o.length + 4000 * k ≤ 1000000 → ∃ o', zbP M c d s o c.length i = some (.inl (o', ())) ∧
  zeR M c d s o c.length i = some (.inl (o', ())) ∧ o'.length ≤ o.length + 4000 * k ∧ (Dn s c d o → Dn s c d o') := by
 have c1 := (zbj.1 hc).1
 intro k
 induction k with
 | zero =>
  intro i o hq ho
  obtain rfl : i = c.length := by omega
  refine ⟨o, zhE _ _ _ _ _ _ ?_, zls _ _ _ _ _ _ ?_, by omega, id⟩
  ·simp only [zcN, zb]
   rw [if_neg (by simp)]
  ·simp only [zgk, zb]
   rw [if_neg (by simp)]
 | succ k ih =>
  intro i o hq ho
  have hq2 : o.length + 2000 * 2 ≤ 1000000 := by
   have q1 : 2000 * 2 ≤ 4000 * (k + 1) := by omega
   exact Nat.le_trans (Nat.add_le_add_left q1 _) ho
  have hz2 : 0 + 2 = 2 := rfl
  obtain ⟨o1, e1, e2, e3, e4⟩ := zzJ s hg c d hc hd i c.length i c.length i 2 0 o hz2 hq2
  rw [show ((0 : Nat) : Int) = 0 from rfl] at e1 e2
  obtain ⟨o', f1, f2, f3, f4⟩ := ih (i + 1) o1 (by omega) (by omega)
  refine ⟨o', zhE _ _ _ _ _ _ ?_, zls _ _ _ _ _ _ ?_, by omega, fun hn => f4 (e4 hn)⟩
  ·simp only [zcN, zb, e1, Option.bind_some, Sum.elim_inl]
   rw [if_pos (by simp; omega), za (by omega)]
   exact f1
  ·simp only [zgk, zb, e2, Option.bind_some, Sum.elim_inl]
   rw [if_pos (by simp; omega), za (by omega)]
   exact f2
theorem zz2 : ∃ o : List TWay, zeD M s c d = some ((o, ()), ()) ∧ ziE M s c d = some ((o, ()), ()) ∧ o.length ≤ 40000 ∧ Dn s c d o := by
 have c1 := (zbj.1 hc).1
 have hq : ([] : List TWay).length + 4000 * c.length ≤ 1000000 := by
  have e : ([] : List TWay).length = 0 := rfl
  rw [e]
  omega
 have hz : 0 + c.length = c.length := Nat.zero_add _
 obtain ⟨o, e1, e2, e3, e4⟩ := zzY s hg c d hc hd c.length 0 [] hz hq
 rw [show ((0 : Nat) : Int) = 0 from rfl] at e1 e2
 refine ⟨o, znI _ _ _ ?_, ztr _ _ _ ?_, by simp only [List.length_nil] at e3; omega, e4 (fun w hw => by cases hw)⟩
 ·simp only [zgO, zb, e1, Option.bind_some, Sum.elim_inl]
 ·simp only [zk0, zb, e2, Option.bind_some, Sum.elim_inl]
end
theorem zqa (s : TSign) (hs : s.1.length ≤ 1048576) (c d : List TLit) (hc : c.length ≤ 1048576) (hcx : ∀ x ∈ c, smL x) (hd : d.length ≤ 1048576) (hdx : ∀ x ∈ d, smL x) : ∃ r : (List TWay × Bool × Unit) × Unit, zd7 M s c d = some r ∧ zf1 M s c d = some r ∧ r.1.1.length ≤ 40000 ∧ (r.1.1 = [] ∨ gS s.1 = true ∧ clOK s.1 c = true ∧ clOK s.1 d = true ∧ Dn s c d r.1.1) := by
 cases h1 : (gS s.1 && clOK s.1 c) with
 | false =>
  refine ⟨(([], false, ()), ()), zjy _ _ _ ?_, zjG _ _ _ ?_, by simp, .inl rfl⟩
  ·simp only [zfR, zg, za9 s hs c hc hcx, h1, Option.bind_some]; rfl
  ·simp only [zfN, zg, zax s hs c hc, h1, Option.bind_some]; rfl
 | true =>
  have h1' := h1
  simp only [Bool.and_eq_true] at h1'
  obtain ⟨hg, h2⟩ := h1'
  cases h3 : clOK s.1 d with
  | false =>
   refine ⟨(([], false, ()), ()), zjy _ _ _ ?_, zjG _ _ _ ?_, by simp, .inl rfl⟩
   ·simp only [zfR, zg, za9 s hs c hc hcx, h1, Option.bind_some, zcP s hg d hd hdx, h3]; rfl
   ·simp only [zfN, zg, zax s hs c hc, h1, Option.bind_some, zeL s hg d hd, h3]; rfl
  | true =>
   obtain ⟨o, r1, r2, r3, r4⟩ := zz2 s hg c d h2 h3
   refine ⟨((o, true, ()), ()), zjy _ _ _ ?_, zjG _ _ _ ?_, r3, .inr ⟨hg, h2, rfl, r4⟩⟩
   ·simp only [zfR, zg, za9 s hs c hc hcx, h1, Option.bind_some, zcP s hg d hd hdx, h3, r2]; rfl
   ·simp only [zfN, zg, zax s hs c hc, h1, Option.bind_some, zeL s hg d hd, h3, r1]; rfl
end Go.Proofs.YtenknihdnkiplaaGreatSs.Ev
namespace Go.Proofs.YtenknihdnkiplaaGreatSs.Ev
open Go
set_option autoImplicit false
set_option linter.unusedVariables false
set_option linter.unusedSimpArgs false
theorem znk {c : List TLit} (h : c.length ≤ 9) (hx : ∀ x ∈ c, liD x) : c.length ≤ 1048576 ∧ ∀ x ∈ c, smL x := ⟨by omega, fun x h' => by have := hx x h'; exact ⟨by have := this.1; omega, by have := this.2; omega⟩⟩
theorem zqG {a : List Int} (h : SgD a) : a.length ≤ 1048576 := by have := h.1; omega
section
variable {code : List Int} (hb : isBytes code)
include hb
theorem zwL {a : List Int} (ha : SgD a) {j : Int} (hj : j ≤ 20000) {c : TCur} (hc : Cu code j c) : Okk (fun r => (r.1.1.length ≤ 9 ∧ ∀ x ∈ r.1.1, liD x) ∧ (r.1.2.1.length ≤ 9 ∧ ∀ x ∈ r.1.2.1, liD x) ∧ Cu code (j + 50000) r.2.1) (zel M c (a, ())) := by
 refine Okk.lift ?_ (zpG c (a, ()))
 simp only [zh9, zbK]
 refine Okk.bind (ztB hb ha (by omega) hc) ?_
 rintro ⟨⟨o1, ⟨⟩⟩, ⟨c1, ⟨⟩⟩⟩ ⟨a1, a2, a3⟩
 refine Okk.bind (ztB hb ha (by omega) a3) ?_
 rintro ⟨⟨o2, ⟨⟩⟩, ⟨c2, ⟨⟩⟩⟩ ⟨b1, b2, b3⟩
 simp only at a1 a2 b1 b2 b3
 refine Okk.bind (P := fun y => ∃ (c' : TCur) (p q : List TLit), y = .inl (c', p, q, ()) ∧ (p.length ≤ 9 ∧ ∀ x ∈ p, liD x) ∧ (q.length ≤ 9 ∧ ∀ x ∈ q, liD x) ∧ Cu code (j + 50000) c') ?_ ?_
 ·refine Okk.ite (fun h1 => ?_) fun _ => .pure ⟨c2, o1, o2, rfl, ⟨a1, a2⟩, ⟨b1, b2⟩, b3.mono (by omega)⟩
  refine Okk.ite (fun h2 => ?_) fun _ => .pure ⟨c2, o1, o2, rfl, ⟨a1, a2⟩, ⟨b1, b2⟩, b3.mono (by omega)⟩
  simp only [decide_eq_true_eq] at h1 h2
  have l1 : 0 < o1.length := by omega
  have l2 : 0 < o2.length := by omega
  refine Okk.iteT (by simp only; omega) ?_
  have g1 : o1[Int.toNat 0]? = some o1[0] := List.getElem?_eq_getElem l1
  have g2 : o2[Int.toNat 0]? = some o2[0] := List.getElem?_eq_getElem l2
  simp only [g1, Option.bind_some]
  have m1 := a2 _ (List.getElem_mem l1)
  have m2 := b2 _ (List.getElem_mem l2)
  refine Okk.ite (fun h3 => ?_) fun _ => .pure ⟨c2, o1, o2, rfl, ⟨a1, a2⟩, ⟨b1, b2⟩, b3.mono (by omega)⟩
  refine Okk.bind (zlA hb b3 2 (by omega) (by omega)) ?_
  rintro ⟨⟨b, ⟨⟩⟩, ⟨c3, ⟨⟩⟩⟩ g3
  simp only at g3
  refine Okk.ite (fun h4 => ?_) fun _ => .pure ⟨c3, o1, o2, rfl, ⟨a1, a2⟩, ⟨b1, b2⟩, g3.mono (by omega)⟩
  refine Okk.iteT (by omega) ?_
  rw [zkD _ (by have := m1.1; omega)]
  simp only [Option.bind_some]
  refine Okk.iteT (by omega) ?_
  simp only [g2, Option.bind_some, zbK]
  refine Okk.bind (zlA hb g3 2 (by omega) (by omega)) ?_
  rintro ⟨⟨b', ⟨⟩⟩, ⟨c4, ⟨⟩⟩⟩ g4
  simp only at g4
  have l3 : (Int.toNat 0) < (o2.set (Int.toNat 0) (o2[0].1, o1[0].2.1, o2[0].2.2.1, ())).length := by rw [List.length_set]; exact l2
  refine Okk.iteT (by rw [List.length_set]; omega) ?_
  rw [List.getElem?_eq_getElem l3]
  simp only [Option.bind_some]
  refine .pure ⟨c4, o1, _, rfl, ⟨a1, a2⟩, ⟨by rw [List.length_set, List.length_set]; exact b1, fun x hx => ?_⟩, g4.mono (by omega)⟩
  rcases List.mem_or_eq_of_mem_set hx with hx | rfl
  ·rcases List.mem_or_eq_of_mem_set hx with hx | rfl
   ·exact b2 x hx
   ·exact ⟨m1.1, m2.2⟩
  ·simp only [Int.toNat_zero, List.getElem_set_self]
   exact ⟨m1.1, m2.2⟩
 ·rintro _ ⟨c', p, q, rfl, h1, h2, h3⟩
  exact .pure ⟨h1, h2, h3⟩
theorem zu6 : Okk (fun r => SgD r.1.1.1 ∧ (r.1.2.1.length ≤ 9 ∧ ∀ x ∈ r.1.2.1, liD x) ∧ (r.1.2.2.1.length ≤ 9 ∧ ∀ x ∈ r.1.2.2.1, liD x)) (zdd M code) := by
 refine Okk.lift ?_ (zob code)
 simp only [zhl]
 refine Okk.bind (P := fun r => SgD r.1.1.1 ∧ (r.1.2.1.length ≤ 9 ∧ ∀ x ∈ r.1.2.1, liD x) ∧ (r.1.2.2.1.length ≤ 9 ∧ ∀ x ∈ r.1.2.2.1, liD x)) (Okk.lift ?_ (zms code)) fun r h => .pure h
 simp only [zfu]
 refine Okk.bind (zxu hb (by omega) (cu0 code)) ?_
 rintro ⟨⟨⟨a, ⟨⟩⟩, ⟨⟩⟩, ⟨c1, ⟨⟩⟩⟩ ⟨h1, h2⟩
 refine Okk.bind (zwL hb h1 (by omega) h2) ?_
 rintro ⟨⟨o1, o2, ⟨⟩⟩, ⟨c2, ⟨⟩⟩⟩ ⟨h3, h4, _⟩
 exact .pure ⟨h1, h3, h4⟩
theorem ztW {Q : (TSign × List TLit × List TLit × TWay × Unit) × Unit → Prop} {s : TSign} {o1 o2 : List TLit} {j : Int} (hj : j ≤ 100000) {c : TCur} (hc : Cu code j c) (hQ : ∀ w, Q ((s, o1, o2, w, ()), ())) : Okk Q ((zd M c 3).bind fun r17 => ((zd M (r17.2.1.1, r17.2.1.2.1, r17.2.1.2.2.1, ()) 2).bind fun r18 => ((zd M (r18.2.1.1, r18.2.1.2.1, r18.2.1.2.2.1, ()) 2).bind fun r19 => ((zd M (r19.2.1.1, r19.2.1.2.1, r19.2.1.2.2.1, ()) 2).bind fun r20 => ((zd M (r20.2.1.1, r20.2.1.2.1, r20.2.1.2.2.1, ()) 4).bind fun r21 => (some ((s, o1, o2, (r17.1.1, r18.1.1, r19.1.1, r20.1.1, r21.1.1, ()), ()), ()))))))) := by
 refine Okk.bind (zdR hb hc 3 (by omega) (by omega)) ?_
 rintro ⟨⟨x, ⟨⟩⟩, ⟨c1, ⟨⟩⟩⟩ ⟨_, _, g1⟩
 refine Okk.bind (zdR hb g1 2 (by omega) (by omega)) ?_
 rintro ⟨⟨x, ⟨⟩⟩, ⟨c2, ⟨⟩⟩⟩ ⟨_, _, g2⟩
 refine Okk.bind (zdR hb g2 2 (by omega) (by omega)) ?_
 rintro ⟨⟨x, ⟨⟩⟩, ⟨c3, ⟨⟩⟩⟩ ⟨_, _, g3⟩
 refine Okk.bind (zdR hb g3 2 (by omega) (by omega)) ?_
 rintro ⟨⟨x, ⟨⟩⟩, ⟨c4, ⟨⟩⟩⟩ ⟨_, _, g4⟩
 refine Okk.bind (zdR hb g4 4 (by omega) (by omega)) ?_
 rintro ⟨⟨x, ⟨⟩⟩, ⟨c5, ⟨⟩⟩⟩ _
 exact .pure (hQ _)
theorem zu0 : Okk (fun r => SgD r.1.1.1 ∧ (r.1.2.1.length ≤ 9 ∧ ∀ x ∈ r.1.2.1, liD x) ∧ (r.1.2.2.1.length ≤ 9 ∧ ∀ x ∈ r.1.2.2.1, liD x)) (zeA M code) := by
 refine Okk.lift ?_ (znY code)
 simp only [zgX]
 refine Okk.bind (zxu hb (by omega) (cu0 code)) ?_
 rintro ⟨⟨⟨a, ⟨⟩⟩, ⟨⟩⟩, ⟨c1, ⟨⟩⟩⟩ ⟨h1, h2⟩
 refine Okk.bind (zwL hb h1 (by omega) h2) ?_
 rintro ⟨⟨o1, o2, ⟨⟩⟩, ⟨c2, ⟨⟩⟩⟩ ⟨h3, h4, h5⟩
 simp only at h3 h4 h5
 obtain ⟨s1, s2⟩ := znk h3.1 h3.2
 obtain ⟨s3, s4⟩ := znk h4.1 h4.2
 obtain ⟨r, w1, _, w3, _⟩ := zqa (a, ()) (zqG h1) o1 o2 s1 s2 s3 s4
 simp only [w1, Option.bind_some, zbK]
 refine Okk.ite (fun _ => ?_) fun _ => ztW hb (s := (a, ())) (by omega) h5 fun w => ⟨h1, h3, h4⟩
 refine Okk.ite (fun hl => ?_) fun _ => ztW hb (s := (a, ())) (by omega) h5 fun w => ⟨h1, h3, h4⟩
 refine Okk.bind (zlA hb h5 2 (by omega) (by omega)) ?_
 rintro ⟨⟨b, ⟨⟩⟩, ⟨c3, ⟨⟩⟩⟩ g3
 simp only [zbK] at g3 ⊢
 refine Okk.ite (fun _ => ?_) fun _ => ztW hb (s := (a, ())) (by omega) g3 fun w => ⟨h1, h3, h4⟩
 simp only [decide_eq_true_eq] at hl
 refine Okk.bind (zdR hb g3 (r.1.1.length : Int) (by omega) (by omega)) ?_
 rintro ⟨⟨x, ⟨⟩⟩, ⟨c4, ⟨⟩⟩⟩ ⟨x0, x1, _⟩
 simp only at x0 x1
 refine Okk.iteT (by simp only; omega) ?_
 rw [List.getElem?_eq_getElem (show x.toNat < r.1.1.length by omega)]
 exact .pure ⟨h1, h3, h4⟩
end
end Go.Proofs.YtenknihdnkiplaaGreatSs.Ev
namespace Go.Proofs.YtenknihdnkiplaaGreatSs.Ev
open Go
set_option autoImplicit false
set_option linter.unusedVariables false
set_option linter.unusedSimpArgs false
def smS (x : List Int) : Prop := x.length ≤ 1048576
abbrev TWorld := Int × List (List Int) × Unit
theorem za8 (x : TWorld) : (x.1, x.2.1, ()) = x := rfl
def pw (s : Int) : Nat → Int
 | 0 => 1
 | k + 1 => s * pw s k
theorem ztU {s : Int} (hs : 1 ≤ s) : ∀ k, 1 ≤ pw s k
 | 0 => Int.le_refl _
 | k + 1 => by
  have h := ztU hs k
  have : 1 * 1 ≤ s * pw s k := Int.mul_le_mul hs h (by omega) (by omega)
  simpa [pw] using this
theorem ztv {s : Int} (h1 : 1 ≤ s) (h3 : s ≤ 3) {k : Nat} (hk : k ≤ 3) : pw s k ≤ 27 := by
 have hs : s = 1 ∨ s = 2 ∨ s = 3 := by omega
 have hk' : k = 0 ∨ k = 1 ∨ k = 2 ∨ k = 3 := by omega
 rcases hs with rfl | rfl | rfl <;> rcases hk' with rfl | rfl | rfl | rfl <;> decide
theorem ztx {s n : Int} {k : Nat} (h1 : 1 ≤ s) (hn : 0 ≤ n) (hb : n * pw s (k + 1) ≤ 1000000) : 0 ≤ n * s ∧ n * s ≤ 1000000 ∧ (n * s) * pw s k ≤ 1000000 := by
 have hp := ztU h1 k
 have h0 : 0 ≤ n * s := Int.mul_nonneg hn (by omega)
 have e : (n * s) * pw s k = n * pw s (k + 1) := by rw [Int.mul_assoc]; rfl
 have : (n * s) * 1 ≤ (n * s) * pw s k := Int.mul_le_mul_of_nonneg_left hp h0
 rw [Int.mul_one] at this
 exact ⟨h0, by omega, by omega⟩
def elOK (s : Int) (l : List Int) : Bool := l.all fun x => decide (0 ≤ x) && decide (x < s)
def tabOK (s : Int) : List Int → List (List Int) → Bool
 | k :: ks, t :: ts => decide ((t.length : Int) = pw s k.toNat) && (elOK s t && tabOK s ks ts)
 | _, _ => true
def wOK (a : List Int) (w : TWorld) : Bool := decide (1 ≤ w.1) && (decide (w.1 ≤ 3) && (decide (w.2.1.length = a.length) && tabOK w.1 a w.2.1))
theorem zxb {a : List Int} (hg : gS a = true) : a.length ≤ 10 ∧ ∀ x ∈ a, 0 ≤ x ∧ x ≤ 3 := by
 simp only [gS, Bool.and_eq_true, List.all_eq_true, decide_eq_true_eq] at hg
 exact ⟨hg.2.1, fun x hx => by simpa using hg.2.2.1 x hx⟩
theorem zo7 {s : Int} : ∀ {a : List Int} {ts : List (List Int)} (i : Nat) (h : i < a.length) (h' : i < ts.length), tabOK s a ts = true → (ts[i].length : Int) = pw s (a[i]).toNat ∧ elOK s ts[i] = true
 | k :: ks, t :: ts, 0, _, _, ht => by
  simp only [tabOK, Bool.and_eq_true, decide_eq_true_eq] at ht
  exact ⟨ht.1, ht.2.1⟩
 | k :: ks, t :: ts, i + 1, h, h', ht => by
  simp only [tabOK, Bool.and_eq_true, decide_eq_true_eq] at ht
  exact zo7 i (by simpa using h) (by simpa using h') ht.2.2
def envOK (s : Int) (e : List Int) : Bool := decide (e.length = 12) && elOK s e
theorem zi2 {s : Int} {e : List Int} (h : envOK s e = true) (i : Nat) (hi : i < 12) : ∃ v, e[i]? = some v ∧ 0 ≤ v ∧ v < s := by
 simp only [envOK, elOK, Bool.and_eq_true, decide_eq_true_eq, List.all_eq_true] at h
 have h1 : i < e.length := by omega
 exact ⟨e[i], List.getElem?_eq_getElem h1, h.2 _ (List.getElem_mem h1)⟩
theorem zsB {s : Int} {e : List Int} (h : envOK s e = true) (i : Nat) (v : Int) (h0 : 0 ≤ v) (h1 : v < s) : envOK s (e.set i v) = true := by
 simp only [envOK, elOK, Bool.and_eq_true, decide_eq_true_eq, List.all_eq_true, List.length_set] at h ⊢
 refine ⟨h.1, fun x hx => ?_⟩
 rcases List.mem_or_eq_of_mem_set hx with h2 | h2
 ·exact h.2 x h2
 ·subst h2; exact ⟨h0, h1⟩
theorem zuE {s acc v P : Int} (h1 : 1 ≤ s) (h3 : s ≤ 3) (h0 : 0 ≤ acc) (hP : acc < P) (hP' : P ≤ 1000) (v0 : 0 ≤ v) (v1 : v < s) : 0 ≤ acc * s + v ∧ acc * s + v < s * P ∧ 0 ≤ acc * s ∧ acc * s ≤ 3000 := by
 have a1 : 0 ≤ acc * s := Int.mul_nonneg h0 (by omega)
 have a2 : acc * s ≤ (P - 1) * s := Int.mul_le_mul_of_nonneg_right (by omega) (by omega)
 have a3 : (P - 1) * s = s * P - s := by rw [Int.sub_mul, Int.one_mul, Int.mul_comm]
 have a4 : acc * s ≤ acc * 3 := Int.mul_le_mul_of_nonneg_left h3 h0
 exact ⟨by omega, by omega, a1, by omega⟩
theorem zku {a : List Int} {w : TWorld} (h : wOK a w = true) : 1 ≤ w.1 ∧ w.1 ≤ 3 ∧ w.2.1.length = a.length ∧ tabOK w.1 a w.2.1 = true := by
 simpa only [wOK, Bool.and_eq_true, decide_eq_true_eq] using h
end Go.Proofs.YtenknihdnkiplaaGreatSs.Ev
namespace Go.Proofs.YtenknihdnkiplaaGreatSs.Ev
open Go
set_option autoImplicit false
set_option linter.unusedVariables false
set_option linter.unusedSimpArgs false
theorem zyw {a : List Int} (hg : gS a = true) {u v x y : List Int} (hu : Tm a u) (hv : Tm a v) (h : u ++ x = v ++ y) : u = v ∧ x = y := by
 have e1 := hu.rest hg x
 have e2 := hv.rest hg y
 rw [h] at e1
 have e3 : x = y := by rw [e1] at e2; exact Option.some.inj e2
 subst e3
 exact ⟨List.append_cancel_right h, rfl⟩
theorem zsS {a : List Int} (hg : gS a = true) : ∀ (us vs : List (List Int)) (x y : List Int), (∀ u ∈ us, Tm a u) → (∀ v ∈ vs, Tm a v) → us.length = vs.length → us.flatten ++ x = vs.flatten ++ y → us = vs
 | [], [], _, _, _, _, _, _ => rfl
 | [], _ :: _, _, _, _, _, h, _ => by simp at h
 | _ :: _, [], _, _, _, _, h, _ => by simp at h
 | u :: us, v :: vs, x, y, hu, hv, hl, h => by
  simp only [List.flatten_cons, List.append_assoc] at h
  obtain ⟨e1, e2⟩ := zyw hg (hu u (by simp)) (hv v (by simp)) h
  rw [e1, zsS hg us vs x y (fun u h => hu u (by simp [h])) (fun v h => hv v (by simp [h])) (by simpa using hl) e2]
open Classical in
noncomputable def kidsOf (a : List Int) (n : Int) (r : List Int) : List (List Int) := if h : ∃ us : List (List Int), r = us.flatten ∧ (us.length : Int) = ar a n ∧ ∀ u ∈ us, Tm a u then h.choose else []
theorem zsx {a : List Int} (hg : gS a = true) {n : Int} {us : List (List Int)} (hl : (us.length : Int) = ar a n) (hk : ∀ u ∈ us, Tm a u) : kidsOf a n us.flatten = us := by
 have h : ∃ vs : List (List Int), us.flatten = vs.flatten ∧ (vs.length : Int) = ar a n ∧ ∀ u ∈ vs, Tm a u := ⟨us, rfl, hl, hk⟩
 unfold kidsOf
 rw [dif_pos h]
 obtain ⟨e1, e2, e3⟩ := h.choose_spec
 exact zsS hg _ us [] [] e3 hk (by omega) (by rw [List.append_nil, List.append_nil]; exact e1.symm)
def foldV (S acc : Int) (vs : List Int) : Int := vs.foldl (fun acc v => acc * S + v) acc
noncomputable def vlN (a : List Int) (w : TWorld) (env : List Int) : Nat → List Int → Int
 | 0, _ => 0
 | _ + 1, [] => 0
 | k + 1, n :: r => if n < 0 then (env[(-1 - n).toNat]?).getD 0 else ((w.2.1[n.toNat]?).bind fun tb => tb[(foldV w.1 0 ((kidsOf a n r).map (vlN a w env k))).toNat]?).getD 0
noncomputable def vl (a : List Int) (w : TWorld) (env t : List Int) : Int := vlN a w env t.length t
section
variable {a : List Int} (hg : gS a = true) (w : TWorld) (env : List Int)
include hg
theorem zzM : ∀ (k j : Nat) (t : List Int), t.length ≤ k → t.length ≤ j → Tm a t → vlN a w env k t = vlN a w env j t := by
 intro k
 induction k with
 | zero => intro j t h _ ht; have := ht.pos; omega
 | succ k ih =>
  intro j t hk hj ht
  obtain ⟨n, us, rfl, hb, hl, hu⟩ := ht.parts hg
  simp only [List.length_cons] at hk hj
  obtain ⟨j, rfl⟩ : ∃ j', j = j' + 1 := ⟨j - 1, by omega⟩
  simp only [vlN, zsx hg hl hu]
  have : us.map (vlN a w env k) = us.map (vlN a w env j) := List.map_congr_left fun u hu' => by
   have : u.length ≤ us.flatten.length := (List.sublist_flatten_of_mem hu').length_le
   exact ih j u (by omega) (by omega) (hu u hu')
  rw [this]
omit hg in
theorem znl {n : Int} (h : n < 0) : vl a w env [n] = (env[(-1 - n).toNat]?).getD 0 := by
 simp only [vl, List.length_cons, List.length_nil, vlN, h, if_true]
theorem zkv {n : Int} (h : ¬ n < 0) {us : List (List Int)} (hl : (us.length : Int) = ar a n) (hu : ∀ u ∈ us, Tm a u) : vl a w env (n :: us.flatten) = ((w.2.1[n.toNat]?).bind fun tb => tb[(foldV w.1 0 (us.map (vl a w env))).toNat]?).getD 0 := by
 simp only [vl, List.length_cons, vlN, if_neg h, zsx hg hl hu]
 have : us.map (vlN a w env us.flatten.length) = us.map (fun t => vlN a w env t.length t) := List.map_congr_left fun u hu' => by
  have : u.length ≤ us.flatten.length := (List.sublist_flatten_of_mem hu').length_le
  exact zzM hg w env _ _ u this (Nat.le_refl _) (hu u hu')
 rw [this]; rfl
omit hg in
theorem zyG (hg : gS a = true) (hw : wOK a w = true) (he : envOK w.1 env = true) {t : List Int} (ht : Tm a t) : 0 ≤ vl a w env t ∧ vl a w env t < w.1 := by
 obtain ⟨h1, h3, hwl, hwt⟩ := zku hw
 obtain ⟨n, us, rfl, hb, hl, hu⟩ := ht.parts hg
 unfold badN at hb
 by_cases h : n < 0
 ·have h4 : ar a n = 0 := by simp [ar, h]
  obtain rfl : us = [] := List.eq_nil_of_length_eq_zero (by omega)
  obtain ⟨v, v1, v2, v3⟩ := zi2 he (-1 - n).toNat (by omega)
  rw [List.flatten_nil, znl w env h, v1]
  exact ⟨v2, v3⟩
 ·rw [zkv hg w env h hl hu]
  have hna : n.toNat < a.length := by omega
  have hnt : n.toNat < w.2.1.length := by omega
  have htab := (zo7 n.toNat hna hnt hwt).2
  rw [List.getElem?_eq_getElem hnt, Option.bind_some]
  cases hx : (w.2.1[n.toNat])[(foldV w.1 0 (us.map (vl a w env))).toNat]? with
  | none => exact ⟨Int.le_refl _, by show (0 : Int) < w.1; omega⟩
  | some x =>
   simp only [elOK, List.all_eq_true, Bool.and_eq_true, decide_eq_true_eq] at htab
   exact htab x (List.mem_of_getElem? hx)
end
noncomputable def envS (a : List Int) (w : TWorld) (τ : Int → List Int) (env : List Int) : List Int := (List.range 12).map fun (k : Nat) => if τ (k : Int) ≠ [] then vl a w env (τ (k : Int)) else (env[k]?).getD 0
section
variable {a : List Int} (hg : gS a = true) (w : TWorld) (env : List Int) {τ : Int → List Int} (hτ : ∀ v, τ v ≠ [] → Tm a (τ v))
include hg hτ
theorem zrV (hw : wOK a w = true) (he : envOK w.1 env = true) : envOK w.1 (envS a w τ env) = true := by
 simp only [envOK, elOK, envS, Bool.and_eq_true, decide_eq_true_eq, List.all_eq_true, List.length_map, List.length_range, List.mem_map, true_and]
 rintro x ⟨k, hk, rfl⟩
 rw [List.mem_range] at hk
 split
 ·rename_i h; exact zyG w env hg hw he (hτ _ h)
 ·obtain ⟨v, v1, v2, v3⟩ := zi2 he k hk
  rw [v1]; exact ⟨v2, v3⟩
omit hg hτ in
theorem zp6 (τ : Int → List Int) : ∀ us : List (List Int), apS τ us.flatten = (us.map (apS τ)).flatten
 | [] => rfl
 | u :: us => by rw [List.flatten_cons, zfY, zp6 τ us]; rfl
theorem zmd : ∀ (N : Nat) (t : List Int), t.length ≤ N → Tm a t → vl a w env (apS τ t) = vl a w (envS a w τ env) t := by
 intro N
 induction N with
 | zero => intro t h ht; have := ht.pos; omega
 | succ N ih =>
  intro t hN ht
  obtain ⟨n, us, rfl, hb, hl, hu⟩ := ht.parts hg
  simp only [List.length_cons] at hN
  unfold badN at hb
  by_cases h : n < 0
  ·have h4 : ar a n = 0 := by simp [ar, h]
   obtain rfl : us = [] := List.eq_nil_of_length_eq_zero (by omega)
   rw [List.flatten_nil, znl w _ h, zce]
   have e0 : apS τ [] = [] := rfl
   rw [e0, List.append_nil]
   have hk : (-1 - n).toNat < 12 := by omega
   have e1 : (((-1 - n).toNat : Nat) : Int) = -1 - n := by omega
   simp only [envS, List.getElem?_map, List.getElem?_range hk, Option.map_some, Option.getD_some, e1]
   by_cases hs : τ (-1 - n) = []
   ·rw [zi0 hs, znl w env h, if_neg (fun q => q hs)]
   ·rw [zgR h hs, if_pos hs]
  ·rw [zce, zjK (by omega), zp6]
   have hl' : ((us.map (apS τ)).length : Int) = ar a n := by rw [List.length_map]; exact hl
   have hu' : ∀ u ∈ us.map (apS τ), Tm a u := by
    intro u q
    obtain ⟨v, hv, rfl⟩ := List.mem_map.1 q
    exact zg7 hg hτ (hu v hv)
   rw [List.singleton_append, zkv hg w env h hl' hu', zkv hg w _ h hl hu, List.map_map]
   have : us.map (vl a w env ∘ apS τ) = us.map (vl a w (envS a w τ env)) := List.map_congr_left fun u q => by
    have : u.length ≤ us.flatten.length := (List.sublist_flatten_of_mem q).length_le
    exact ih u (by omega) (hu u q)
   rw [this]
end
section
variable {a : List Int} (hg : gS a = true) (w : TWorld)
include hg
theorem zzj (env env' : List Int) : ∀ (N : Nat) (t : List Int), t.length ≤ N → Tm a t → (∀ n ∈ t, n < 0 → env[(-1 - n).toNat]? = env'[(-1 - n).toNat]?) → vl a w env t = vl a w env' t := by
 intro N
 induction N with
 | zero => intro t h ht; have := ht.pos; omega
 | succ N ih =>
  intro t hN ht hv
  obtain ⟨n, us, rfl, hb, hl, hu⟩ := ht.parts hg
  simp only [List.length_cons] at hN
  by_cases h : n < 0
  ·have h4 : ar a n = 0 := by simp [ar, h]
   obtain rfl : us = [] := List.eq_nil_of_length_eq_zero (by omega)
   rw [List.flatten_nil, znl w _ h, znl w _ h, hv n (by simp) h]
  ·rw [zkv hg w _ h hl hu, zkv hg w _ h hl hu]
   have : us.map (vl a w env) = us.map (vl a w env') := List.map_congr_left fun u q => by
    have : u.length ≤ us.flatten.length := (List.sublist_flatten_of_mem q).length_le
    exact ih u (by omega) (hu u q) (fun n hn => hv n (List.mem_cons_of_mem _ (List.mem_flatten.2 ⟨u, q, hn⟩)))
   rw [this]
theorem zzH : ∀ (us : List (List Int)) (l p z : List Int), (∀ u ∈ us, Tm a u) → us.flatten = l ++ (p ++ z) → Tm a p → ∃ us1 u us2 l2 z2, us = us1 ++ u :: us2 ∧ u = l2 ++ (p ++ z2) ∧ l = us1.flatten ++ l2 ∧ z = z2 ++ us2.flatten := by
 intro us
 induction us with
 | nil =>
  intro l p z _ h hp
  have := hp.pos
  have h' := congrArg List.length h
  simp at h'
  omega
 | cons u us ih =>
  intro l p z hu h hp
  rw [List.flatten_cons] at h
  by_cases hl : u.length ≤ l.length
  ·have e1 : l.take u.length = u := by
    have := congrArg (List.take u.length) h
    rw [List.take_left', List.take_append_of_le_length hl] at this
    ·exact this.symm
    ·rfl
   have e2 : us.flatten = l.drop u.length ++ (p ++ z) := by
    have := congrArg (List.drop u.length) h
    rw [List.drop_left', List.drop_append_of_le_length hl] at this
    ·exact this
    ·rfl
   obtain ⟨us1, v, us2, l2, z2, q1, q2, q3, q4⟩ := ih _ p z (fun v h => hu v (by simp [h])) e2 hp
   refine ⟨u :: us1, v, us2, l2, z2, by rw [q1]; rfl, q2, ?_, q4⟩
   rw [List.flatten_cons, List.append_assoc, ← q3]
   have := List.take_append_drop u.length l
   rw [e1] at this
   exact this.symm
  ·have hlt : l.length < u.length := by omega
   have e1 : u.take l.length = l := by
    have := congrArg (List.take l.length) h
    rw [List.take_append_of_le_length (by omega), List.take_left'] at this
    ·exact this
    ·rfl
   have e2 : u.drop l.length ++ us.flatten = p ++ z := by
    have := congrArg (List.drop l.length) h
    rw [List.drop_append_of_le_length (by omega), List.drop_left'] at this
    ·exact this
    ·rfl
   obtain ⟨v, x, v1, v2⟩ := Tm.at hg (hu u (by simp)) hlt
   rw [v1, List.append_assoc] at e2
   obtain ⟨q1, q2⟩ := zyw hg v2 hp e2
   refine ⟨[], u, us, l, x, rfl, ?_, rfl, q2.symm⟩
   have := List.take_append_drop l.length u
   rw [e1, v1, q1] at this
   exact this.symm
theorem zy0 (env : List Int) {p r : List Int} (hp : Tm a p) (hr : Tm a r) (hv : vl a w env p = vl a w env r) : ∀ (N : Nat) (l z : List Int), (l ++ (p ++ z)).length ≤ N → Tm a (l ++ (p ++ z)) → Tm a (l ++ (r ++ z)) → vl a w env (l ++ (p ++ z)) = vl a w env (l ++ (r ++ z)) := by
 intro N
 induction N with
 | zero =>
  intro l z h _
  have := hp.pos
  simp only [List.length_append] at h
  omega
 | succ N ih =>
  intro l z hN ht ht'
  cases l with
  | nil =>
   have hz : z = [] := zph hg hp ht
   subst hz
   simpa using hv
  | cons n l =>
   simp only [List.cons_append, List.length_cons] at hN ht ht' ⊢
   obtain ⟨m, us, e, hb, hl, hu⟩ := ht.parts hg
   obtain ⟨e0, e2⟩ := List.cons.inj e
   subst e0
   obtain ⟨us1, u, us2, l2, z2, q1, q2, q3, q4⟩ := zzH hg us l p z hu e2.symm hp
   subst q1
   subst q2
   have hT : Tm a (l2 ++ (p ++ z2)) := hu _ (by simp)
   have e' : l ++ (r ++ z) = (us1 ++ (l2 ++ (r ++ z2)) :: us2).flatten := by
    rw [q3, q4]; simp [List.append_assoc]
   by_cases h : n < 0
   ·have h4 : ar a n = 0 := by simp [ar, h]
    rw [h4] at hl
    simp at hl
    omega
   ·have hT' : Tm a (l2 ++ (r ++ z2)) := zsj hg hT hp hr
    have hl' : ((us1 ++ (l2 ++ (r ++ z2)) :: us2).length : Int) = ar a n := by
     rw [← hl]; simp
    have hu' : ∀ u ∈ us1 ++ (l2 ++ (r ++ z2)) :: us2, Tm a u := by
     intro u q
     rcases List.mem_append.1 q with q | q
     ·exact hu u (by simp [q])
     ·rcases List.mem_cons.1 q with q | q
      ·rw [q]; exact hT'
      ·exact hu u (by simp [q])
    rw [e, e', zkv hg w env h hl hu, zkv hg w env h hl' hu']
    have hle : (l2 ++ (p ++ z2)).length ≤ N := by
     have := congrArg List.length e
     simp at this hN ⊢
     omega
    rw [List.map_append, List.map_append, List.map_cons, List.map_cons, ih l2 z2 hle hT hT']
end
end Go.Proofs.YtenknihdnkiplaaGreatSs.Ev
namespace Go.Proofs.YtenknihdnkiplaaGreatSs.Ev
open Go
set_option autoImplicit false
set_option linter.unusedVariables false
set_option linter.unusedSimpArgs false
def okM (m : List Int) : Prop := m.Nodup ∧ ∀ x ∈ m, -12 ≤ x ∧ x < 0
theorem okM.len {m : List Int} (h : okM m) : m.length ≤ 12 := by
 have := h.1.length_le_of_subset (l₂ := (List.range 12).map fun k : Nat => -1 - (k : Int)) (fun x hx => by
  have := h.2 x hx
  exact List.mem_map.2 ⟨(-1 - x).toNat, by simp; omega, by omega⟩)
 simpa using this
theorem okM.add {m : List Int} (h : okM m) {n : Int} (h0 : n < 0) (h1 : -12 ≤ n) : okM (addN m n) := by
 unfold addN
 split
 ·rename_i q
  refine ⟨?_, fun x hx => ?_⟩
  ·rw [List.nodup_append]
   exact ⟨h.1, by simp, fun x hx y hy e => by rw [List.mem_singleton] at hy; subst e; subst hy; exact q.2 hx⟩
  ·rcases List.mem_append.1 hx with hx | hx
   ·exact h.2 x hx
   ·rw [List.mem_singleton.1 hx]; exact ⟨h1, h0⟩
 ·exact h
theorem zqx (n : Int) : ∀ (m : List Int) (i : Nat), n ∈ m → ∃ j : Nat, j < i + m.length ∧ mget (mkM i m) n 0 = -1 - (j : Int)
 | [], _, h => by cases h
 | a :: r, i, h => by
  simp only [mkM, mget, List.length_cons]
  by_cases e : a = n
  ·rw [if_pos e]
   exact ⟨i, by omega, rfl⟩
  ·rw [if_neg e]
   obtain ⟨j, j1, j2⟩ := zqx n r (i + 1) (by rcases List.mem_cons.1 h with q | q; exact absurd q.symm e; exact q)
   exact ⟨j, by omega, j2⟩
theorem zur {a : List Int} : ∀ (t met : List Int) (k : Int), okM met → sE a k t = some [] → ∃ met', okM met' ∧ (rnm (mkM 0 met) t).2 = mkM 0 met' ∧ sE a k (rnm (mkM 0 met) t).1 = some []
 | [], met, k, hm, h => ⟨met, hm, rfl, h⟩
 | n :: r, met, k, hm, h => by
  simp only [sE] at h
  split at h
  ·cases h
  ·rename_i hk
   split at h
   ·cases h
   ·rename_i hb
    simp only [rnm]
    by_cases h0 : 0 ≤ n
    ·simp only [if_pos h0]
     obtain ⟨met', m1, m2, m3⟩ := zur r met _ hm h
     refine ⟨met', m1, m2, ?_⟩
     simp only [sE, if_neg hk, if_neg hb]
     exact m3
    ·have hn : -12 ≤ n := by unfold badN at hb; omega
     have hm' := hm.add (n := n) (by omega) hn
     simp only [if_neg h0, zso met (show n < 0 by omega)]
     obtain ⟨met', m1, m2, m3⟩ := zur r (addN met n) _ hm' h
     obtain ⟨j, j1, j2⟩ := zqx n (addN met n) 0 (zqn met (by omega))
     have hl := hm'.len
     refine ⟨met', m1, m2, ?_⟩
     have e1 : ar a n = 0 := by unfold ar; rw [if_pos (by omega)]
     have e2 : ar a (-1 - (j : Int)) = 0 := by unfold ar; rw [if_pos (by omega)]
     have hbj : ¬ badN a (-1 - (j : Int)) := by unfold badN; omega
     rw [j2]
     simp only [sE, if_neg hk, if_neg hbj]
     rw [e2, ← e1]
     exact m3
theorem zwX {a : List Int} : ∀ (ts : List (List Int)) (met : List Int), okM met → (∀ t ∈ ts, isT a t = true) → ∀ t ∈ rnL (mkM 0 met) ts, isT a t = true
 | [], met, _, _, t, ht => by cases ht
 | u :: r, met, hm, h, t, ht => by
  have hu := zi.1 (h u (by simp))
  obtain ⟨met', m1, m2, m3⟩ := zur u met 1 hm hu.2
  simp only [rnL] at ht
  rcases List.mem_cons.1 ht with rfl | ht
  ·exact zi.2 ⟨by rw [(znm u _).1]; exact hu.1, m3⟩
  ·rw [m2] at ht
   exact zwX r met' m1 (fun x hx => h x (by simp [hx])) t ht
theorem zvv : ∀ (c : List TLit) (ts : List (List Int)), ∀ x ∈ wtZ c ts, x.2.1 ∈ ts ∧ x.2.2.1 ∈ ts
 | [], _, x, h => by simp [wtZ] at h
 | _ :: _, [], x, h => by simp [wtZ] at h
 | _ :: _, [_], x, h => by simp [wtZ] at h
 | y :: c, u :: v :: r, x, h => by
  simp only [wtZ] at h
  rcases List.mem_cons.1 h with rfl | h
  ·exact ⟨by simp, by simp⟩
  ·obtain ⟨h1, h2⟩ := zvv c r x h
   exact ⟨by simp [h1], by simp [h2]⟩
theorem zAp {a : List Int} {c : List TLit} (hl : c.length ≤ 8) (h : ∀ x ∈ c, litOK a x = true) : clOK a (outC c) = true := by
 have h2 := zm8 c []
 have hT := zhY (td [] c)
 refine zbj.2 ⟨?_, fun x hx => ?_⟩
 ·unfold outC rnC
  rw [zpv _ _ (by rw [zpy]; omega)]
  simp at h2; omega
 ·obtain ⟨h1, h3⟩ := zvv _ _ x hx
  have hk := zwX (a := a) (tms (td [] c)) [] ⟨by simp, by simp⟩ (fun t ht => by
   obtain ⟨y, hy, e⟩ := zbh.1 ht
   obtain ⟨q1, q2⟩ := zaL.1 (h y (by rcases zl4 c [] y hy with q | q; cases q; exact q))
   rcases e with rfl | rfl
   ·exact q1
   ·exact q2)
  exact zaL.2 ⟨hk _ h1, hk _ h3⟩
end Go.Proofs.YtenknihdnkiplaaGreatSs.Ev
namespace Go.Proofs.YtenknihdnkiplaaGreatSs.Ev
open Go
set_option autoImplicit false
set_option linter.unusedVariables false
set_option linter.unusedSimpArgs false
noncomputable def lhv (a : List Int) (w : TWorld) (env : List Int) (x : TLit) : Bool := (vl a w env x.2.1 == vl a w env x.2.2.1) == x.1
noncomputable def hlv (a : List Int) (w : TWorld) (env : List Int) (c : List TLit) : Bool := c.any (lhv a w env)
def HOL (a : List Int) (w : TWorld) (c : List TLit) : Prop := ∀ env, envOK w.1 env = true → hlv a w env c = true
section
variable {a : List Int} (hg : gS a = true) {w : TWorld} (hw : wOK a w = true)
include hg hw
omit hg hw in
theorem zr3 {c : List TLit} (h : HOL a w c) (f : List Int → List Int) (hf : ∀ env, envOK w.1 env = true → ∃ env', envOK w.1 env' = true ∧ ∀ t ∈ tms c, vl a w env (f t) = vl a w env' t) : HOL a w (c.map fun x => (x.1, f x.2.1, f x.2.2.1, ())) := by
 intro env he
 obtain ⟨env', h1, h2⟩ := hf env he
 have h3 := h env' h1
 simp only [hlv, List.any_eq_true] at h3 ⊢
 obtain ⟨x, hx, hv⟩ := h3
 refine ⟨_, List.mem_map.2 ⟨x, hx, rfl⟩, ?_⟩
 simp only [lhv, h2 x.2.1 (zbh.2 ⟨x, hx, .inl rfl⟩), h2 x.2.2.1 (zbh.2 ⟨x, hx, .inr rfl⟩)]
 exact hv
omit hw in
theorem zAo (env : List Int) {τ : Int → List Int} (hτ : ∀ v, τ v ≠ [] → Tm a (τ v)) {x : TLit} (hx : litOK a x = true) : lhv a w env (x.1, apS τ x.2.1, apS τ x.2.2.1, ()) = lhv a w (envS a w τ env) x := by
 obtain ⟨h1, h2⟩ := zaL.1 hx
 simp only [lhv, zmd hg w env hτ _ x.2.1 (Nat.le_refl _) (zi.1 h1).2, zmd hg w env hτ _ x.2.2.1 (Nat.le_refl _) (zi.1 h2).2]
theorem zvD {c : List TLit} (h : HOL a w c) (hc : ∀ x ∈ c, litOK a x = true) {τ : Int → List Int} (hτ : ∀ v, τ v ≠ [] → Tm a (τ v)) : HOL a w (apC τ c) := by
 refine zr3 h (apS τ) fun env he => ⟨envS a w τ env, zrV hg w env hτ hw he, fun t ht => ?_⟩
 obtain ⟨x, hx, e⟩ := zbh.1 ht
 obtain ⟨h1, h2⟩ := zaL.1 (hc x hx)
 rcases e with rfl | rfl
 ·exact zmd hg w env hτ _ _ (Nat.le_refl _) (zi.1 h1).2
 ·exact zmd hg w env hτ _ _ (Nat.le_refl _) (zi.1 h2).2
end
section
variable {a : List Int}
theorem zxw {n : Int} (h : n < 0) (h12 : -12 ≤ n) : Tm a [n] := by
 have hb : ¬ badN a n := by unfold badN; omega
 have h4 : ar a n = 0 := by simp [ar, h]
 simp [Tm, sE, hb, h4]
def renM (M : List Int) (n : Int) : Int := if 0 ≤ n then n else mget (mkM 0 M) n 0
theorem zuq (n : Int) : ∀ (m x : List Int) (i : Nat), n ∈ m → mget (mkM i (m ++ x)) n 0 = mget (mkM i m) n 0
 | [], _, _, h => by cases h
 | b :: m, x, i, h => by
  simp only [List.cons_append, mkM, mget]
  split
  ·rfl
  ·rename_i hb
   exact zuq n m x (i + 1) (by
    rcases List.mem_cons.1 h with q | q
    ·exact absurd q.symm hb
    ·exact q)
theorem zqq {m m' : List Int} (h : m <+: m') {n : Int} (hn : 0 ≤ n ∨ n ∈ m) : renM m' n = renM m n := by
 obtain ⟨x, rfl⟩ := h
 unfold renM
 split
 ·rfl
 ·rcases hn with q | q
  ·omega
  ·exact zuq n m x 0 q
theorem zx7 (m : List Int) (n : Int) : m <+: addN m n := by
 unfold addN
 split
 ·exact List.prefix_append _ _
 ·exact List.prefix_refl _
theorem zsv : ∀ (t m : List Int), okM m → (∀ n ∈ t, -12 ≤ n) → ∃ M, okM M ∧ m <+: M ∧ (∀ n ∈ t, n < 0 → n ∈ M) ∧ rnm (mkM 0 m) t = (t.map (renM M), mkM 0 M)
 | [], m, hm, _ => ⟨m, hm, List.prefix_refl _, by simp, rfl⟩
 | n :: r, m, hm, h => by
  by_cases h0 : 0 ≤ n
  ·obtain ⟨M, q1, q2, q3, q4⟩ := zsv r m hm (fun n hn => h n (by simp [hn]))
   refine ⟨M, q1, q2, fun x hx hn => ?_, ?_⟩
   ·rcases List.mem_cons.1 hx with rfl | hx
    ·omega
    ·exact q3 x hx hn
   ·simp only [rnm, if_pos h0, q4, List.map_cons, renM]
  ·have hn : n < 0 := by omega
   obtain ⟨M, q1, q2, q3, q4⟩ := zsv r (addN m n) (hm.add hn (h n (by simp))) (fun n hn => h n (by simp [hn]))
   have hmem := zqn m hn
   refine ⟨M, q1, (zx7 m n).trans q2, fun x hx hx0 => ?_, ?_⟩
   ·rcases List.mem_cons.1 hx with rfl | hx
    ·exact q2.subset hmem
    ·exact q3 x hx hx0
   ·simp only [rnm, if_neg h0, zso m hn, q4, List.map_cons]
    rw [zqq q2 (.inr hmem)]
    simp only [renM, if_neg h0]
theorem zvF : ∀ (ts : List (List Int)) (m : List Int), okM m → (∀ t ∈ ts, ∀ n ∈ t, -12 ≤ n) → ∃ M, okM M ∧ m <+: M ∧ (∀ t ∈ ts, ∀ n ∈ t, n < 0 → n ∈ M) ∧ rnL (mkM 0 m) ts = ts.map (fun t => t.map (renM M))
 | [], m, hm, _ => ⟨m, hm, List.prefix_refl _, by simp, rfl⟩
 | t :: r, m, hm, h => by
  obtain ⟨M1, p1, p2, p3, p4⟩ := zsv t m hm (h t (by simp))
  obtain ⟨M, q1, q2, q3, q4⟩ := zvF r M1 p1 (fun u hu => h u (by simp [hu]))
  refine ⟨M, q1, p2.trans q2, fun u hu n hn h0 => ?_, ?_⟩
  ·rcases List.mem_cons.1 hu with rfl | hu
   ·exact q2.subset (p3 n hn h0)
   ·exact q3 u hu n hn h0
  ·simp only [rnL, p4, q4, List.map_cons]
   congr 1
   refine List.map_congr_left fun n hn => ?_
   by_cases h0 : 0 ≤ n
   ·exact (zqq q2 (.inl h0)).symm
   ·exact (zqq q2 (.inr (p3 n hn (by omega)))).symm
def renS (M : List Int) (v : Int) : List Int := if -1 - v ∈ M then [renM M (-1 - v)] else []
theorem zyn {M : List Int} (h : okM M) {n : Int} (hn : n ∈ M) : -12 ≤ renM M n ∧ renM M n < 0 := by
 have h0 := (h.2 n hn).2
 obtain ⟨j, hj, e⟩ := zqx n M 0 hn
 have := h.len
 unfold renM
 rw [if_neg (by omega), e]
 omega
theorem zvA {M : List Int} (h : okM M) : ∀ v, renS M v ≠ [] → Tm a (renS M v) := by
 intro v hv
 unfold renS at hv ⊢
 split at hv
 ·rename_i q
  rw [if_pos q]
  have := zyn h q
  exact zxw this.2 this.1
 ·exact absurd rfl hv
theorem ztN {M : List Int} (h : okM M) : ∀ t : List Int, (∀ n ∈ t, n < 0 → n ∈ M) → apS (renS M) t = t.map (renM M)
 | [], _ => rfl
 | n :: t, hn => by
  rw [zce, ztN h t (fun m hm => hn m (by simp [hm])), List.map_cons]
  by_cases h0 : n < 0
  ·have hm := hn n (by simp) h0
   have e : renS M (-1 - n) = [renM M n] := by
    unfold renS
    rw [show -1 - (-1 - n) = n by omega, if_pos hm]
   rw [zgR h0 (by rw [e]; simp), e]
   rfl
  ·rw [zjK (by omega)]
   simp [renM, show 0 ≤ n by omega]
variable (hg : gS a = true) {w : TWorld} (hw : wOK a w = true)
include hg hw
theorem zzq {c : List TLit} (h : HOL a w c) (hc : ∀ x ∈ c, litOK a x = true) : HOL a w (rnC c) := by
 have hx : ∀ t ∈ tms c, isT a t = true := by
  intro t ht
  obtain ⟨x, hx, e⟩ := zbh.1 ht
  obtain ⟨h1, h2⟩ := zaL.1 (hc x hx)
  rcases e with rfl | rfl <;> assumption
 obtain ⟨M, q1, q2, q3, q4⟩ := zvF (tms c) [] ⟨by simp, by simp⟩ (fun t ht n hn => ((zi3 (hx t ht)).2 n hn).1)
 have e : rnC c = c.map fun x => (x.1, x.2.1.map (renM M), x.2.2.1.map (renM M), ()) := by
  unfold rnC
  rw [show ([] : List (Int × Int)) = mkM 0 [] from rfl, q4, zr0]
 rw [e]
 refine zr3 h (fun t => t.map (renM M)) fun env he => ⟨envS a w (renS M) env, zrV hg w env (zvA q1) hw he, fun t ht => ?_⟩
 show vl a w env (t.map (renM M)) = _
 rw [← ztN q1 t (q3 t ht)]
 exact zmd hg w env (zvA q1) _ t (Nat.le_refl _) (zi.1 (hx t ht)).2
omit hg hw in
theorem zx0 {env : List Int} {x y : TLit} (h : sameL x y = true) : lhv a w env x = lhv a w env y := by
 simp only [sameL, Bool.and_eq_true, Bool.or_eq_true, beq_iff_eq, decide_eq_true_eq] at h
 obtain ⟨h1, h2⟩ := h
 unfold lhv
 rw [h1]
 rcases h2 with ⟨e1, e2⟩ | ⟨e1, e2⟩
 ·rw [e1, e2]
 ·rw [e1, e2]
  congr 1
  rw [Bool.eq_iff_iff, beq_iff_eq, beq_iff_eq]
  exact eq_comm
omit hg hw in
theorem zqB (env : List Int) : ∀ (c o : List TLit), (o.any (lhv a w env) || c.any (lhv a w env)) = true → (td o c).any (lhv a w env) = true
 | [], o, h => by simpa [td] using h
 | x :: c, o, h => by
  simp only [td]
  split
  ·rename_i hx
   refine zqB env c o ?_
   simp only [List.any_cons, Bool.or_eq_true] at h ⊢
   rcases h with h | h | h
   ·exact .inl h
   ·rcases hx with ⟨e1, e2⟩ | hx
    ·unfold lhv at h
     rw [e1, e2] at h
     simp at h
    ·simp only [List.any_eq_true] at hx
     obtain ⟨y, hy, hs⟩ := hx
     refine .inl (List.any_eq_true.2 ⟨y, hy, ?_⟩)
     rw [← zx0 hs]; exact h
   ·exact .inr h
  ·refine zqB env c (o ++ [x]) ?_
   simp only [List.any_append, List.any_cons, List.any_nil, Bool.or_false, Bool.or_eq_true] at h ⊢
   rcases h with h | h | h
   ·exact .inl (.inl h)
   ·exact .inl (.inr h)
   ·exact .inr h
theorem zx5 {c : List TLit} (h : HOL a w c) (hc : ∀ x ∈ c, litOK a x = true) : HOL a w (outC c) := by
 refine zzq hg hw (fun env he => zqB env c [] (by simpa [hlv] using h env he)) fun x hx => ?_
 rcases zl4 c [] x hx with q | q
 ·cases q
 ·exact hc x q
end
end Go.Proofs.YtenknihdnkiplaaGreatSs.Ev
namespace Go.Proofs.YtenknihdnkiplaaGreatSs.Ev
open Go
set_option autoImplicit false
set_option linter.unusedVariables false
set_option linter.unusedSimpArgs false
def shS (b v : Int) : List Int := if -12 ≤ -1 - v - b ∧ -1 - v - b < 0 then [-1 - v - b] else []
theorem zt5 {a : List Int} (b : Int) : ∀ v, shS b v ≠ [] → Tm a (shS b v) := by
 intro v hv
 unfold shS at hv ⊢
 split at hv
 ·rename_i q
  rw [if_pos q]
  exact zxw q.2 q.1
 ·exact absurd rfl hv
theorem zsn {b : Int} (hb : 0 ≤ b) : ∀ t : List Int, (∀ n ∈ t.map (shn b), -12 ≤ n) → apS (shS b) t = t.map (shn b)
 | [], _ => rfl
 | n :: t, h => by
  rw [zce, zsn hb t (fun m hm => h m (by simp only [List.map_cons]; exact List.mem_cons_of_mem _ hm)), List.map_cons]
  by_cases h0 : n < 0
  ·have h1 := h (shn b n) (by simp)
   simp only [shn, if_pos h0] at h1
   have e : shS b (-1 - n) = [n - b] := by
    unfold shS
    rw [show -1 - (-1 - n) - b = n - b by omega, if_pos (by omega)]
   rw [zgR h0 (by rw [e]; simp), e]
   simp only [shn, if_pos h0]
   rfl
  ·rw [zjK (by omega)]
   simp [shn, h0]
theorem zAr {c : List TLit} {x : TLit} (hx : x ∈ c) (k : Int) : (sd x k).1 ∈ tms c ∧ (sd x k).2 ∈ tms c := by
 unfold sd
 split
 ·exact ⟨zbh.2 ⟨x, hx, .inl rfl⟩, zbh.2 ⟨x, hx, .inr rfl⟩⟩
 ·exact ⟨zbh.2 ⟨x, hx, .inr rfl⟩, zbh.2 ⟨x, hx, .inl rfl⟩⟩
theorem zzA {a : List Int} {w : TWorld} {env : List Int} (x : TLit) (k : Int) : lhv a w env x = ((vl a w env (sd x k).1 == vl a w env (sd x k).2) == x.1) := by
 unfold lhv sd
 split
 ·rfl
 ·congr 1
  rw [Bool.eq_iff_iff, beq_iff_eq, beq_iff_eq]
  exact eq_comm
section
variable {a : List Int} (hg : gS a = true) {w : TWorld} (hw : wOK a w = true)
include hg hw
theorem zxv {c d : List TLit} (h : HOL a w d) (hd : ∀ x ∈ d, litOK a x = true) (hall : (apartC c d).all (litOK a) = true) : HOL a w (apartC c d) := by
 have hb : 0 ≤ far (upTo (inV (tms c))) := (zpu (fun v hv => by have := zdg.1 hv; omega)).1
 have hx := List.all_eq_true.1 hall
 show HOL a w (d.map fun x => (x.1, (fun t : List Int => t.map (shn (far (upTo (inV (tms c)))))) x.2.1, (fun t : List Int => t.map (shn (far (upTo (inV (tms c)))))) x.2.2.1, ()))
 refine zr3 h _ fun env he => ⟨envS a w (shS (far (upTo (inV (tms c))))) env, zrV hg w env (zt5 _) hw he, fun t ht => ?_⟩
 obtain ⟨x, hxd, e⟩ := zbh.1 ht
 obtain ⟨h1, h2⟩ := zaL.1 (hd x hxd)
 obtain ⟨h3, h4⟩ := zaL.1 (hx _ (List.mem_map.2 ⟨x, hxd, rfl⟩))
 show vl a w env (t.map (shn (far (upTo (inV (tms c)))))) = _
 rcases e with rfl | rfl
 ·rw [← zsn hb _ (fun n hn => ((zi3 h3).2 n hn).1)]
  exact zmd hg w env (zt5 _) _ _ (Nat.le_refl _) (zi.1 h1).2
 ·rw [← zsn hb _ (fun n hn => ((zi3 h4).2 n hn).1)]
  exact zmd hg w env (zt5 _) _ _ (Nat.le_refl _) (zi.1 h2).2
omit hw in
theorem zyu (env : List Int) {y : TLit} {ot : Int} {p r l z : List Int} (hs : (sd y ot).1 = l ++ (p ++ z)) (hT : Tm a (l ++ (p ++ z))) (hp : Tm a p) (hr : Tm a r) (hv : vl a w env p = vl a w env r) : lhv a w env (newL ot y (l ++ (r ++ z))) = lhv a w env y := by
 have e := zy0 hg w env hp hr hv _ l z (Nat.le_refl _) hT (zsj hg hT hp hr)
 unfold newL
 unfold sd at hs
 split
 ·rename_i h0
  rw [if_pos h0] at hs
  simp only [lhv]
  rw [hs, e]
 ·rename_i h0
  rw [if_neg h0] at hs
  simp only [lhv]
  rw [hs, e]
theorem zxm {c d : List TLit} {y : TWay} {out : List TLit} (hs : SupOK a c d y out) (hc : ∀ x ∈ c, litOK a x = true) (hd : ∀ x ∈ d, litOK a x = true) (h1 : HOL a w c) (h2 : HOL a w d) : HOL a w out := by
 obtain ⟨I, J, at', hI, hJ, τ, p, z, e1, e2, hpos, hot, hτ, hall, hdrop, hp, hun, hout, _, _⟩ := hs
 have hTτ : ∀ v, τ v ≠ [] → Tm a (τ v) := fun v h => (zi.1 (hτ.1 v h).1).2
 have hx := List.all_eq_true.1 hall
 have h3 := zvD hg hw h1 hc hTτ
 have h4 := zvD hg hw (zxv hg hw h2 hd hall) hx hTτ
 have lcb : (apC τ c).length = c.length := by simp [apC]
 have leb : (apC τ (apartC c d)).length = (apartC c d).length := by simp [apC]
 have hI' : I < (apC τ c).length := by omega
 have hJ' : J < (apC τ (apartC c d)).length := by omega
 have hcT := zkC (hc _ (List.getElem_mem hI)) y.2.1
 have huT := zkC (hx _ (List.getElem_mem hJ)) y.2.2.2.1
 have hl2 := (zi.1 hcT.1).2
 have hr2 := (zi.1 hcT.2).2
 have hu2 := (zi.1 huT.1).2
 have hu' : (sd (apartC c d)[J] y.2.2.2.1).1 = (sd (apartC c d)[J] y.2.2.2.1).1.take at' ++ (p ++ z) := by rw [← hdrop, List.take_append_drop]
 intro env he
 have k1 := h3 env he
 have k2 := h4 env he
 simp only [hlv, List.any_eq_true] at k1 k2 ⊢
 obtain ⟨x1, m1, v1⟩ := k1
 obtain ⟨x2, m2, v2⟩ := k2
 obtain ⟨i, hi, rfl⟩ := List.mem_iff_getElem.1 m1
 obtain ⟨j, hj, rfl⟩ := List.mem_iff_getElem.1 m2
 rw [hout]
 by_cases hiI : i = I
 ·subst hiI
  by_cases hjJ : j = J
  ·subst hjJ
   have q1 := zzA (a := a) (w := w) (env := env) (apC τ c)[i] y.2.1
   have q2 : (apC τ c)[i].1 = true := by simpa [apC] using hpos
   rw [v1, q2, zq0 τ c hI hi y.2.1] at q1
   have q3 : vl a w env (apS τ (sd c[i] y.2.1).1) = vl a w env (apS τ (sd c[i] y.2.1).2) := by simpa using q1.symm
   rw [hun] at q3
   refine ⟨_, List.mem_append_right _ (List.mem_iff_getElem.2 ⟨j, by simpa using hj, List.getElem_set_self ..⟩), ?_⟩
   rw [show apS τ ((sd (apartC c d)[j] y.2.2.2.1).1.take at' ++ (sd c[i] y.2.1).2 ++ z) = apS τ ((sd (apartC c d)[j] y.2.2.2.1).1.take at') ++ (apS τ (sd c[i] y.2.1).2 ++ apS τ z) by rw [zfY, zfY, List.append_assoc]]
   have hs' : (sd (apC τ (apartC c d))[j] y.2.2.2.1).1 = apS τ ((sd (apartC c d)[j] y.2.2.2.1).1.take at') ++ (apS τ p ++ apS τ z) := by
    rw [zq0 τ (apartC c d) hJ hj y.2.2.2.1, ← zfY, ← zfY, ← hu']
   rw [zyu hg env hs' (by rw [← zfY, ← zfY, ← hu']; exact zg7 hg hTτ hu2) (zg7 hg hTτ hp) (zg7 hg hTτ hr2) q3]
   exact v2
  ·refine ⟨_, List.mem_append_right _ (List.mem_iff_getElem.2 ⟨j, by simpa using hj, List.getElem_set_ne (Ne.symm hjJ) ..⟩), v2⟩
 ·refine ⟨_, List.mem_append_left _ ?_, v1⟩
  rw [List.mem_eraseIdx_iff_getElem]
  exact ⟨i, hi, hiI, rfl⟩
end
end Go.Proofs.YtenknihdnkiplaaGreatSs.Ev
namespace Go.Proofs.YtenknihdnkiplaaGreatSs.Ev
open Go
set_option autoImplicit false
set_option linter.unusedVariables false
set_option linter.unusedSimpArgs false
theorem zrX (s : Int) (h1 : 1 ≤ s) (m : Nat) (hm : m ≤ 1000) : ∀ (k i : Nat) (n : Int), i + k = m → 0 ≤ n → n * pw s k ≤ 1000000 → zek M s n m i = some (.inl (n * pw s k, ())) := by
 intro k
 induction k with
 | zero =>
  intro i n hi _ _
  obtain rfl : i = m := by omega
  apply zkL
  simp [zfE, pw]
 | succ k ih =>
  intro i n hi hn hb
  obtain ⟨g0, g1, g2⟩ := ztx h1 hn hb
  apply zkL
  simp only [zfE]
  rw [if_pos (by simp <;> omega), w64 (x := n * s) (by omega) (by omega), za (by omega), ih (i + 1) (n * s) (by omega) g0 g2, Int.mul_assoc]
  rfl
theorem zxj (s : Int) (h1 : 1 ≤ s) (h3 : s ≤ 3) (k : Int) (k0 : 0 ≤ k) (k3 : k ≤ 3) : zhW M s k = some ((pw s k.toNat, ()), ()) := by
 apply zr4
 have := zrX s h1 k.toNat (by omega) k.toNat 0 1 (by omega) (by omega) (by have := ztv h1 h3 (k := k.toNat) (by omega); omega)
 rw [show ((k.toNat : Nat) : Int) = k by omega, Int.one_mul, show ((0 : Nat) : Int) = 0 from rfl] at this
 simp only [zka, this, Option.bind_some, Sum.elim_inl]
theorem zyI (x s : Int) : zeE M x s = some ((!(decide (0 ≤ x) && decide (x < s)), ()), ()) := by
 apply zn4
 simp only [zgM, decide_eq_true_eq]
 by_cases h : x < 0
 ·rw [if_pos h]; simp; omega
 ·rw [if_neg h]
  have h0 : 0 ≤ x := by omega
  rw [decide_eq_true h0, Bool.true_and]
  by_cases h3 : x < s
  ·rw [decide_eq_true h3, decide_eq_false (by omega)]; rfl
  ·rw [decide_eq_false h3, decide_eq_true (by omega)]; rfl
theorem ztH (s : Int) (a : List Int) (ha : a.length ≤ 17592186044416) : ∀ k i : Nat, i + k = a.length → ∃ r, zH M a (s, ()) a.length i = some r ∧ (match r with | .inl _ => (a.drop i).all (fun x => decide (0 ≤ x) && decide (x < s)) = true | .inr r => 0 ≤ r.1.1 ∧ (a.drop i).all (fun x => decide (0 ≤ x) && decide (x < s)) = false) := by
 intro k
 induction k with
 | zero =>
  intro i hi
  obtain rfl : i = a.length := by omega
  refine ⟨.inl (), zaC _ _ _ _ (by simp [zE]), by simp⟩
 | succ k ih =>
  intro i hi
  have h1 : i < a.length := by omega
  obtain ⟨r, hr, hm⟩ := ih (i + 1) (by omega)
  rw [List.drop_eq_getElem_cons h1, List.all_cons]
  by_cases hp : (decide (0 ≤ a[i]) && decide (a[i] < s)) = true
  ·refine ⟨r, zaC _ _ _ _ ?_, by rw [hp, Bool.true_and]; exact hm⟩
   simp only [zE]
   rw [if_pos (by simpa using h1), ze h1, za (by omega)]
   simp only [Option.bind_some, zyI, hp, Bool.not_true, Bool.false_eq_true, if_false]
   exact hr
  ·rw [Bool.not_eq_true] at hp
   refine ⟨.inr (((i : Int), ()), ()), zaC _ _ _ _ ?_, Int.natCast_nonneg i, by rw [hp, Bool.false_and]⟩
   simp only [zE]
   rw [if_pos (by simpa using h1), ze h1]
   simp only [Option.bind_some, zyI, hp, Bool.not_false, if_true]
theorem ztX (s : Int) (a : List Int) (ha : a.length ≤ 17592186044416) : z6 M a (s, ()) = some ((!(a.all (fun x => decide (0 ≤ x) && decide (x < s))), ()), ()) := by
 apply zeO
 simp only [zaF]
 obtain ⟨r, hr, hm⟩ := ztH s a ha a.length 0 (by omega)
 rw [show ((0 : Nat) : Int) = 0 from rfl] at hr
 rw [List.drop_zero] at hm
 cases r with
 | inl r =>
  rw [zbM a (s, ()) (r := ((-1, ()), ())) (by simp only [zag, hr, Option.bind_some, Sum.elim_inl])]
  simp only at hm
  simp [hm]
 | inr r =>
  rw [zbM a (s, ()) (r := r) (by simp only [zag, hr, Option.bind_some, Sum.elim_inr])]
  simp only at hm
  simp [hm]
theorem zte (s : Int) (l : List Int) (hl : l.length ≤ 17592186044416) : zf2 M s l = some ((elOK s l, ()), ()) := by
 apply zoV
 simp only [zhO, ztX s l hl, Option.bind_some, Bool.not_not, elOK]
theorem zse (s : TSign) (hg : gS s.1 = true) (w : TWorld) (h1 : 1 ≤ w.1) (h3 : w.1 ≤ 3) (hl : w.2.1.length = s.1.length) (hx : ∀ y ∈ w.2.1, smS y) : ∀ k i : Nat, i + k = w.2.1.length → zb7 M s w w.2.1 w.2.1.length i = some (if tabOK w.1 (s.1.drop i) (w.2.1.drop i) = true then .inl () else .inr ((false, ()), ())) := by
 obtain ⟨g1, g2⟩ := zxb hg
 intro k
 induction k with
 | zero =>
  intro i hi
  obtain rfl : i = w.2.1.length := by omega
  apply zh4
  simp [zcZ, tabOK]
 | succ k ih =>
  intro i hi
  have h0 : i < w.2.1.length := by omega
  have h0' : i < s.1.length := by omega
  have ha := g2 _ (List.getElem_mem h0')
  have hy := hx _ (List.getElem_mem h0)
  unfold smS at hy
  apply zh4
  rw [List.drop_eq_getElem_cons h0, List.drop_eq_getElem_cons h0']
  simp only [zcZ]
  rw [if_pos (by simpa using h0), ze h0, ze h0', za (by omega)]
  simp only [Option.bind_some, zxj w.1 h1 h3 _ ha.1 ha.2, zte w.1 _ (show (w.2.1[i]).length ≤ 17592186044416 by omega), zg, za8, ih (i + 1) (by omega)]
  by_cases e : ((w.2.1[i]).length : Int) = pw w.1 (s.1[i]).toNat
  ·rw [if_neg (by simpa using e)]
   cases hE : elOK w.1 w.2.1[i] <;> simp [tabOK, e, hE]
  ·rw [if_pos (by simpa using e)]; simp [tabOK, e]
theorem zxo (s : TSign) (hg : gS s.1 = true) (w : TWorld) (hl : w.2.1.length ≤ 1048576) (hx : ∀ y ∈ w.2.1, smS y) : zfo M s w = some ((wOK s.1 w, ()), ()) := by
 have hsz : ziC M w.1 = some ((decide (1 ≤ w.1) && decide (w.1 ≤ 3), ()), ()) := by
  apply zs9
  simp only [zkZ, decide_eq_true_eq]
  by_cases h : w.1 ≥ 1
  ·rw [if_pos h, decide_eq_true h]; simp
  ·rw [if_neg h, decide_eq_false (by omega)]; rfl
 apply zok
 simp only [zho, hsz, Option.bind_some, zg, za8, wOK]
 by_cases h1 : 1 ≤ w.1
 ·by_cases h3 : w.1 ≤ 3
  ·rw [if_neg (by simp [h1, h3])]
   by_cases he : w.2.1.length = s.1.length
   ·have := zse s hg w h1 h3 he hx w.2.1.length 0 (by omega)
    rw [show ((0 : Nat) : Int) = 0 from rfl, List.drop_zero, List.drop_zero] at this
    rw [if_neg (by simp; omega), this]
    cases tabOK w.1 s.1 w.2.1 <;> simp [h1, h3, he]
   ·rw [if_pos (by simp; omega)]; simp [he]
  ·rw [if_pos (by simp [h3])]; simp [h3]
 ·rw [if_pos (by simp [h1])]; simp [h1]
end Go.Proofs.YtenknihdnkiplaaGreatSs.Ev
namespace Go.Proofs.YtenknihdnkiplaaGreatSs.Ev
open Go
set_option autoImplicit false
set_option linter.unusedVariables false
set_option linter.unusedSimpArgs false
theorem zsK {T u : List Int} {i : Nat} (h : T.drop i = u) : u.length = T.length - i := by rw [← h, List.length_drop]
theorem zu2 {T u x : List Int} {i : Nat} (h : T.drop i = u ++ x) : T.drop (i + u.length) = x := by
 rw [← List.drop_drop, h, List.drop_left']; rfl
def IV (a : List Int) (w : TWorld) (env u : List Int) : Prop := 0 ≤ vl a w env u ∧ vl a w env u < w.1 ∧
 ∀ (T x : List Int) (i : Nat), T.length ≤ 1000 → T.drop i = u ++ x → ze1 M (a, ()) w T i env = some ((vl a w env u, ((i + u.length : Nat) : Int), ()), ())
theorem ztA {a : List Int} {w : TWorld} {env : List Int} (h1 : 1 ≤ w.1) (h3 : w.1 ≤ 3) : ∀ (us : List (List Int)) (acc : Int) (j : Nat), (∀ u ∈ us, IV a w env u) → j + us.length ≤ 3 → 0 ≤ acc → acc < pw w.1 j → 0 ≤ foldV w.1 acc (us.map (vl a w env)) ∧ foldV w.1 acc (us.map (vl a w env)) < pw w.1 (j + us.length)
 | [], acc, j, _, _, h0, hp => ⟨h0, hp⟩
 | u :: us, acc, j, hu, hj, h0, hp => by
  simp only [List.length_cons] at hj
  have hv := hu u (by simp)
  have hs := zuE h1 h3 h0 hp (by have := ztv h1 h3 (k := j) (by omega); omega) hv.1 hv.2.1
  have := ztA h1 h3 us (acc * w.1 + vl a w env u) (j + 1) (fun v hv => hu v (by simp [hv])) (by omega) hs.1 hs.2.1
  simp only [List.map_cons, foldV, List.foldl_cons, List.length_cons] at this ⊢
  rw [show j + (us.length + 1) = j + 1 + us.length by omega]
  exact this
theorem zv6 {a : List Int} {w : TWorld} (h1 : 1 ≤ w.1) (h3 : w.1 ≤ 3) (env T : List Int) (hT : T.length ≤ 1000) (n : Int) (cnt : Nat) (hc : cnt ≤ 3) : ∀ (us : List (List Int)) (i p : Nat) (x : List Int) (acc : Int), (∀ u ∈ us, IV a w env u) → i + us.length = cnt → T.drop p = us.flatten ++ x → 0 ≤ acc → acc < pw w.1 i →
  zcI M T env (a, ()) w n acc p cnt i = some (.inl (w, n, foldV w.1 acc (us.map (vl a w env)), ((p + us.flatten.length : Nat) : Int), ())) := by
 intro us
 induction us with
 | nil =>
  intro i p x acc _ hi _ _ _
  apply zi4
  simp at hi
  subst hi
  simp [zdY, foldV]
 | cons u us ih =>
  intro i p x acc hu hi hd h0 hp
  simp only [List.length_cons] at hi
  simp only [List.flatten_cons, List.append_assoc, List.length_append] at hd ⊢
  have hv := hu u (by simp)
  have hs := zuE h1 h3 h0 hp (by have := ztv h1 h3 (k := i) (by omega); omega) hv.1 hv.2.1
  have hl := zsK hd
  apply zi4
  simp only [zdY]
  rw [if_pos (by simp <;> omega), za8, hv.2.2 T (us.flatten ++ x) p hT hd]
  simp only [Option.bind_some]
  rw [w64 (x := acc * w.1) (by omega) (by omega), w64 (by have := hv.1; omega) (by have := hv.2.1; omega), za (by omega), ih (i + 1) (p + u.length) x _ (fun v hv => hu v (by simp [hv])) (by omega) (zu2 hd) hs.1 hs.2.1]
  simp [foldV, Nat.add_assoc]
theorem zzT {a : List Int} (hg : gS a = true) {w : TWorld} (hw : wOK a w = true) {env : List Int} (he : envOK w.1 env = true) : ∀ (N : Nat) (u : List Int), u.length ≤ N → N ≤ 1000 → Tm a u → IV a w env u := by
 obtain ⟨h1, h3, hwl, hwt⟩ := zku hw
 intro N
 induction N with
 | zero => intro u hu _ h; have := h.pos; omega
 | succ N ih =>
  intro u hu hN h
  have bd := zyG w env hg hw he h
  refine ⟨bd.1, bd.2, ?_⟩
  obtain ⟨n, us, rfl, hb, hl, hk⟩ := h.parts hg
  have hn := zlz hg n
  have hb' := hb
  unfold badN at hb'
  simp only [List.length_cons] at hu
  have kid : ∀ v ∈ us, IV a w env v := fun v hv => ih v (by
   have : v.length ≤ us.flatten.length := (List.sublist_flatten_of_mem hv).length_le
   omega) (by omega) (hk v hv)
  intro T x i hT hd
  have hi : i < T.length := by have := zsK hd; simp at this; omega
  have hdc := List.drop_eq_getElem_cons hi
  rw [hd] at hdc
  obtain ⟨hx, hdc⟩ := List.cons.inj hdc
  apply zqW
  simp only [ziV]
  rw [ze hi, ← hx]
  simp only [Option.bind_some]
  by_cases h0 : n < 0
  ·have h4 : ar a n = 0 := by simp [ar, h0]
   obtain rfl : us = [] := List.eq_nil_of_length_eq_zero (by omega)
   obtain ⟨v, v1, v2, v3⟩ := zi2 he (-1 - n).toNat (by omega)
   have e2 : idx env (-1 - n) = some v := by
    unfold idx; rw [if_pos (by omega), v1]
   rw [if_pos (by simpa using h0), w64 (x := -1 - n) (by omega) (by omega), e2, za (by omega), List.flatten_nil, znl w env h0, v1]
   simp
  ·have hfa := ztA (a := a) (env := env) h1 h3 us 0 0 kid (by omega) (by omega) (by simp [pw])
   rw [Nat.zero_add] at hfa
   have hna : n.toNat < a.length := by omega
   have hnt : n.toNat < w.2.1.length := by omega
   have htab := zo7 n.toNat hna hnt hwt
   have har : ar a n = a[n.toNat] := by unfold ar; rw [if_neg h0, List.getElem?_eq_getElem hna]; rfl
   rw [← har, ← hl, Int.toNat_natCast] at htab
   have hin : (foldV w.1 0 (us.map (vl a w env))).toNat < (w.2.1[n.toNat]).length := by omega
   have i1 : idx w.2.1 n = some w.2.1[n.toNat] := by unfold idx; rw [if_pos (by omega), List.getElem?_eq_getElem hnt]
   have i2 : idx w.2.1[n.toNat] (foldV w.1 0 (us.map (vl a w env))) = some (w.2.1[n.toNat])[(foldV w.1 0 (us.map (vl a w env))).toNat] := by unfold idx; rw [if_pos (by omega), List.getElem?_eq_getElem hin]
   have ev : vl a w env (n :: us.flatten) = (w.2.1[n.toNat])[(foldV w.1 0 (us.map (vl a w env))).toNat] := by
    rw [zkv hg w env h0 hl hk, List.getElem?_eq_getElem hnt, Option.bind_some, List.getElem?_eq_getElem hin]; rfl
   rw [if_neg (by simpa using h0), zt4 (a, ()) n hb, za (by omega)]
   simp only [Option.bind_some]
   rw [← hl]
   have := zv6 (a := a) h1 h3 env T hT n us.length (by omega) us 0 (i + 1) x 0 kid (by omega) hdc.symm (by omega) (by simp [pw])
   rw [show ((0 : Nat) : Int) = 0 from rfl] at this
   rw [za8, this]
   simp only [Option.bind_some, Sum.elim_inl]
   rw [i1]
   simp only [Option.bind_some]
   rw [i2, ev]
   simp only [Option.bind_some, List.length_cons]
   congr 4
   omega
theorem zxD (s : TSign) (hg : gS s.1 = true) (w : TWorld) (hw : wOK s.1 w = true) (env : List Int) (he : envOK w.1 env = true) (u : List Int) (hu : isT s.1 u = true) : zeh M s w u env = some ((vl s.1 w env u, ()), ()) := by
 simp only [isT, Bool.and_eq_true, decide_eq_true_eq] at hu
 obtain ⟨_, _, v3⟩ := zzT hg hw he 40 u hu.1 (by omega) hu.2
 have h3 := v3 u [] 0 (by omega) (by simp)
 rw [show ((0 : Nat) : Int) = 0 from rfl] at h3
 apply zpS
 rw [zg] at h3
 simp only [zih, zg, za8, h3, Option.bind_some]
end Go.Proofs.YtenknihdnkiplaaGreatSs.Ev
namespace Go.Proofs.YtenknihdnkiplaaGreatSs.Ev
open Go
set_option autoImplicit false
set_option linter.unusedVariables false
set_option linter.unusedSimpArgs false
theorem zuu (x : TLit) : (x.1, x.2.1, x.2.2.1, ()) = x := rfl
noncomputable def lh (s : TSign) (w : TWorld) (env : List Int) (x : TLit) : Bool := lhv s.1 w env x
noncomputable def hl (s : TSign) (w : TWorld) (c : List TLit) (env : List Int) : Bool := c.any (lh s w env)
section
variable (s : TSign) (hg : gS s.1 = true) (w : TWorld) (hw : wOK s.1 w = true)
include hg hw
theorem zyz (env : List Int) (he : envOK w.1 env = true) (x : TLit) (hx : litOK s.1 x = true) : zd5 M x s w env = some ((lh s w env x, ()), ()) := by
 simp only [litOK, Bool.and_eq_true] at hx
 apply znh
 simp only [zgo, zg, za8, zxD s hg w hw env he _ hx.1, zxD s hg w hw env he _ hx.2, Option.bind_some, lh, lhv]
end
theorem zuC (s : TSign) (hg : gS s.1 = true) (w : TWorld) (hw : wOK s.1 w = true) (env : List Int) (he : envOK w.1 env = true) (a : List TLit) (ha : a.length ≤ 17592186044416) (hx : ∀ x ∈ a, litOK s.1 x = true) : ∀ k i : Nat, i + k = a.length → ∃ r, zl M a (s, w, env, ()) a.length i = some r ∧ (match r with | .inl _ => (a.drop i).any (lh s w env) = false | .inr r => 0 ≤ r.1.1 ∧ (a.drop i).any (lh s w env) = true) := by
 intro k
 induction k with
 | zero =>
  intro i hi
  obtain rfl : i = a.length := by omega
  refine ⟨.inl (), z8 _ _ _ _ (by simp [zj]), by simp⟩
 | succ k ih =>
  intro i hi
  have h1 : i < a.length := by omega
  have hox := hx _ (List.getElem_mem h1)
  obtain ⟨r, hr, hm⟩ := ih (i + 1) (by omega)
  rw [List.drop_eq_getElem_cons h1, List.any_cons]
  by_cases hp : (lh s w env) a[i] = true
  ·refine ⟨.inr (((i : Int), ()), ()), z8 _ _ _ _ ?_, Int.natCast_nonneg i, by rw [hp, Bool.true_or]⟩
   simp only [zj]
   rw [if_pos (by simpa using h1), ze h1]
   simp only [Option.bind_some, zuu, zyz s hg w hw env he _ hox, hp, if_true]
  ·rw [Bool.not_eq_true] at hp
   refine ⟨r, z8 _ _ _ _ ?_, by rw [hp, Bool.false_or]; exact hm⟩
   simp only [zj]
   rw [if_pos (by simpa using h1), ze h1, za (by omega)]
   simp only [Option.bind_some, zuu, zyz s hg w hw env he _ hox, hp, Bool.false_eq_true, if_false]
   exact hr
theorem zt7 (s : TSign) (hg : gS s.1 = true) (w : TWorld) (hw : wOK s.1 w = true) (env : List Int) (he : envOK w.1 env = true) (a : List TLit) (ha : a.length ≤ 17592186044416) (hx : ∀ x ∈ a, litOK s.1 x = true) : zB M a (s, w, env, ()) = some ((a.any (lh s w env), ()), ()) := by
 apply zcB
 simp only [z9]
 obtain ⟨r, hr, hm⟩ := zuC s hg w hw env he a ha hx a.length 0 (by omega)
 rw [show ((0 : Nat) : Int) = 0 from rfl] at hr
 rw [List.drop_zero] at hm
 cases r with
 | inl r =>
  rw [za7 a (s, w, env, ()) (r := ((-1, ()), ())) (by simp only [zO, hr, Option.bind_some, Sum.elim_inl])]
  simp only at hm
  simp [hm]
 | inr r =>
  rw [za7 a (s, w, env, ()) (r := r) (by simp only [zO, hr, Option.bind_some, Sum.elim_inr])]
  simp only at hm
  simp [hm]
section
variable (s : TSign) (hg : gS s.1 = true) (w : TWorld) (hw : wOK s.1 w = true) (c : List TLit) (hc : clOK s.1 c = true)
include hg hw hc
omit hg hw in
theorem zwj : c.length ≤ 8 ∧ ∀ x ∈ c, litOK s.1 x = true := by
 simp only [clOK, Bool.and_eq_true, decide_eq_true_eq] at hc
 exact ⟨hc.1, fun x hx => (List.all_eq_true.1 hc.2) x hx⟩
theorem zxg (env : List Int) (he : envOK w.1 env = true) : zfg M s w c env = some ((hl s w c env, ()), ()) := by
 obtain ⟨c8, hx⟩ := zwj s c hc
 apply zoe
 simp only [zhj, zg, za8, zt7 s hg w hw env he c (by omega) hx, Option.bind_some, hl]
end
def srchN (f : Int → Option (List Int)) : Nat → Int → Option (List Int)
 | 0, _ => none
 | k + 1, n => match f n with
  | some e => some e
  | none => srchN f k (n + 1)
def srch (S : Nat) (H : List Int → Bool) : List Int → List Int → Option (List Int)
 | [], env => if H env = true then none else some env
 | v :: r, env => srchN (fun n => srch S H r (env.set v.toNat n)) S 0
theorem zwc {f : Int → Option (List Int)} {e : List Int} : ∀ (k : Nat) (n : Int), srchN f k n = some e → ∃ m, n ≤ m ∧ m < n + k ∧ f m = some e := by
 intro k
 induction k with
 | zero => intro n h; cases h
 | succ k ih =>
  intro n h
  simp only [srchN] at h
  cases hf : f n with
  | some e' =>
   rw [hf] at h
   exact ⟨n, by omega, by omega, by rw [hf]; exact h⟩
  | none =>
   rw [hf] at h
   obtain ⟨m, m1, m2, m3⟩ := ih (n + 1) h
   exact ⟨m, by omega, by omega, m3⟩
theorem zzn {S : Int} {H : List Int → Bool} (hS : 1 ≤ S) {e : List Int} : ∀ (vs env : List Int), envOK S env = true → srch S.toNat H vs env = some e → envOK S e = true ∧ H e = false := by
 intro vs
 induction vs with
 | nil =>
  intro env he h
  simp only [srch] at h
  split at h
  ·cases h
  ·rename_i hH
   simp only [Option.some.injEq] at h
   subst h
   exact ⟨he, by simpa using hH⟩
 | cons v r ih =>
  intro env he h
  simp only [srch] at h
  obtain ⟨m, m1, m2, m3⟩ := zwc _ _ h
  exact ih _ (zsB he _ _ m1 (by omega)) m3
theorem set_same {l : List Int} {i : Nat} {x : Int} (h : l[i]? = some x) : l.set i x = l := by
 obtain ⟨hi, rfl⟩ := List.getElem?_eq_some_iff.1 h
 exact List.set_getElem_self hi
theorem zpe {S : Int} {e : List Int} (h : envOK S e = true) : e.length = 12 := by
 simp only [envOK, Bool.and_eq_true, decide_eq_true_eq] at h; exact h.1
theorem idx0 (v : Int) (r : List Int) : idx (v :: r) 0 = some v := by
 exact ze (xs := v :: r) (i := 0) (by simp)
def Vs (vs : List Int) : Prop := (∀ v ∈ vs, 0 ≤ v ∧ v ≤ 11) ∧ vs.Pairwise (· < ·)
theorem Vs.tail {v : Int} {r : List Int} (h : Vs (v :: r)) : (0 ≤ v ∧ v ≤ 11) ∧ Vs r ∧ ∀ u ∈ r, v.toNat ≠ u.toNat := by
 obtain ⟨h1, h2⟩ := h
 rw [List.pairwise_cons] at h2
 have hv := h1 v (by simp)
 refine ⟨hv, ⟨fun u hu => h1 u (by simp [hu]), h2.2⟩, fun u hu => ?_⟩
 have := h2.1 u hu
 omega
def Zr (vs env : List Int) : Prop := ∀ v ∈ vs, env[v.toNat]? = some 0
theorem Zr.set {v n : Int} {r env : List Int} (h : Zr (v :: r) env) (hv : Vs (v :: r)) : Zr r (env.set v.toNat n) := by
 intro u hu
 rw [List.getElem?_set_ne (hv.tail.2.2 u hu)]
 exact h u (by simp [hu])
noncomputable def fK : ((List TLit × TSign × TWorld × List Int × List Int × Int × Unit) ⊕ (((List Int) × Bool × Unit) × (Unit))) → Option ((Unit) ⊕ (((List Int) × Bool × Unit) × (Unit))) :=
 Sum.elim (fun y2 => (if (decide (y2.2.2.2.2.2.1 < (0 : Int))) = true then (some (.inr (([], false, ()), ()))) else (if 0 ≤ y2.2.2.2.2.2.1 ∧ y2.2.2.2.2.2.1 < (List.length y2.2.2.2.1 : Int) then ((y2.2.2.2.1[(Int.toNat y2.2.2.2.2.2.1)]?).bind fun x4 => (if 0 ≤ x4 ∧ x4 < (List.length y2.2.2.2.2.1 : Int) then ((y2.2.2.2.2.1[(Int.toNat x4)]?).bind fun x5 => (if 0 ≤ x4 ∧ x4 < (List.length y2.2.2.2.2.1 : Int) then ((y2.2.2.2.2.1[(Int.toNat x4)]?).bind fun x6 => (za0 M y2.1 (y2.2.1.1, ()) (y2.2.2.1.1, y2.2.2.1.2.1, ()) y2.2.2.2.1 (y2.2.2.2.2.1.set (Int.toNat x4) (IntKind.i64.wrap (x5 + (1 : Int)))))) else none)) else none)) else none))) (fun r3 => (some (.inr r3)))
def NX (s : TSign) (w : TWorld) (c : List TLit) (V p env : List Int) (R : List Int × Bool) : Prop := ∃ y, zbE M c s w V env ((p.length : Int) - 1) = some y ∧ fK y = some (.inr ((R.1, R.2, ()), ()))
section
variable (s : TSign) (hg : gS s.1 = true) (w : TWorld) (hw : wOK s.1 w = true) (c : List TLit) (hc : clOK s.1 c = true)
include hg hw hc
theorem zsq (V : List Int) (hV : Vs V) (hVl : V.length ≤ 12) : ∀ (vs p : List Int), V = p ++ vs → ∀ (env : List Int) (R : List Int × Bool), envOK w.1 env = true → Zr vs env → (match srch w.1.toNat (hl s w c) vs env with | some e => R = (e, true) | none => NX s w c V p env R) → za0 M c s w V env = some (.inr ((R.1, R.2, ()), ())) := by
 obtain ⟨w1, w3, _, _⟩ := zku hw
 intro vs
 induction vs with
 | nil =>
  intro p hp env R he _ h
  rw [List.append_nil] at hp
  subst hp
  simp only [srch] at h
  apply zmo
  simp only [zfy, zg, za8, zxg s hg w hw c hc env he, Option.bind_some]
  cases hh : hl s w c env with
  | false =>
   rw [hh] at h
   simp only [Bool.false_eq_true, if_false] at h
   rw [h]; rfl
  | true =>
   rw [hh] at h
   simp only [if_true] at h
   obtain ⟨y, y1, y2⟩ := h
   rw [if_neg (by simp), w64 (by omega) (by omega), y1]
   simp only [Option.bind_some]
   exact y2
 | cons v r ih =>
  intro p hp env R he hz h
  have hvs : Vs (v :: r) := by
   rw [hp] at hV
   exact ⟨fun u hu => hV.1 u (List.mem_append.2 (.inr hu)), (List.pairwise_append.1 hV.2).2.1⟩
  have h12 := zpe he
  obtain ⟨v0, hr, hne⟩ := hvs.tail
  have hvz := hz v (by simp)
  have hpl : p.length < V.length := by rw [hp]; simp
  have hVp : V[p.length]? = some v := by rw [hp]; simp
  simp only [srch] at h
  have key : ∀ (k n : Nat), n + k = w.1.toNat → 0 < k → (match srchN (fun n => srch w.1.toNat (hl s w c) r (env.set v.toNat n)) k n with | some e => R = (e, true) | none => NX s w c V p env R) → za0 M c s w V (env.set v.toNat (n : Int)) = some (.inr ((R.1, R.2, ()), ())) := by
   intro k
   induction k with
   | zero => intro n _ h0 _; omega
   | succ k ihk =>
    intro n hn _ hk
    have hset : envOK w.1 (env.set v.toNat (n : Int)) = true := zsB he _ _ (by omega) (by omega)
    have hx : (env.set v.toNat (n : Int))[v.toNat]? = some (n : Int) := by rw [List.getElem?_set_self (by omega)]
    have hwr : IntKind.i64.wrap (w.1 - 1) = w.1 - 1 := w64 (by omega) (by omega)
    refine ih (p ++ [v]) (by simp [hp]) _ R hset (hz.set hvs) ?_
    simp only [srchN] at hk
    cases hs : srch w.1.toNat (hl s w c) r (env.set v.toNat (n : Int)) with
    | some e => rw [hs] at hk; exact hk
    | none =>
     rw [hs] at hk
     show NX s w c V (p ++ [v]) (env.set v.toNat (n : Int)) R
     have hlen : (((p ++ [v]).length : Nat) : Int) - 1 = (p.length : Int) := by simp
     have h0k : 0 ≤ (p.length : Int) ∧ (p.length : Int) < (V.length : Int) := by omega
     have hvr : 0 ≤ v ∧ v < ((env.set v.toNat (n : Int)).length : Int) := by rw [List.length_set]; omega
     unfold NX
     rw [hlen]
     cases k with
     | zero =>
      have hk : NX s w c V p env R := hk
      obtain ⟨y, y1, y2⟩ := hk
      refine ⟨y, zez _ _ _ _ _ _ ?_, y2⟩
      simp only [zbw]
      rw [if_pos (by simp), if_pos h0k, Int.toNat_natCast, hVp]
      simp only [Option.bind_some]
      rw [if_pos hvr, hx]
      simp only [Option.bind_some]
      rw [hwr, if_pos (by simp; omega)]
      try rw [if_pos h0k]
      try simp only [Option.bind_some]
      try rw [if_pos hvr]
      simp only [Option.bind_some, zg, za8]
      rw [List.set_set, set_same hvz, w64 (by omega) (by omega)]
      exact y1
     | succ k =>
      refine ⟨.inl (c, s, w, V, env.set v.toNat (n : Int), (p.length : Int), ()), zez _ _ _ _ _ _ ?_, ?_⟩
      ·simp only [zbw]
       rw [if_pos (by simp), if_pos h0k, Int.toNat_natCast, hVp]
       simp only [Option.bind_some]
       rw [if_pos hvr, hx]
       simp only [Option.bind_some]
       rw [hwr, if_neg (by simp; omega)]
      ·simp only [fK, Sum.elim_inl]
       rw [if_neg (by simp), if_pos h0k, Int.toNat_natCast, hVp]
       simp only [Option.bind_some]
       rw [if_pos hvr, hx]
       simp only [Option.bind_some, zg, za8]
       rw [if_pos hvr, List.set_set, za (by omega)]
       exact ihk (n + 1) (by omega) (by omega) hk
  have := key w.1.toNat 0 (by omega) (by omega) h
  rw [show ((0 : Nat) : Int) = 0 from rfl, set_same hvz] at this
  exact this
end
def cv (c : List TLit) : List Int := upTo (inV (tms c))
theorem zwh (c : List TLit) : Vs (cv c) := ⟨fun v hv => by have := zdg.1 hv; omega, zpw _⟩
theorem zzs (c : List TLit) : (cv c).length ≤ 12 := zkk _
def env0 : List Int := List.replicate 12 0
theorem zvx {S : Int} (h : 1 ≤ S) : envOK S env0 = true := by
 simp only [envOK, elOK, env0, Bool.and_eq_true, decide_eq_true_eq, List.all_eq_true, List.length_replicate, List.mem_replicate, true_and]
 rintro x ⟨_, rfl⟩; omega
theorem zyO {vs : List Int} (h : Vs vs) : Zr vs env0 := by
 intro v hv
 have := h.1 v hv
 simp only [env0]
 rw [List.getElem?_replicate, if_pos (by omega)]
noncomputable def FA (s : TSign) (w : TWorld) (c : List TLit) : List Int × Bool := match srch w.1.toNat (hl s w c) (cv c) env0 with
 | some e => (e, true)
 | none => ([], false)
noncomputable def FAb (s : TSign) (w : TWorld) (c : List TLit) : Bool := (FA s w c).2
theorem zyB (s : TSign) (w : TWorld) (hS : 1 ≤ w.1) (c : List TLit) (h : (FA s w c).2 = true) : envOK w.1 (FA s w c).1 = true ∧ hl s w c (FA s w c).1 = false := by
 unfold FA at h ⊢
 cases hs : srch w.1.toNat (hl s w c) (cv c) env0 with
 | some e => exact zzn hS _ _ (zvx hS) hs
 | none => rw [hs] at h; cases h
theorem zAs (s : TSign) (w : TWorld) (hS : 1 ≤ w.1) (c : List TLit) : (FA s w c).1.length ≤ 12 := by
 by_cases h : (FA s w c).2 = true
 ·have := zpe (zyB s w hS c h).1; omega
 ·unfold FA at h ⊢
  cases hs : srch w.1.toNat (hl s w c) (cv c) env0 with
  | some e => rw [hs] at h; simp at h
  | none => simp
theorem zwV {a : List Int} {c : List TLit} (hc : clOK a c = true) : (tms c).length ≤ 16 ∧ ∀ t ∈ tms c, t.length ≤ 40 := by
 obtain ⟨h8, hx⟩ := ziP hc
 refine ⟨by rw [zhY]; omega, fun t ht => ?_⟩
 obtain ⟨x, hx1, h⟩ := zbh.1 ht
 have := hx x hx1
 rcases h with rfl | rfl
 ·exact this.1
 ·exact this.2.1
theorem p_cv {a : List Int} {c : List TLit} (hc : clOK a c = true) : zaT M c = some ((tms c, ()), ()) ∧ zcV M (tms c) = some ((cv c, ()), ()) := by
 obtain ⟨h8, hx⟩ := ziP hc
 obtain ⟨t1, t2⟩ := zwV hc
 exact ⟨zkK c (by omega), zuQ _ (by omega) (fun t ht => by have := t2 t ht; omega)⟩
section
variable (s : TSign) (hg : gS s.1 = true) (w : TWorld) (hw : wOK s.1 w = true) (c : List TLit) (hc : clOK s.1 c = true)
include hg hw hc
theorem zw2 : zfj M s w c = some (((FA s w c).1, (FA s w c).2, ()), ()) := by
 obtain ⟨w1, w3, _, _⟩ := zku hw
 obtain ⟨t1, t2⟩ := p_cv hc
 apply zop
 simp only [zhc, zg, za8, t1, t2, Option.bind_some]
 rw [if_pos (by decide)]
 have := zsq s hg w hw c hc (cv c) (zwh c) (zzs c) (cv c) [] rfl env0 (FA s w c) (zvx w1) (zyO (zwh c)) (by
  unfold FA
  cases hs : srch w.1.toNat (hl s w c) (cv c) env0 with
  | some e => rfl
  | none =>
   refine ⟨.inl (c, s, w, cv c, env0, -1, ()), zez _ _ _ _ _ _ ?_, ?_⟩
   ·simp only [zbw]
    rw [if_neg (by simp)]
    rfl
   ·simp only [fK, Sum.elim_inl]
    rw [if_pos (by simp)])
 rw [show List.replicate (Int.toNat 12) (0 : Int) = env0 from rfl, this]
 rfl
end
def ask (a : List Int) (c : List TLit) : Bool := clOK a c && decide ((cv c).length ≤ 6)
theorem zxp (s : TSign) (hg : gS s.1 = true) (c : List TLit) (hl : c.length ≤ 1048576) : zfe M s c = some ((ask s.1 c, ()), ()) := by
 apply zoB
 simp only [zhd, zg, zeL s hg c hl, Option.bind_some, ask]
 cases hc : clOK s.1 c with
 | false => simp
 | true =>
  obtain ⟨t1, t2⟩ := p_cv hc
  rw [if_pos rfl, t1]
  simp only [Option.bind_some, t2, Bool.true_and]
  congr 3
  exact decide_eq_decide.2 (by omega)
def smW (w : TWorld) : Prop := w.2.1.length ≤ 1048576 ∧ ∀ y ∈ w.2.1, smS y
theorem zqv (s : TSign) (hs : s.1.length ≤ 1048576) (w : TWorld) (hw : smW w) : zgQ M s w = some ((gS s.1 && wOK s.1 w, ()), ()) := by
 apply zqo
 simp only [ziY, zg, za8, zmG s (by omega), Option.bind_some]
 cases hg : gS s.1 with
 | false => rfl
 | true => rw [if_pos rfl, zxo s hg w hw.1 hw.2]; rfl
noncomputable def rHI (s : TSign) (w : TWorld) (c : List TLit) : (Bool × Bool × Unit) × Unit := if (gS s.1 && wOK s.1 w && ask s.1 c) = true then ((!(FA s w c).2, true, ()), ()) else ((false, false, ()), ())
theorem zvS (s : TSign) (hs : s.1.length ≤ 1048576) (w : TWorld) (hw : smW w) (c : List TLit) (hc : c.length ≤ 1048576) : zaH M s w c = some (rHI s w c) := by
 apply zrI
 simp only [zkg, zg, za8, zqv s hs w hw, Option.bind_some, rHI]
 cases h : gS s.1 && wOK s.1 w with
 | false => simp
 | true =>
  have h' := h
  simp only [Bool.and_eq_true] at h'
  rw [if_neg (by simp), zxp s h'.1 c hc]
  simp only [Option.bind_some, Bool.true_and]
  cases ha : ask s.1 c with
  | false => simp
  | true =>
   have hcl : clOK s.1 c = true := by simp only [ask, Bool.and_eq_true] at ha; exact ha.1
   rw [if_neg (by simp), zw2 s h'.1 w h'.2 c hcl]
   simp
theorem zwf {f : Int → Option (List Int)} : ∀ (k : Nat) (n : Int), srchN f k n = none → ∀ m, n ≤ m → m < n + k → f m = none := by
 intro k
 induction k with
 | zero => intro n _ m h1 h2; omega
 | succ k ih =>
  intro n h m h1 h2
  simp only [srchN] at h
  cases hf : f n with
  | some e => rw [hf] at h; cases h
  | none =>
   rw [hf] at h
   by_cases hm : m = n
   ·rw [hm]; exact hf
   ·exact ih (n + 1) h m (by omega) (by omega)
theorem zwZ {S : Int} {H : List Int → Bool} : ∀ (vs env : List Int), Vs vs → env.length = 12 → srch S.toNat H vs env = none → ∀ env', envOK S env' = true → (∀ k : Nat, k < 12 → (k : Int) ∉ vs → env'[k]? = env[k]?) → H env' = true := by
 intro vs
 induction vs with
 | nil =>
  intro env _ hl h env' he hk
  have e : env' = env := by
   refine List.ext_getElem? fun k => ?_
   by_cases h1 : k < 12
   ·exact hk k h1 (by simp)
   ·have := zpe he
    rw [List.getElem?_eq_none (by omega), List.getElem?_eq_none (by omega)]
  subst e
  simp only [srch] at h
  split at h
  ·assumption
  ·cases h
 | cons v r ih =>
  intro env hv hl h env' he hk
  obtain ⟨hv0, hr, hne⟩ := hv.tail
  simp only [srch] at h
  obtain ⟨n, n1, n2, n3⟩ := zi2 he v.toNat (by omega)
  have := zwf _ _ h n n2 (by omega)
  refine ih (env.set v.toNat n) hr (by simpa using hl) this env' he fun k h1 h2 => ?_
  by_cases hkv : k = v.toNat
  ·subst hkv
   rw [n1, List.getElem?_set_self (by omega)]
  ·rw [List.getElem?_set_ne (fun q => hkv q.symm)]
   exact hk k h1 (fun q => by
    rcases List.mem_cons.1 q with q | q
    ·exact hkv (by omega)
    ·exact h2 q)
theorem zzW {s : TSign} (hg : gS s.1 = true) {w : TWorld} (hw : wOK s.1 w = true) {c : List TLit} (hc : clOK s.1 c = true) : (FA s w c).2 = false ↔ HOL s.1 w c := by
 obtain ⟨w1, w3, _, _⟩ := zku hw
 constructor
 ·intro h env he
  have hs : srch w.1.toNat (hl s w c) (cv c) env0 = none := by
   unfold FA at h
   cases hs : srch w.1.toNat (hl s w c) (cv c) env0 with
   | some e => rw [hs] at h; cases h
   | none => rfl
  have hx := (zbj.1 hc).2
  have he2 : envOK w.1 ((List.range 12).map fun (k : Nat) => if (k : Int) ∈ cv c then (env[k]?).getD 0 else 0) = true := by
   simp only [envOK, elOK, Bool.and_eq_true, decide_eq_true_eq, List.all_eq_true, List.length_map, List.length_range, List.mem_map, true_and]
   rintro x ⟨k, hk, rfl⟩
   rw [List.mem_range] at hk
   split
   ·obtain ⟨v, v1, v2, v3⟩ := zi2 he k hk
    rw [v1]; exact ⟨v2, v3⟩
   ·exact ⟨Int.le_refl _, by omega⟩
  have := zwZ (cv c) env0 (zwh c) (by simp [env0]) hs _ he2 (fun k h1 h2 => by
   rw [List.getElem?_map, List.getElem?_range h1, Option.map_some, if_neg h2]
   simp only [env0]
   rw [List.getElem?_replicate, if_pos h1])
  have same : ∀ x ∈ c, lhv s.1 w ((List.range 12).map fun (k : Nat) => if (k : Int) ∈ cv c then (env[k]?).getD 0 else 0) x = lhv s.1 w env x := by
   intro x hxc
   obtain ⟨h1, h2⟩ := zaL.1 (hx x hxc)
   have key : ∀ t, t ∈ tms c → isT s.1 t = true → vl s.1 w ((List.range 12).map fun (k : Nat) => if (k : Int) ∈ cv c then (env[k]?).getD 0 else 0) t = vl s.1 w env t := by
    intro t ht hT
    refine zzj hg w _ _ _ t (Nat.le_refl _) (zi.1 hT).2 fun n hn hn0 => ?_
    have hr := (zi3 hT).2 n hn
    have hk : (-1 - n).toNat < 12 := by omega
    have e1 : (((-1 - n).toNat : Nat) : Int) = -1 - n := by omega
    have hm : -1 - n ∈ cv c := zdg.2 ⟨by omega, by omega, List.any_eq_true.2 ⟨t, ht, by simpa [show -1 - (-1 - n) = n by omega] using hn⟩⟩
    rw [List.getElem?_map, List.getElem?_range hk, Option.map_some, e1, if_pos hm]
    obtain ⟨v, v1, _, _⟩ := zi2 he _ hk
    rw [v1]; rfl
   simp only [lhv, key x.2.1 (zbh.2 ⟨x, hxc, .inl rfl⟩) h1, key x.2.2.1 (zbh.2 ⟨x, hxc, .inr rfl⟩) h2]
  simp only [hl, List.any_eq_true] at this
  obtain ⟨x, hxc, hv⟩ := this
  simp only [hlv, List.any_eq_true]
  exact ⟨x, hxc, by rw [← same x hxc]; exact hv⟩
 ·intro h
  cases hb : (FA s w c).2 with
  | false => rfl
  | true =>
   obtain ⟨e1, e2⟩ := zyB s w w1 c hb
   have := h _ e1
   simp only [hl] at e2
   simp only [hlv] at this
   rw [show c.any (lhv s.1 w (FA s w c).1) = c.any (lh s w (FA s w c).1) from rfl, e2] at this
   cases this
theorem zoX (s : TSign) (hs : s.1.length ≤ 1048576) (w : TWorld) (hw : smW w) (c : List TLit) (hc : c.length ≤ 1048576) : ∃ b ok : Bool, zaH M s w c = some ((b, ok, ()), ()) ∧ (ok = true → gS s.1 = true ∧ wOK s.1 w = true ∧ clOK s.1 c = true ∧ (b = true ↔ HOL s.1 w c)) := by
 have h := zvS s hs w hw c hc
 unfold rHI at h
 split at h
 ·rename_i hq
  simp only [Bool.and_eq_true, ask] at hq
  refine ⟨_, _, h, fun _ => ⟨hq.1.1, hq.1.2, hq.2.1, ?_⟩⟩
  rw [← zzW hq.1.1 hq.1.2 hq.2.1]
  simp
 ·exact ⟨_, _, h, fun h => by cases h⟩
end Go.Proofs.YtenknihdnkiplaaGreatSs.Ev
namespace Go.Proofs.YtenknihdnkiplaaGreatSs.Ev
open Go
set_option autoImplicit false
set_option linter.unusedVariables false
set_option linter.unusedSimpArgs false
theorem zvs (z : Int) : 0 ≤ IntKind.u64.wrap z ∧ IntKind.u64.wrap z < 18446744073709551616 := by
 have : IntKind.u64.wrap z = z % 18446744073709551616 := by simp [IntKind.wrap, IntKind.bits, IntKind.signed]
 rw [this]; omega
theorem zyP (z : Int) : 0 ≤ shrI .u64 (IntKind.u64.wrap z) 40 ∧ shrI .u64 (IntKind.u64.wrap z) 40 ≤ 16777216 := by
 obtain ⟨h1, h2⟩ := zvs z
 have e : shrI .u64 (IntKind.u64.wrap z) 40 = (IntKind.u64.wrap z).fdiv 1099511627776 := rfl
 rw [e, Int.fdiv_eq_ediv_of_nonneg _ (by omega)]
 omega
theorem zy8 {S : Int} (h1 : 1 ≤ S) (z : Int) : 0 ≤ Int.tmod (IntKind.i64.wrap (shrI .u64 (IntKind.u64.wrap z) 40)) S ∧ Int.tmod (IntKind.i64.wrap (shrI .u64 (IntKind.u64.wrap z) 40)) S < S := by
 obtain ⟨h2, h3⟩ := zyP z
 rw [w64 (by omega) (by omega)]
 exact ⟨Int.tmod_nonneg _ h2, Int.tmod_lt_of_pos _ (by omega)⟩
theorem zq1 (b : List Int) (hb : isBytes b) : ∀ (k i : Nat) (n : Int), i + k = b.length → 0 ≤ n → n ≤ 1000002 → ∃ r, zdD M n b b.length i = some (.inl (r, ())) ∧ 0 ≤ r ∧ r ≤ 1000002 := by
 obtain ⟨hl, hx⟩ := hb
 intro k
 induction k with
 | zero =>
  intro i n hi n0 n1
  refine ⟨n, zjU _ _ _ _ ?_, n0, n1⟩
  simp only [zfa]
  rw [if_neg (by simp; omega)]
 | succ k ih =>
  intro i n hi n0 n1
  have h1 : i < b.length := by omega
  have hxi := hx _ (List.getElem_mem h1)
  have t0 := Int.tmod_nonneg (1000003 : Int) (show 0 ≤ 31 * n + b[i] by omega)
  have t1 := Int.tmod_lt_of_pos (31 * n + b[i]) (show (0 : Int) < 1000003 by omega)
  obtain ⟨r, r1, r2, r3⟩ := ih (i + 1) (Int.tmod (31 * n + b[i]) 1000003) (by omega) t0 (by omega)
  refine ⟨r, zjU _ _ _ _ ?_, r2, r3⟩
  simp only [zfa]
  rw [if_pos (by simp; omega), ze h1]
  simp only [Option.bind_some]
  rw [if_neg (by omega), w64 (x := 31 * n) (by omega) (by omega), w64 (x := b[i]) (by omega) (by omega), w64 (x := 31 * n + b[i]) (by omega) (by omega), za (by omega)]
  exact r1
theorem zvP (b : List Int) (hb : isBytes b) : ∃ r, zhv M b = some ((r, ()), ()) := by
 obtain ⟨r, r1, _⟩ := zq1 b hb b.length 0 0 (by omega) (by omega) (by omega)
 rw [show ((0 : Nat) : Int) = 0 from rfl] at r1
 refine ⟨r, zry _ ?_⟩
 simp only [zjB, r1, Option.bind_some, Sum.elim_inl]
theorem zxZ (w0 w1 : TWorld) (h1 : 1 ≤ w1.1) (x : Int) (ar : List Int) (L i : Int) : ∀ (k : Nat) (n : Int), 0 ≤ n → n * pw w1.1 k ≤ 1000000 → k ≤ 1000 → zcD M w0 x w1 (k : Int) n ar L i = some (.inl (w0, x, w1, n * pw w1.1 k, ar, L, i, ())) := by
 intro k
 induction k with
 | zero =>
  intro n _ _ _
  apply zi5
  simp only [zd2]
  rw [if_neg (by simp)]
  simp [pw, za8]
 | succ k ih =>
  intro n n0 hb hk
  obtain ⟨m1, m2, m3⟩ := ztx h1 n0 hb
  apply zi5
  simp only [zd2]
  rw [if_pos (by simp <;> omega), w64 (x := n * w1.1) (by omega) (by omega), w64 (x := ((k + 1 : Nat) : Int) - 1) (by omega) (by omega), show ((k + 1 : Nat) : Int) - 1 = (k : Int) by omega, za8, za8, ih _ m1 m3 (by omega)]
  rw [Int.mul_assoc]
  rfl
theorem zxR (w0 w1 : TWorld) (h1 : 1 ≤ w1.1) (ar : List Int) (L i : Int) : ∀ (k : Nat) (x : Int) (t : List Int), t.length + k ≤ 1000 → elOK w1.1 t = true → ∃ (x' : Int) (t' : List Int), zcm M w0 x w1 (k : Int) t ar L i = some (.inl (w0, x', w1, t', ar, L, i, ())) ∧ t'.length = t.length + k ∧ elOK w1.1 t' = true := by
 intro k
 induction k with
 | zero =>
  intro x t _ he
  refine ⟨x, t, zix _ _ _ _ _ _ _ _ ?_, rfl, he⟩
  simp only [zdp]
  rw [if_neg (by simp)]
  all_goals rfl
 | succ k ih =>
  intro x t ht he
  obtain ⟨t0, t1⟩ := zy8 h1 ((IntKind.u64.wrap (x * (6364136223846793005 : Int))) + (1442695040888963407 : Int))
  obtain ⟨x', t', e1, e2, e3⟩ := ih (IntKind.u64.wrap ((IntKind.u64.wrap (x * (6364136223846793005 : Int))) + (1442695040888963407 : Int))) (t ++ [Int.tmod (IntKind.i64.wrap (shrI .u64 (IntKind.u64.wrap ((IntKind.u64.wrap (x * (6364136223846793005 : Int))) + (1442695040888963407 : Int))) (40 : Int))) w1.1]) (by simp; omega) (by
   simp only [elOK, List.all_append, Bool.and_eq_true] at he ⊢
   refine ⟨he, ?_⟩
   simp only [List.all_cons, List.all_nil, Bool.and_true, Bool.and_eq_true, decide_eq_true_eq]
   exact ⟨t0, t1⟩)
  refine ⟨x', t', zix _ _ _ _ _ _ _ _ ?_, by rw [e2]; simp; omega, e3⟩
  simp only [zdp]
  rw [if_pos (by simp <;> omega), if_neg (by omega), if_neg (by omega), if_pos (by simp; omega), w64 (x := ((k + 1 : Nat) : Int) - 1) (by omega) (by omega), show ((k + 1 : Nat) : Int) - 1 = (k : Int) by omega]
  exact e1
theorem zwU (w0 : TWorld) (S : Int) (h1 : 1 ≤ S) (h3 : S ≤ 3) (ar : List Int) (hl : ar.length ≤ 10) (hx : ∀ x ∈ ar, 0 ≤ x ∧ x ≤ 3) : ∀ (k i : Nat) (x : Int) (o : List (List Int)), i + k = ar.length → o.length = i →
  ∃ ts : List (List Int), zdJ M w0 x (S, o, ()) ar ar.length i = some (.inl (w0, (S, o ++ ts, ()), ())) ∧ ts.length = k ∧ tabOK S (ar.drop i) ts = true ∧ ∀ y ∈ ts, smS y := by
 intro k
 induction k with
 | zero =>
  intro i x o hi ho
  obtain rfl : i = ar.length := by omega
  refine ⟨[], zjR _ _ _ _ _ _ ?_, rfl, by simp [tabOK], by simp⟩
  simp only [zfk]
  rw [if_neg (by simp), List.append_nil]
  all_goals rfl
 | succ k ih =>
  intro i x o hi ho
  have hi1 : i < ar.length := by omega
  have hxa := hx _ (List.getElem_mem hi1)
  obtain ⟨n, hn⟩ : ∃ n : Nat, ar[i] = (n : Int) := ⟨ar[i].toNat, by omega⟩
  have hp := ztv h1 h3 (k := n) (by omega)
  have hp0 := ztU h1 n
  have e1 := zxZ w0 (S, o, ()) h1 x ar ar.length i n 1 (by omega) (by rw [Int.one_mul]; show pw S n ≤ 1000000; omega) (by omega)
  rw [Int.one_mul] at e1
  obtain ⟨m, hm⟩ : ∃ m : Nat, pw S n = (m : Int) := ⟨(pw S n).toNat, by omega⟩
  obtain ⟨x', t', q1, q2, q3⟩ := zxR w0 (S, o, ()) h1 ar ar.length i m x [] (by simp; omega) rfl
  obtain ⟨ts, r1, r2, r3, r4⟩ := ih (i + 1) x' (o ++ [t']) (by omega) (by simp [ho])
  simp only [List.length_nil, Nat.zero_add] at q2
  refine ⟨t' :: ts, zjR _ _ _ _ _ _ ?_, by simp [r2], ?_, ?_⟩
  ·simp only [zfk]
   rw [if_pos (by simp; omega), ze hi1]
   simp only [Option.bind_some, za8, hn]
   rw [e1]
   simp only [Option.bind_some, Sum.elim_inl]
   rw [hm, q1]
   simp only [Option.bind_some, Sum.elim_inl]
   rw [if_pos (by simp; omega), za (by omega), r1, List.append_assoc]
   rfl
  ·rw [List.drop_eq_getElem_cons hi1]
   simp only [tabOK, Bool.and_eq_true, decide_eq_true_eq]
   exact ⟨by rw [q2, hn, Int.toNat_natCast, hm], q3, r3⟩
  ·intro y hy
   rcases List.mem_cons.1 hy with rfl | hy
   ·unfold smS; rw [q2]; omega
   ·exact r4 y hy
theorem zwz (s : TSign) (hg : gS s.1 = true) (b : List Int) (hb : isBytes b) : ∃ w : TWorld, zeP M s b = some ((w, ()), ()) ∧ wOK s.1 w = true ∧ w.2.1.length ≤ 10 ∧ ∀ y ∈ w.2.1, smS y := by
 obtain ⟨s10, sx⟩ := zxb hg
 obtain ⟨r, r1⟩ := zvP b hb
 have u1 := zvs ((IntKind.u64.wrap r) + (7 : Int))
 have t0 := Int.tmod_nonneg (3 : Int) u1.1
 have t1 := Int.tmod_lt_of_pos (IntKind.u64.wrap ((IntKind.u64.wrap r) + (7 : Int))) (show (0 : Int) < 3 by omega)
 obtain ⟨ts, q1, q2, q3, q4⟩ := zwU (0, [], ()) (1 + Int.tmod (IntKind.u64.wrap ((IntKind.u64.wrap r) + (7 : Int))) 3) (by omega) (by omega) s.1 s10 sx s.1.length 0 (IntKind.u64.wrap ((IntKind.u64.wrap r) + (7 : Int))) [] (by omega) rfl
 rw [show ((0 : Nat) : Int) = 0 from rfl] at q1
 refine ⟨(1 + Int.tmod (IntKind.u64.wrap ((IntKind.u64.wrap r) + (7 : Int))) 3, ts, ()), zrZ _ _ ?_, ?_, by simp only; omega, q4⟩
 ·simp only [zkn, r1, Option.bind_some]
  rw [if_neg (by omega), w64 (x := Int.tmod (IntKind.u64.wrap ((IntKind.u64.wrap r) + (7 : Int))) 3) (by omega) (by omega), w64 (by omega) (by omega), q1]
  rfl
 ·simp only [wOK, Bool.and_eq_true, decide_eq_true_eq]
  exact ⟨by omega, by omega, q2, by simpa using q3⟩
end Go.Proofs.YtenknihdnkiplaaGreatSs.Ev
namespace Go.Proofs.YtenknihdnkiplaaGreatSs.Ev
open Go
set_option autoImplicit false
set_option linter.unusedVariables false
set_option linter.unusedSimpArgs false
theorem zrx (a : List Int) (ha : a.length ≤ 17592186044416) : ∀ k i : Nat, i + k = a.length → zdI M a a a.length i = some (.inl ()) := by
 intro k
 induction k with
 | zero =>
  intro i hi
  apply zjQ
  simp only [ze8]
  rw [if_neg (by simp; omega)]
 | succ k ih =>
  intro i hi
  have h1 : i < a.length := by omega
  apply zjQ
  simp only [ze8]
  rw [if_pos (by simpa using h1), ze h1, za (by omega)]
  simp only [Option.bind_some]
  rw [if_neg (by simp)]
  exact ih (i + 1) (by omega)
theorem zv7 (a : List Int) (ha : a.length ≤ 17592186044416) : zhs M a a = some ((true, ()), ()) := by
 apply zrh
 simp only [zjp]
 have := zrx a ha a.length 0 (by omega)
 rw [show ((0 : Nat) : Int) = 0 from rfl] at this
 rw [if_neg (by simp), this]
 rfl
theorem zAc (a b : List Int) (la : a.length ≤ 9223372036854775807) (lb : b.length ≤ 9223372036854775807) : zlE M a b = some ((decide (1048576 < a.length) || decide (1048576 - (a.length : Int) < b.length), ()), ()) := by
 apply zwm
 simp only [znU]
 by_cases h : 1048576 < a.length
 ·rw [if_pos (by simp; omega)]; simp [h]
 ·rw [if_neg (by simp; omega), w64 (by omega) (by omega)]; simp [h]
end Go.Proofs.YtenknihdnkiplaaGreatSs.Ev
namespace Go.Proofs.YtenknihdnkiplaaGreatSs.Ev
open Go
set_option autoImplicit false
set_option linter.unusedVariables false
set_option linter.unusedSimpArgs false
theorem zrG (a : List Int) (ha : a.length ≤ 17592186044416) : zfI M a a = some ((true, ()), ()) := by
 apply zrk
 simp only [zjH, zv7 a ha, Option.bind_some]
end Go.Proofs.YtenknihdnkiplaaGreatSs.Ev
namespace Go.Proofs.YtenknihdnkiplaaGreatSs.Ev
open Go
set_option autoImplicit false
set_option linter.unusedVariables false
set_option linter.unusedSimpArgs false
theorem zrc (a : List TLit) (ha : a.length ≤ 1048576) (hx : ∀ x ∈ a, smL x) : ∀ k i : Nat, i + k = a.length → zdA M a a a.length i = some (.inl ()) := by
 intro k
 induction k with
 | zero =>
  intro i hi
  apply zjY
  simp only [zfl]
  rw [if_neg (by simp; omega)]
 | succ k ih =>
  intro i hi
  have h1 : i < a.length := by omega
  have h2 := hx _ (List.getElem_mem h1)
  have h3 := h2.1
  have h4 := h2.2
  apply zjY
  simp only [zfl]
  rw [if_pos (by simpa using h1), ze h1, za (by omega)]
  simp only [Option.bind_some]
  rw [if_neg (by simp), zrG _ (by omega)]
  simp only [Option.bind_some]
  rw [if_neg (by simp), zrG _ (by omega)]
  simp only [Option.bind_some]
  rw [if_neg (by simp)]
  exact ih (i + 1) (by omega)
theorem zrp (a : List TLit) (ha : a.length ≤ 1048576) (hx : ∀ x ∈ a, smL x) : zd4 M a a = some ((true, ()), ()) := by
 apply zrB
 simp only [zje]
 have := zrc a ha hx a.length 0 (by omega)
 rw [show ((0 : Nat) : Int) = 0 from rfl] at this
 rw [if_neg (by simp), this]
 rfl
end Go.Proofs.YtenknihdnkiplaaGreatSs.Ev
namespace Go.Proofs.YtenknihdnkiplaaGreatSs.Ev
open Go
set_option autoImplicit false
set_option linter.unusedVariables false
set_option linter.unusedSimpArgs false
theorem zvJ : ∀ (c : List TLit) (ts : List (List Int)) (x : TLit), x ∈ wtZ c ts → x.2.1 ∈ ts ∧ x.2.2.1 ∈ ts
 | [], _, x, h => by simp [wtZ] at h
 | _ :: _, [], x, h => by simp [wtZ] at h
 | _ :: _, [_], x, h => by simp [wtZ] at h
 | y :: c, a :: b :: r, x, h => by
  simp only [wtZ] at h
  rcases List.mem_cons.1 h with rfl | h
  ·exact ⟨by simp, by simp⟩
  ·have := zvJ c r x h
   exact ⟨List.mem_cons_of_mem _ (List.mem_cons_of_mem _ this.1), List.mem_cons_of_mem _ (List.mem_cons_of_mem _ this.2)⟩
theorem zwA : ∀ (c : List TLit) (ts : List (List Int)), (wtZ c ts).length ≤ c.length
 | [], _ => by simp [wtZ]
 | _ :: _, [] => by simp [wtZ]
 | _ :: _, [_] => by simp [wtZ]
 | y :: c, a :: b :: r => by simp only [wtZ, List.length_cons]; have := zwA c r; omega
theorem zvt : ∀ (l : List (List Int)) (m : List (Int × Int)) (y : List Int), y ∈ rnL m l → ∃ t ∈ l, y.length = t.length
 | [], _, y, h => by simp [rnL] at h
 | t :: r, m, y, h => by
  simp only [rnL] at h
  rcases List.mem_cons.1 h with rfl | h
  ·exact ⟨t, by simp, (znm t m).1⟩
  ·obtain ⟨u, hu, e⟩ := zvt r _ y h
   exact ⟨u, List.mem_cons_of_mem _ hu, e⟩
theorem zyW {a : List Int} {c : List TLit} (hl : c.length ≤ 8) (hc : ∀ x ∈ c, litOK a x = true) : (outC c).length ≤ 8 ∧ ∀ x ∈ outC c, x.2.1.length ≤ 40 ∧ x.2.2.1.length ≤ 40 := by
 have h1 := zm8 c []
 have h2 := zwA (td [] c) (rnL [] (tms (td [] c)))
 have hy : ∀ y ∈ rnL [] (tms (td [] c)), y.length ≤ 40 := by
  intro y hy
  obtain ⟨t, ht, e⟩ := zvt _ _ y hy
  obtain ⟨x, hx, hxt⟩ := zbh.1 ht
  have hxc : x ∈ c := by rcases zl4 c [] x hx with q | q; cases q; exact q
  have := zaL.1 (hc x hxc)
  rw [e]
  rcases hxt with rfl | rfl
  ·exact (zi.1 this.1).1
  ·exact (zi.1 this.2).1
 refine ⟨?_, fun x hx => ?_⟩
 ·show (wtZ (td [] c) (rnL [] (tms (td [] c)))).length ≤ 8
  simp at h1; omega
 ·have := zvJ _ _ x hx
  exact ⟨hy _ this.1, hy _ this.2⟩
theorem ztz (s : TSign) (hs : s.1.length ≤ 1048576) (c d : List TLit) (hc : c.length ≤ 1048576) (hcx : ∀ x ∈ c, smL x) (hd : d.length ≤ 1048576) (hdx : ∀ x ∈ d, smL x) (w : TWay) : ∃ r : (List TLit × Int × Bool × Unit) × Unit, zgG M s c d w = some r ∧ zdj M s c d w = some r ∧ ((r.1.1 = [] ∧ (r.1.2.2.1 = true → r.1.2.1 ≠ 0 ∧ r.1.2.1 ≠ 5)) ∨ ((r.1.2.1 = 0 ∨ r.1.2.1 = 5) ∧ gS s.1 = true ∧ clOK s.1 c = true ∧ clOK s.1 d = true ∧ ∃ out, r.1.1 = outC out ∧ SupOK s.1 c d w out)) := by
 obtain ⟨i, sc, j, ot, p0, ⟨⟩⟩ := w
 cases h1 : (gS s.1 && clOK s.1 c) with
 | false =>
  refine ⟨(([], 0, false, ()), ()), ziN _ _ _ _ ?_, zgZ _ _ _ _ ?_, .inl ⟨rfl, fun h => by cases h⟩⟩
  ·simp only [zeZ, zg, za9 s hs c hc hcx, h1, Option.bind_some]; rfl
  ·simp only [zdk, zg, zax s hs c hc, h1, Option.bind_some]; rfl
 | true =>
  have h1' := h1
  simp only [Bool.and_eq_true] at h1'
  obtain ⟨hg, h2⟩ := h1'
  cases h3 : clOK s.1 d with
  | false =>
   refine ⟨(([], 0, false, ()), ()), ziN _ _ _ _ ?_, zgZ _ _ _ _ ?_, .inl ⟨rfl, fun h => by cases h⟩⟩
   ·simp only [zeZ, zg, za9 s hs c hc hcx, h1, Option.bind_some, zcP s hg d hd hdx, h3]; rfl
   ·simp only [zdk, zg, zax s hs c hc, h1, Option.bind_some, zeL s hg d hd, h3]; rfl
  | true =>
   obtain ⟨r, r1, r2, r3⟩ := zvE s hg c d h2 h3 i sc j ot p0
   refine ⟨((r.1.1, r.1.2.1, true, ()), ()), ziN _ _ _ _ ?_, zgZ _ _ _ _ ?_, r3.imp (fun q => ⟨q.1, fun _ => q.2⟩) (fun q => ⟨q.1, hg, h2, rfl, q.2⟩)⟩
   ·simp only [zeZ, zg, za9 s hs c hc hcx, h1, Option.bind_some, zcP s hg d hd hdx, h3, r2]; rfl
   ·simp only [zdk, zg, zax s hs c hc, h1, Option.bind_some, zeL s hg d hd, h3, r1]; rfl
theorem zzt {a : List Int} {c d : List TLit} {w : TWay} {l : List TLit} (h : l = [] ∨ ∃ out, l = outC out ∧ SupOK a c d w out) : l.length ≤ 8 ∧ ∀ x ∈ l, smL x := by
 rcases h with rfl | ⟨out, rfl, hs⟩
 ·exact ⟨by simp, by simp⟩
 ·obtain ⟨_, _, _, _, _, _, _, _, _, _, _, _, _, _, _, _, _, _, h8, hx⟩ := hs
  obtain ⟨o1, o2⟩ := zyW h8 hx
  exact ⟨o1, fun x hx => ⟨by have := (o2 x hx).1; omega, by have := (o2 x hx).2; omega⟩⟩
end Go.Proofs.YtenknihdnkiplaaGreatSs.Ev
namespace Go.Proofs.YtenknihdnkiplaaGreatSs.Ev
open Go
set_option autoImplicit false
set_option linter.unusedVariables false
set_option linter.unusedSimpArgs false
theorem zrb (s : TSign) (hs : s.1.length ≤ 1048576) (c d : List TLit) (hc : c.length ≤ 1048576) (hcx : ∀ x ∈ c, smL x) (hd : d.length ≤ 1048576) (hdx : ∀ x ∈ d, smL x) : ∃ r : (List TLit × Bool × Unit) × Unit, zc2 M s c d = some r ∧ zc8 M s c d = some r ∧ r.1.1.length ≤ 8 ∧ (∀ x ∈ r.1.1, smL x) ∧ (r.1.2.1 = true → r.1.1 = apartC c d ∧ gS s.1 = true ∧ clOK s.1 c = true ∧ clOK s.1 d = true ∧ (apartC c d).all (litOK s.1) = true) := by
 cases h1 : (gS s.1 && clOK s.1 c) with
 | false =>
  refine ⟨(([], false, ()), ()), zhg _ _ _ ?_, zhf _ _ _ ?_, by simp, by simp, fun h => by cases h⟩
  ·simp only [zc3, zg, za9 s hs c hc hcx, h1, Option.bind_some]; rfl
  ·simp only [zc7, zg, zax s hs c hc, h1, Option.bind_some]; rfl
 | true =>
  have h1' := h1
  simp only [Bool.and_eq_true] at h1'
  obtain ⟨hg, h2⟩ := h1'
  cases h3 : clOK s.1 d with
  | false =>
   refine ⟨(([], false, ()), ()), zhg _ _ _ ?_, zhf _ _ _ ?_, by simp, by simp, fun h => by cases h⟩
   ·simp only [zc3, zg, za9 s hs c hc hcx, h1, Option.bind_some, zcP s hg d hd hdx, h3]; rfl
   ·simp only [zc7, zg, zax s hs c hc, h1, Option.bind_some, zeL s hg d hd, h3]; rfl
  | true =>
   refine ⟨if (apartC c d).all (litOK s.1) = true then ((apartC c d, true, ()), ()) else (([], false, ()), ()), zhg _ _ _ ?_, zhf _ _ _ ?_, ?_, ?_, ?_⟩
   ·simp only [zc3, zg, za9 s hs c hc hcx, h1, Option.bind_some, zcP s hg d hd hdx, h3, zpn s hg c d h2 h3]
    cases (apartC c d).all (litOK s.1) <;> rfl
   ·simp only [zc7, zg, zax s hs c hc, h1, Option.bind_some, zeL s hg d hd, h3, zo4 s hg c d h2 h3]
    cases (apartC c d).all (litOK s.1) <;> rfl
   ·have := (ziP h3).1
    split
    ·simp [apartC]; omega
    ·simp
   ·have d2 := zqs hg h3
    split
    ·intro x hx
     obtain ⟨y, hy, rfl⟩ := List.mem_map.1 (show x ∈ d.map _ from hx)
     obtain ⟨e1, e2, _, _⟩ := d2 y hy
     exact ⟨by simp [shl]; omega, by simp [shl]; omega⟩
    ·simp
   ·intro h
    split at h
    ·rename_i hq
     rw [if_pos hq]
     exact ⟨rfl, hg, h2, rfl, hq⟩
    ·cases h
end Go.Proofs.YtenknihdnkiplaaGreatSs.Ev
