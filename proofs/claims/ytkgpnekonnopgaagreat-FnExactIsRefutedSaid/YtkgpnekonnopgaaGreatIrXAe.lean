/- Texts laid together: WAj, XAd, XAf, XAb, XAa, XAg, XAh, XAc, PA, PDe, PD, RFe, XAi, XAj, XAe; no condition but those that each theorem names. -/
import Derived.Test.YtkgpnekonnopgaaGreatIrWAi
import Derived.Test.YtkgpnekonnopgaaGreatIrWAd
namespace Go.Proofs.YtkgpnekonnopgaaGreatIr.Ev
open Go
set_option autoImplicit false
set_option linter.unusedVariables false
set_option linter.unusedSimpArgs false
set_option maxHeartbeats 1000000
theorem zxv {a : List Int} (hg : gS a = true) {p r z : List Int} (hp : Tm a p) (hr : Tm a r) : ∀ (l : List Int) (k : Int), 0 ≤ k → sE a k (l ++ (p ++ z)) = some [] → sE a k (l ++ (r ++ z)) = some []
 | [], k, hk, h => by
  have pp := Tm.pos hp
  by_cases h0 : k ≤ 0
  ·exfalso
   have : sE a k (p ++ z) = some (p ++ z) := by
    cases hpz : p ++ z with
    | nil => simp [sE, h0]
    | cons n t => simp [sE, h0]
   rw [List.nil_append, this] at h
   have h' := Option.some.inj h
   rw [List.append_eq_nil_iff] at h'
   rw [h'.1] at pp
   simp at pp
  ·have e1 := zqI hg p 1 (k - 1) z (by omega) (by omega) hp
   have e2 := zqI hg r 1 (k - 1) z (by omega) (by omega) hr
   rw [show 1 + (k - 1) = k by omega] at e1 e2
   rw [List.nil_append] at h ⊢
   rw [e1] at h
   rw [e2]; exact h
 | n :: l, k, hk, h => by
  rw [List.cons_append] at h ⊢
  simp only [sE] at h ⊢
  split at h
  ·cases h
  ·rename_i h1
   rw [if_neg h1]
   split at h
   ·cases h
   ·rename_i h2
    rw [if_neg h2]
    have := znv hg n
    exact zxv hg hp hr l _ (by omega) h
theorem zxO {a : List Int} (hg : gS a = true) {l p r z : List Int} (h : Tm a (l ++ (p ++ z))) (hp : Tm a p) (hr : Tm a r) : Tm a (l ++ (r ++ z)) := zxv hg hp hr l 1 (by omega) h
theorem zBu (s : TSign) (hg : gS s.1 = true) (c d : List TLit) (hc : clOK s.1 c = true) (hd : clOK s.1 d = true) (i sc j ot p0 : Int) : ∃ r, zbj M s c d (i, sc, j, ot, p0, ()) = some r ∧ zdf M s c d (i, sc, j, ot, p0, ()) = some r ∧ (r.1.1 = [] ∨ ((r.1.2.1 = 0 ∨ r.1.2.1 = 5) ∧ ∃ out, r.1.1 = outC out ∧ SupOK s.1 c d (i, sc, j, ot, p0, ()) out)) := by
 obtain ⟨c1, c2⟩ := zco.1 hc
 obtain ⟨d1, d2⟩ := zco.1 hd
 have fail : ∀ k : Int, zbj M s c d (i, sc, j, ot, p0, ()) = some (([], k, ()), ()) → zdf M s c d (i, sc, j, ot, p0, ()) = some (([], k, ()), ()) → ∃ r, zbj M s c d (i, sc, j, ot, p0, ()) = some r ∧ zdf M s c d (i, sc, j, ot, p0, ()) = some r ∧ (r.1.1 = [] ∨ ((r.1.2.1 = 0 ∨ r.1.2.1 = 5) ∧ ∃ out, r.1.1 = outC out ∧ SupOK s.1 c d (i, sc, j, ot, p0, ()) out)) := fun k h1 h2 => ⟨_, h1, h2, .inl rfl⟩
 have lc := zrR c (by omega) i sc
 have ld := zrR d (by omega) j ot
 by_cases h1 : 0 ≤ i ∧ i < (c.length : Int)
 case neg =>
  have e : (decide (0 ≤ i) && decide (i < (c.length : Int)) && is01 sc) = false := by
   by_cases h0 : 0 ≤ i
   ·rw [decide_eq_true h0, decide_eq_false (fun q => h1 ⟨h0, q⟩)]; rfl
   ·rw [decide_eq_false h0]; rfl
  rw [e] at lc
  refine fail 1 (zam _ _ _ _ ?_) (zbH _ _ _ _ ?_)
  ·simp only [zX, zyU c i h1, Option.bind_some]; rfl
  ·simp only [zbe, lc, Option.bind_some]; rfl
 case pos =>
 obtain ⟨n, rfl⟩ : ∃ n : Nat, i = (n : Int) := ⟨i.toNat, by omega⟩
 have hn : n < c.length := by omega
 rw [decide_eq_true h1.1, decide_eq_true h1.2, Bool.true_and, Bool.true_and] at lc
 have hl := zzF c n n hn rfl
 have hci := zd hn
 cases h2 : c[n].1 with
 | false =>
  rw [h2] at hl
  refine fail 1 (zam _ _ _ _ ?_) (zbH _ _ _ _ ?_)
  ·simp only [zX, hl, Option.bind_some]; rfl
  ·simp only [zbe, lc, hci, h2, Option.bind_some]
   cases is01 sc <;> rfl
 | true =>
 rw [h2] at hl
 have si := zpK sc
 cases h3 : is01 sc with
 | false =>
  rw [h3] at lc si
  refine fail 1 (zam _ _ _ _ ?_) (zbH _ _ _ _ ?_)
  ·simp only [zX, hl, si, Option.bind_some]; rfl
  ·simp only [zbe, lc, Option.bind_some]; rfl
 | true =>
 rw [h3] at lc si
 by_cases h4 : 0 ≤ j ∧ j < (d.length : Int)
 case neg =>
  have e : (decide (0 ≤ j) && decide (j < (d.length : Int)) && is01 ot) = false := by
   by_cases h0 : 0 ≤ j
   ·rw [decide_eq_true h0, decide_eq_false (fun q => h4 ⟨h0, q⟩)]; rfl
   ·rw [decide_eq_false h0]; rfl
  rw [e] at ld
  refine fail 1 (zam _ _ _ _ ?_) (zbH _ _ _ _ ?_)
  ·simp only [zX, hl, si, Option.bind_some, Bool.not_true, Bool.false_eq_true, if_false]
   by_cases h0 : j < 0
   ·rw [if_pos (by simpa using h0)]
   ·rw [if_neg (by simpa using h0), if_pos (by simp; omega)]
  ·simp only [zbe, lc, ld, hci, h2, Option.bind_some, Bool.not_true, Bool.false_eq_true, if_false]; rfl
 case pos =>
 obtain ⟨m, rfl⟩ : ∃ m : Nat, j = (m : Int) := ⟨j.toNat, by omega⟩
 have hm : m < d.length := by omega
 rw [decide_eq_true h4.1, decide_eq_true h4.2, Bool.true_and, Bool.true_and] at ld
 have hdj := zd hm
 have j0 : decide ((m : Int) < 0) = false := by simp
 have j1 : decide ((m : Int) ≥ (d.length : Int)) = false := by simp; omega
 have so := zpK ot
 cases h5 : is01 ot with
 | false =>
  rw [h5] at ld so
  refine fail 1 (zam _ _ _ _ ?_) (zbH _ _ _ _ ?_)
  ·simp only [zX, hl, si, so, j0, j1, Option.bind_some, Bool.not_true, Bool.false_eq_true, if_false]; rfl
  ·simp only [zbe, lc, ld, hci, h2, Option.bind_some, Bool.not_true, Bool.false_eq_true, if_false]; rfl
 | true =>
 rw [h5] at ld so
 have hot : ot = 0 ∨ ot = 1 := by
  simp only [is01, Bool.and_eq_true, decide_eq_true_eq] at h5
  omega
 have hdT := zjX (d2 _ (List.getElem_mem hm)) ot
 have hdl := (zp.1 hdT.1).1
 obtain ⟨sd1, sd2⟩ := ziF d[m] ot
 by_cases h6 : 0 ≤ p0 ∧ p0 < ((sd d[m] ot).1.length : Int)
 case neg =>
  have e : (decide (0 ≤ p0) && decide (p0 ≤ ((sd d[m] ot).1.length : Int) - 1)) = false := by
   by_cases h0 : 0 ≤ p0
   ·rw [decide_eq_true h0, decide_eq_false (by omega)]; rfl
   ·rw [decide_eq_false h0]; rfl
  refine fail 1 (zam _ _ _ _ ?_) (zbH _ _ _ _ ?_)
  ·simp only [zX, hl, si, so, j0, j1, hdj, zm, sd1, Option.bind_some, Bool.not_true, Bool.false_eq_true, if_false]
   by_cases h0 : p0 < 0
   ·rw [if_pos (by simpa using h0)]
   ·rw [if_neg (by simpa using h0), if_pos (by simp; omega)]
  ·simp only [zbe, lc, ld, hci, hdj, h2, zm, sd2, Option.bind_some, Bool.not_true, Bool.false_eq_true, if_false]
   rw [w64 (by omega) (by omega), zdA, e]
   rfl
 case pos =>
 obtain ⟨q, rfl⟩ : ∃ q : Nat, p0 = (q : Int) := ⟨p0.toNat, by omega⟩
 have hq : q < (sd d[m] ot).1.length := by omega
 have huq := zd hq
 have p0' : decide ((q : Int) < 0) = false := by simp
 have p1' : decide ((q : Int) ≥ ((sd d[m] ot).1.length : Int)) = false := by simp; omega
 have inq : zaL M (q : Int) 0 (IntKind.i64.wrap (((sd d[m] ot).1.length : Int) - 1)) = some ((true, ()), ()) := by
  rw [w64 (by omega) (by omega), zdA, decide_eq_true (by omega), decide_eq_true (by omega)]; rfl
 by_cases h7 : (sd d[m] ot).1[q] < 0
 case pos =>
  refine fail 1 (zam _ _ _ _ ?_) (zbH _ _ _ _ ?_)
  ·simp only [zX, hl, si, so, j0, j1, hdj, zm, sd1, p0', p1', huq, decide_eq_true h7, Option.bind_some, Bool.not_true, Bool.false_eq_true, if_false, if_true]
  ·simp only [zbe, lc, ld, hci, hdj, h2, zm, sd2, inq, huq, decide_eq_true h7, Option.bind_some, Bool.not_true, Bool.false_eq_true, if_false, if_true]
 case neg =>
 have apI := zwD s hg c d hc hd
 have apS' := zwS s hg c d hc hd
 cases h8 : (apartC c d).all (litOK s.1) with
 | false =>
  rw [h8] at apI apS'
  refine fail 2 (zam _ _ _ _ ?_) (zbH _ _ _ _ ?_)
  ·simp only [zX, hl, si, so, j0, j1, hdj, zm, sd1, p0', p1', huq, decide_eq_false h7, za, apI, Option.bind_some, Bool.not_true, Bool.false_eq_true, if_false]; rfl
  ·simp only [zbe, lc, ld, hci, hdj, h2, zm, sd2, inq, huq, decide_eq_false h7, za, apS', Option.bind_some, Bool.not_true, Bool.false_eq_true, if_false]; rfl
 | true =>
 rw [h8, if_pos rfl] at apI apS'
 have e2 : ∀ x ∈ apartC c d, litOK s.1 x = true := List.all_eq_true.1 h8
 have hel : (apartC c d).length = d.length := by simp [apartC]
 have hJ : m < (apartC c d).length := by omega
 have hej := zd hJ
 obtain ⟨se1, se2⟩ := ziF (apartC c d)[m] ot
 obtain ⟨sc1, sc2⟩ := ziF c[n] sc
 have lt : ((true, c[n].2.1, c[n].2.2) : TLit) = c[n] := by rw [← h2]
 have sc2t : zbr M (true, c[n].2.1, c[n].2.2) sc = some (((sd c[n] sc).1, (sd c[n] sc).2, ()), ()) := by rw [lt]; exact sc2
 have hul : (sd (apartC c d)[m] ot).1.length = (sd d[m] ot).1.length := by
  simp only [apartC, List.getElem_map, sd, shl]
  split <;> simp
 have huT := zjX (e2 _ (List.getElem_mem hJ)) ot
 obtain ⟨hu1, hu2⟩ := zp.1 huT.1
 obtain ⟨p, z, hpz, hp⟩ := Tm.at hg hu2 (show q < (sd (apartC c d)[m] ot).1.length by omega)
 obtain ⟨k1, k2⟩ := zlX hpz (Tm.pos hp)
 have prI := zrN s hg _ (by omega) hpz hp
 have prS := zmr s hg _ (by omega) hpz hp
 have hcT := zjX (c2 _ (List.getElem_mem hn)) sc
 obtain ⟨hl1, hl2⟩ := zp.1 hcT.1
 obtain ⟨hr1, hr2⟩ := zp.1 hcT.2
 obtain ⟨ru, u1, u2, u3⟩ := zud s hg (sd c[n] sc).1 p hcT.1 (zp.2 ⟨by omega, hp⟩)
 cases h9 : ru.1.2.1 with
 | false =>
  refine fail 3 (zam _ _ _ _ ?_) (zbH _ _ _ _ ?_)
  ·simp only [zX, hl, si, so, j0, j1, hdj, zm, sd1, p0', p1', huq, decide_eq_false h7, za, apI, hci, hej, sc1, se1, prI, u1, h9, Option.bind_some, Bool.not_true, Bool.false_eq_true, if_false]; rfl
  ·simp only [zbe, lc, ld, hci, hdj, h2, zm, sd2, inq, huq, decide_eq_false h7, za, apS', hej, sc2t, se2, prS, u2, h9, Option.bind_some, Bool.not_true, Bool.false_eq_true, if_false]; rfl
 | true =>
 obtain ⟨τ, hτ, ht, hun, _⟩ := u3 h9
 have lτ : ∀ v, (τ v).length ≤ 100000 := fun v => by have := hτ.len v; omega
 have acI := zkn τ lτ c (by omega) (fun x hx => zdc (c2 x hx))
 have aeI := zkn τ lτ (apartC c d) (by omega) (fun x hx => zdc (e2 x hx))
 have acS := zos τ lτ c (by omega) (fun x hx => zdc (c2 x hx))
 have aeS := zos τ lτ (apartC c d) (by omega) (fun x hx => zdc (e2 x hx))
 obtain ⟨rpI, rpS⟩ := zth s hg (sd (apartC c d)[m] ot).1 (sd c[n] sc).2 (by omega) (by omega) hpz hp
 generalize hR : (sd (apartC c d)[m] ot).1.take q ++ (sd c[n] sc).2 ++ z = R at rpI rpS
 have hRl : R.length ≤ 100 := by rw [← hR]; simp; omega
 have hRn : ∀ x ∈ R, -12 ≤ x := by
  intro x hx
  rw [← hR] at hx
  rcases List.mem_append.1 hx with hx | hx
  ·rcases List.mem_append.1 hx with hx | hx
   ·exact (za5 huT.1).2 x (List.mem_of_mem_take hx)
   ·exact (za5 hcT.2).2 x hx
  ·exact (za5 huT.1).2 x (List.mem_of_mem_drop (by rw [hpz]; exact List.mem_append_right _ hx))
 have toI := zlJ _ _ (zcS τ) lτ R hRl hRn
 have toS := zdL _ _ (zcS τ) lτ R hRl hRn
 have vS := zdL _ _ (zcS τ) lτ (sd (apartC c d)[m] ot).2 (by have := (zp.1 huT.2).1; omega) (za5 huT.2).2
 have lcb : (apC τ c).length = c.length := by simp [apC]
 have leb : (apC τ (apartC c d)).length = (apartC c d).length := by simp [apC]
 have hJ' : m < (apC τ (apartC c d)).length := by omega
 have hI' : n < (apC τ c).length := by omega
 have sdJ := ztG τ (apartC c d) hJ hJ' ot
 have sdI := ztG τ c hn hI' sc
 have L1 := zBO s ((n : Int), sc, (m : Int), ot, (q : Int), ()) (sd (apartC c d)[m] ot).1 (sd c[n] sc).1 (sd c[n] sc).2 (sd (apartC c d)[m] ot).2 (tabS τ) (apC τ c) (apC τ (apartC c d)) (by omega) (apC τ c).length 0 [] (by omega) (by simp)
 rw [show ((0 : Nat) : Int) = 0 from rfl, List.drop_zero, List.nil_append] at L1
 simp only at L1
 rw [zrA _ 0 n (by omega), Nat.sub_zero] at L1
 have L2 := zBB s (n : Int) sc ot (q : Int) m (sd (apartC c d)[m] ot).1 (sd c[n] sc).1 (sd c[n] sc).2 (sd (apartC c d)[m] ot).2 (apS τ (sd (apartC c d)[m] ot).2) (apS τ R) (tabS τ) (apC τ c) (apC τ (apartC c d)) (by omega) hJ' hot ⟨R, rpS, toS⟩ vS (by
  have : (sd (apC τ (apartC c d))[m] ot).2 = apS τ (sd (apartC c d)[m] ot).2 := by rw [sdJ]
  rw [← this]
  exact ⟨fun e => by rw [e]; rfl, fun e => by rw [e]; rfl⟩) (apC τ (apartC c d)).length 0 ((apC τ c).eraseIdx n) (by omega) (by have := List.length_eraseIdx_le (apC τ c) n; omega)
 rw [show ((0 : Nat) : Int) = 0 from rfl, List.drop_zero] at L2
 generalize hN : newL ot (apC τ (apartC c d))[m] (apS τ R) = NL at L2
 generalize hO : (apC τ c).eraseIdx n ++ (apC τ (apartC c d)).set m NL = OUT at L2
 have hOl : OUT.length = c.length - 1 + d.length := by
  rw [← hO, List.length_append, List.length_set, List.length_eraseIdx_of_lt hI', lcb, leb, hel]
 have kc := zpA hg hτ c1 c2
 have ke := zpA hg hτ (c := apartC c d) (by omega) e2
 have smlc : ∀ x ∈ apC τ c, smL x := by
  intro x hx
  obtain ⟨y, hy, rfl⟩ := List.mem_map.1 hx
  have := zdc (c2 y hy)
  have b1 := zgC (σ := τ) (fun v => by have := hτ.len v; omega) y.2.1
  have b2 := zgC (σ := τ) (fun v => by have := hτ.len v; omega) y.2.2.1
  exact ⟨by simp only; omega, by simp only; omega⟩
 have smle : ∀ x ∈ apC τ (apartC c d), smL x := by
  intro x hx
  obtain ⟨y, hy, rfl⟩ := List.mem_map.1 hx
  have := zdc (e2 y hy)
  have b1 := zgC (σ := τ) (fun v => by have := hτ.len v; omega) y.2.1
  have b2 := zgC (σ := τ) (fun v => by have := hτ.len v; omega) y.2.2.1
  exact ⟨by simp only; omega, by simp only; omega⟩
 have smR' : (apS τ R).length ≤ 1048576 := by
  have := zgC (σ := τ) (fun v => by have := hτ.len v; omega) R
  omega
 have smNL : smL NL := by
  have := smle _ (List.getElem_mem hJ')
  rw [← hN]
  unfold newL
  split
  ·exact ⟨smR', this.2⟩
  ·exact ⟨this.1, smR'⟩
 have smO : ∀ x ∈ OUT, smL x := by
  intro x hx
  rw [← hO] at hx
  rcases List.mem_append.1 hx with hx | hx
  ·exact smlc x (List.mem_of_mem_eraseIdx hx)
  ·rcases List.mem_or_eq_of_mem_set hx with hx | rfl
   ·exact smle x hx
   ·exact smNL
 have ccb := zfT s hg (apC τ c) (by omega) smlc
 have ceb := zfT s hg (apC τ (apartC c d)) (by omega) smle
 have cout := zfT s hg OUT (by omega) smO
 rw [kc] at ccb
 rw [ke] at ceb
 have big : ¬ (fitT τ (tms c) = true ∧ fitT τ (tms (apartC c d)) = true ∧ (apS τ R).length ≤ 40 ∧ c.length + d.length ≤ 9) → ∃ r, zbj M s c d (n, sc, m, ot, q, ()) = some r ∧ zdf M s c d (n, sc, m, ot, q, ()) = some r ∧ (r.1.1 = [] ∨ ((r.1.2.1 = 0 ∨ r.1.2.1 = 5) ∧ ∃ out, r.1.1 = outC out ∧ SupOK s.1 c d (n, sc, m, ot, q, ()) out)) := by
  intro hbig
  refine fail 4 (zam _ _ _ _ ?_) (zbH _ _ _ _ ?_)
  ·simp only [zX, hl, si, so, j0, j1, hdj, zm, sd1, p0', p1', huq, decide_eq_false h7, za, apI, hci, hej, sc1, se1, prI, u1, h9, ht, acI, aeI, rpI, toI, Option.bind_some, Bool.not_true, Bool.false_eq_true, if_false]
   cases f1 : fitT τ (tms c) with
   | false => rfl
   | true =>
    cases f2 : fitT τ (tms (apartC c d)) with
    | false => rfl
    | true =>
     simp only [if_true, Bool.not_true, Bool.false_eq_true, if_false]
     by_cases f3 : (apS τ R).length ≤ 40
     ·rw [if_pos f3]
      simp only [Bool.not_true, Bool.false_eq_true, if_false]
      have : ¬ (c.length + d.length ≤ 9) := fun f4 => hbig ⟨f1, f2, f3, f4⟩
      rw [w64 (x := (c.length : Int) + ((apartC c d).length : Int)) (by omega) (by omega), w64 (by omega) (by omega), if_pos (by simp; omega)]
     ·rw [if_neg f3]
      rfl
  ·simp only [zbe, lc, ld, hci, hdj, h2, zm, sd2, inq, huq, decide_eq_false h7, za, apS', hej, sc2t, se2, prS, u2, h9, ht, acS, aeS, Option.bind_some, Bool.not_true, Bool.false_eq_true, if_false]
   rw [L1]
   simp only [Option.bind_some, Sum.elim_inl, za]
   rw [L2]
   simp only [Option.bind_some, Sum.elim_inl, za, ccb, ceb, cout]
   cases f1 : fitT τ (tms c) with
   | false => rfl
   | true =>
    cases f2 : fitT τ (tms (apartC c d)) with
    | false => rfl
    | true =>
     have : clOK s.1 OUT = false := by
      cases hco : clOK s.1 OUT with
      | false => rfl
      | true =>
       exfalso
       obtain ⟨o1, o2⟩ := zco.1 hco
       have hmem : NL ∈ OUT := by
        rw [← hO]
        exact List.mem_append_right _ (List.mem_set hJ' NL)
       have hNLok := zaN.1 (o2 NL hmem)
       have f3 : (apS τ R).length ≤ 40 := by
        rw [← hN] at hNLok
        unfold newL at hNLok
        split at hNLok
        ·exact (zp.1 hNLok.1).1
        ·exact (zp.1 hNLok.2).1
       exact hbig ⟨f1, f2, f3, by omega⟩
     rw [this]
     rfl
 by_cases hok : fitT τ (tms c) = true ∧ fitT τ (tms (apartC c d)) = true ∧ (apS τ R).length ≤ 40 ∧ c.length + d.length ≤ 9
 case neg => exact big hok
 case pos =>
 obtain ⟨f1, f2, f3, f4⟩ := hok
 rw [f1] at ccb acI kc
 rw [f2] at ceb aeI ke
 rw [if_pos f3] at toI
 have kc' := (zco.1 kc).2
 have ke' := (zco.1 ke).2
 have hTτ : ∀ v, τ v ≠ [] → Tm s.1 (τ v) := fun v h => (zp.1 (hτ.1 v h).1).2
 have hun2 : apS τ (sd c[n] sc).1 = apS τ p := hun
 have hRT : Tm s.1 R := by
  have hu' : Tm s.1 ((sd (apartC c d)[m] ot).1.take q ++ (p ++ z)) := by
   rw [← hpz, List.take_append_drop]; exact hu2
  rw [← hR, List.append_assoc]
  exact zxO hg hu' hp hr2
 have hNLok : litOK s.1 NL = true := by
  have h0 := zaN.1 (ke' _ (List.getElem_mem hJ'))
  have hY : isT s.1 (apS τ R) = true := zp.2 ⟨f3, zkU hg hTτ hRT⟩
  rw [← hN]
  unfold newL
  split
  ·exact zaN.2 ⟨hY, h0.2⟩
  ·exact zaN.2 ⟨h0.1, hY⟩
 have hOok : ∀ x ∈ OUT, litOK s.1 x = true := by
  intro x hx
  rw [← hO] at hx
  rcases List.mem_append.1 hx with hx | hx
  ·exact kc' x (List.mem_of_mem_eraseIdx hx)
  ·rcases List.mem_or_eq_of_mem_set hx with hx | rfl
   ·exact ke' x hx
   ·exact hNLok
 have hO8 : OUT.length ≤ 8 := by omega
 have hclO : clOK s.1 OUT = true := zco.2 ⟨hO8, hOok⟩
 rw [hclO] at cout
 have limO : ∀ x ∈ OUT, x.2.1.length ≤ 1000 ∧ x.2.2.1.length ≤ 1000 := fun x hx => by have := zdc (hOok x hx); omega
 have sup : SupOK s.1 c d (n, sc, m, ot, q, ()) OUT := ⟨n, m, q, hn, hJ, τ, p, z, rfl, rfl, h2, hot, hτ, h8, hpz, hp, hun2, by rw [← hO, ← hN, ← hR], hO8, hOok⟩
 have tI := zjX (kc' _ (List.getElem_mem hI')) sc
 have tJ := zjX (ke' _ (List.getElem_mem hJ')) ot
 rw [sdI] at tI
 rw [sdJ] at tJ
 have b1 := zul _ _ (za5 tI.1) (za5 tI.2)
 have b2 := zul _ _ (za5 tJ.1) (za5 tJ.2)
 obtain ⟨x1, m1, m1'⟩ := zov (apC τ c) (by omega) (fun x hx => ⟨za5 (zaN.1 (kc' x hx)).1, za5 (zaN.1 (kc' x hx)).2⟩) n hI'
 obtain ⟨x2, m2, m2'⟩ := zov (apC τ (apartC c d)) (by omega) (fun x hx => ⟨za5 (zaN.1 (ke' x hx)).1, za5 (zaN.1 (ke' x hx)).2⟩) m hJ'
 have inO := zrC OUT (by omega) limO
 have outS := (ziJ OUT (by omega) limO).2
 simp only at tI tJ b1 b2
 have lS := zdL _ _ (zcS τ) lτ (sd c[n] sc).1 (by omega) (za5 hcT.1).2
 have rS := zdL _ _ (zcS τ) lτ (sd c[n] sc).2 (by omega) (za5 hcT.2).2
 have uS := zdL _ _ (zcS τ) lτ (sd (apartC c d)[m] ot).1 (by omega) (za5 huT.1).2
 have cin := zd hI'
 have cjn := zd hJ'
 obtain ⟨z1, _⟩ := ziF (apC τ c)[n] sc
 obtain ⟨z2, _⟩ := ziF (apC τ (apartC c d))[m] ot
 rw [sdI] at z1
 rw [sdJ] at z2
 simp only at z1 z2
 refine ⟨((outC OUT, (if (ovr (apS τ (sd c[n] sc).1) (apS τ (sd c[n] sc).2) && (ovr (apS τ (sd (apartC c d)[m] ot).1) (apS τ (sd (apartC c d)[m] ot).2) && (x1 && x2))) = true then 0 else 5), ()), ()), zam _ _ _ _ ?_, zbH _ _ _ _ ?_, .inr ⟨by split <;> simp, OUT, rfl, sup⟩⟩
 ·simp only [zX, hl, si, so, j0, j1, hdj, zm, sd1, p0', p1', huq, decide_eq_false h7, za, apI, hci, hej, sc1, se1, prI, u1, h9, ht, acI, aeI, rpI, toI, Option.bind_some, Bool.not_true, Bool.false_eq_true, if_false, if_true]
  rw [w64 (x := (c.length : Int) + ((apartC c d).length : Int)) (by omega) (by omega), w64 (x := (c.length : Int) + ((apartC c d).length : Int) - 1) (by omega) (by omega), if_neg (by simp; omega), if_pos (by omega), zb (by omega), if_pos (by omega)]
  have hcat := p_cL [(apC τ c).take n, (apC τ c).drop (n + 1), apC τ (apartC c d)] (by
   intro y hy
   simp only [List.mem_cons, List.not_mem_nil, or_false] at hy
   rcases hy with rfl | rfl | rfl
   ·simp; omega
   ·simp; omega
   ·omega) (by simp) (by simp; omega)
  have hfl : [(apC τ c).take n, (apC τ c).drop (n + 1), apC τ (apartC c d)].flatten = (apC τ c).eraseIdx n ++ apC τ (apartC c d) := by
   rw [← znT]; simp
  rw [hfl] at hcat
  simp only [Int.toNat_natCast, Int.toNat_zero, List.drop_zero, List.take_length]
  rw [hcat]
  have hel' : ((apC τ c).eraseIdx n).length = c.length - 1 := by rw [List.length_eraseIdx_of_lt hI', lcb]
  have hat : IntKind.i64.wrap (IntKind.i64.wrap (((apC τ c).length : Int) - 1) + (m : Int)) = ((c.length - 1 + m : Nat) : Int) := by
   rw [w64 (x := ((apC τ c).length : Int) - 1) (by omega) (by omega), w64 (by omega) (by omega)]; omega
  have hget : ((apC τ c).eraseIdx n ++ apC τ (apartC c d))[c.length - 1 + m]? = some (apC τ (apartC c d))[m] := by
   rw [List.getElem?_append_right (by omega), hel', Nat.add_sub_cancel_left, List.getElem?_eq_getElem hJ']
  have hset : ∀ y, ((apC τ c).eraseIdx n ++ apC τ (apartC c d)).set (c.length - 1 + m) y = (apC τ c).eraseIdx n ++ (apC τ (apartC c d)).set m y := by
   intro y
   rw [List.set_append_right _ _ (by omega), hel', Nat.add_sub_cancel_left]
  simp only [Option.bind_some, hat, Int.toNat_natCast]
  have hlt : 0 ≤ ((c.length - 1 + m : Nat) : Int) ∧ ((c.length - 1 + m : Nat) : Int) < (((apC τ c).eraseIdx n ++ apC τ (apartC c d)).length : Int) := by
   rw [List.length_append, hel']; omega
  have tail : ∀ O : List TLit, O = OUT → ((idx (apC τ c) (n : Int)).bind fun x22 => (zax M (x22.1, x22.2.1, x22.2.2.1, ()) sc).bind fun r23 => (idx (apC τ (apartC c d)) (m : Int)).bind fun x24 => (zax M (x24.1, x24.2.1, x24.2.2.1, ()) ot).bind fun r25 => (zdq M r23.1.1 r23.1.2.1).bind fun r26 => if (!r26.1.1) = true then (zdq M r25.1.1 r25.1.2.1).bind fun r27 => if (!r27.1.1) = true then (zbR M (apC τ c) (n : Int)).bind fun r28 => if r28.1.1 = true then (zbR M (apC τ (apartC c d)) (m : Int)).bind fun r29 => (zaV M O r29.1.1).bind fun r30 => some ((r30.1.1, r30.1.2.1, ()), ()) else (zaV M O false).bind fun r31 => some ((r31.1.1, r31.1.2.1, ()), ()) else (zaV M O false).bind fun r32 => some ((r32.1.1, r32.1.2.1, ()), ()) else (zaV M O false).bind fun r33 => some ((r33.1.1, r33.1.2.1, ()), ())) = some (((outC OUT, (if (ovr (apS τ (sd c[n] sc).1) (apS τ (sd c[n] sc).2) && (ovr (apS τ (sd (apartC c d)[m] ot).1) (apS τ (sd (apartC c d)[m] ot).2) && (x1 && x2))) = true then 0 else 5), ()), ())) := by
   intro O hO'
   subst hO'
   rw [cin, cjn]
   simp only [Option.bind_some, zm, z1, z2, b1.1, b2.1, m1, m2, Bool.not_not, inO]
   cases ovr (apS τ (sd c[n] sc).1) (apS τ (sd c[n] sc).2) <;> cases ovr (apS τ (sd (apartC c d)[m] ot).1) (apS τ (sd (apartC c d)[m] ot).2) <;> cases x1 <;> cases x2 <;> rfl
  rcases hot with rfl | rfl
  ·rw [if_pos (by decide), if_pos hlt, hget]
   simp only [Option.bind_some, Sum.elim_inl, hset]
   exact tail _ (by rw [← hO, ← hN]; rfl)
  ·rw [if_neg (by decide), if_pos hlt, hget]
   simp only [Option.bind_some, Sum.elim_inl, hset]
   exact tail _ (by rw [← hO, ← hN]; rfl)
 ·simp only [zbe, lc, ld, hci, hdj, h2, zm, sd2, inq, huq, decide_eq_false h7, za, apS', hej, sc2t, se2, prS, u2, h9, ht, acS, aeS, Option.bind_some, Bool.not_true, Bool.false_eq_true, if_false]
  rw [L1]
  simp only [Option.bind_some, Sum.elim_inl, za]
  rw [L2]
  simp only [Option.bind_some, Sum.elim_inl, za, ccb, ceb, cout, Bool.not_true, Bool.false_eq_true, if_false]
  rw [lS]
  simp only [Option.bind_some]
  rw [rS]
  simp only [Option.bind_some, b1.2]
  cases ovr (apS τ (sd c[n] sc).1) (apS τ (sd c[n] sc).2) with
  | false =>
   simp only [Bool.not_false, if_true, outS, Option.bind_some]; rfl
  | true =>
   simp only [Bool.not_true, Bool.false_eq_true, if_false]
   rw [uS]
   simp only [Option.bind_some]
   rw [vS]
   simp only [Option.bind_some, b2.2]
   cases ovr (apS τ (sd (apartC c d)[m] ot).1) (apS τ (sd (apartC c d)[m] ot).2) with
   | false =>
    simp only [Bool.not_false, if_true, outS, Option.bind_some]; rfl
   | true =>
    simp only [Bool.not_true, Bool.false_eq_true, if_false, m1', m2', Option.bind_some]
    cases x1 with
    | false => simp only [Bool.not_false, if_true, outS, Option.bind_some]; rfl
    | true =>
     cases x2 with
     | false => simp only [Bool.not_true, Bool.not_false, Bool.false_eq_true, if_false, if_true, outS, Option.bind_some]; rfl
     | true => simp only [Bool.not_true, Bool.false_eq_true, if_false, outS, Option.bind_some]; rfl
end Go.Proofs.YtkgpnekonnopgaaGreatIr.Ev
namespace Go.Proofs.YtkgpnekonnopgaaGreatIr.Ev
open Go
set_option autoImplicit false
set_option linter.unusedVariables false
set_option linter.unusedSimpArgs false
def updS (σ : Int → List Int) (v : Int) (u : List Int) : Int → List Int := fun w => if w = v then u else σ w
theorem zuh (σ : Int → List Int) {v : Int} (v0 : 0 ≤ v) (v1 : v ≤ 11) (u : List Int) : (tabS σ).set v.toNat u = tabS (updS σ v u) := by
 rw [tabS, znz _ (by omega)]
 refine zcD fun k hk => ?_
 unfold updS
 by_cases e : k = v.toNat
 ·rw [if_pos e, if_pos (by omega)]
 ·rw [if_neg e, if_neg (by omega)]
theorem zy9 {σ : Int → List Int} {v : Int} {u : List Int} (h : σ v = u) : updS σ v u = σ := by
 funext w
 unfold updS
 split
 ·rename_i e; rw [e, h]
 ·rfl
def okB (a : List Int) (σ : Int → List Int) : Prop := ∀ v, σ v ≠ [] → isT a (σ v) = true
theorem okB.upd {a : List Int} {σ : Int → List Int} (h : okB a σ) (v : Int) {u : List Int} (hu : isT a u = true) : okB a (updS σ v u) := by
 intro w hw
 unfold updS at hw ⊢
 split
 ·exact hu
 ·rename_i e
  rw [if_neg e] at hw
  exact h w hw
theorem okB.len {a : List Int} {σ : Int → List Int} (h : okB a σ) (v : Int) : (σ v).length ≤ 40 := by
 by_cases e : σ v = []
 ·rw [e]; simp
 ·exact (zp.1 (h v e)).1
theorem zzy {a : List Int} {k : Int} {n : Int} {t : List Int} (h : sE a k (n :: t) = some []) : 0 < k ∧ ¬ badN a n ∧ sE a (k - 1 + ar a n) t = some [] := by
 simp only [sE] at h
 split at h
 ·cases h
 ·split at h
  ·cases h
  ·rename_i h1 h2
   exact ⟨by omega, h2, h⟩
theorem zA1 {a : List Int} {k : Int} {t : List Int} {j : Nat} (hk : 0 < k) (h : sE a k (t.drop j) = some []) : j < t.length := by
 rcases Nat.lt_or_ge j t.length with q | q
 ·exact q
 ·rw [List.drop_eq_nil_of_le q, sE, if_neg (by omega)] at h
  cases h
section
variable (s : TSign) (hg : gS s.1 = true) (p t : List Int) (hp : p.length ≤ 1000) (ht : t.length ≤ 40)
include hg hp ht
theorem zxc : ∀ (m i j : Nat) (k : Int) (σ : Int → List Int), i + m = p.length → j ≤ t.length → 0 ≤ k → sE s.1 k (p.drop i) = some [] → sE s.1 k (t.drop j) = some [] → okB s.1 σ →
  (zaW M (tabS σ) t s j p p.length i = some (.inr failU) ∧ za3 M (tabS σ) p t s i j = some (.inr failU)) ∨
  ∃ τ, okB s.1 τ ∧ zaW M (tabS σ) t s j p p.length i = some (.inl (tabS τ, t, (t.length : Int), ())) ∧ za3 M (tabS σ) p t s i j = some (.inl (tabS τ, ())) := by
 intro m
 induction m with
 | zero =>
  intro i j k σ hi hj hk h1 h2 ho
  obtain rfl : i = p.length := by omega
  rw [List.drop_length, sE] at h1
  have k0 : k = 0 := by
   split at h1
   ·omega
   ·cases h1
  subst k0
  rw [zo3] at h2
  have h3 : t.length ≤ j := List.drop_eq_nil_iff.1 (Option.some.inj h2)
  obtain rfl : j = t.length := by omega
  refine .inr ⟨σ, ho, zaJ _ _ _ _ _ _ _ ?_, zbv _ _ _ _ _ _ ?_⟩
  ·simp only [zag]
   rw [if_neg (by simp)]
  ·simp only [zaO]
   rw [if_neg (by simp)]
 | succ m ih =>
  intro i j k σ hi hj hk h1 h2 ho
  have hip : i < p.length := by omega
  rw [List.drop_eq_getElem_cons hip] at h1
  obtain ⟨k1, hb, h1'⟩ := zzy h1
  have hjt := zA1 k1 h2
  have hin : decide ((i : Int) < (p.length : Int)) = true := by simp; omega
  have hge : decide ((j : Int) ≥ (t.length : Int)) = false := by simp; omega
  by_cases h0 : 0 ≤ p[i]
  ·have hx : decide (p[i] ≥ 0) = true := by simpa using h0
   by_cases e : t[j] = p[i]
   ·have h2' := h2
    rw [List.drop_eq_getElem_cons hjt, e] at h2'
    obtain ⟨_, _, h2''⟩ := zzy h2'
    have hI : ∀ X, zaW M (tabS σ) t s ((j + 1 : Nat) : Int) p p.length ((i + 1 : Nat) : Int) = X → zag M (tabS σ) t s j p p.length i = X := by
     intro X hX
     simp only [zag, hin, hge, zd hip, zd hjt, hx, e, bne_self_eq_false, Option.bind_some, Sum.elim_inl, if_true, if_false, Bool.false_eq_true, za]
     rw [zb (by omega), zb (by omega)]
     exact hX
    have hS : ∀ X, za3 M (tabS σ) p t s ((i + 1 : Nat) : Int) ((j + 1 : Nat) : Int) = X → zaO M (tabS σ) p t s i j = X := by
     intro X hX
     simp only [zaO, hin, zd hip, zd hjt, hx, e, bne_self_eq_false, Option.bind_some, if_true, if_false, Bool.false_eq_true, za]
     rw [zb (by omega), zb (by omega)]
     exact hX
    rcases ih (i + 1) (j + 1) _ σ (by omega) (by omega) (by have := znv hg p[i]; omega) h1' h2'' ho with ⟨a1, a2⟩ | ⟨τ, a0, a1, a2⟩
    ·exact .inl ⟨zaJ _ _ _ _ _ _ _ (hI _ a1), zbv _ _ _ _ _ _ (hS _ a2)⟩
    ·exact .inr ⟨τ, a0, zaJ _ _ _ _ _ _ _ (hI _ a1), zbv _ _ _ _ _ _ (hS _ a2)⟩
   ·refine .inl ⟨zaJ _ _ _ _ _ _ _ ?_, zbv _ _ _ _ _ _ ?_⟩
    ·have ne : (t[j] != p[i]) = true := by simpa using e
     simp only [zag, hin, hge, zd hip, zd hjt, hx, ne, Option.bind_some, Sum.elim_inl, Sum.elim_inr, Option.map_some, if_true, if_false, Bool.false_eq_true]
     rfl
    ·have ne : (p[i] != t[j]) = true := by simpa using fun q => e q.symm
     simp only [zaO, hin, zd hip, zd hjt, hx, ne, Option.bind_some, if_true, if_false, Bool.false_eq_true]
     rfl
  ·have hx : decide (p[i] ≥ 0) = false := by simp; omega
   have hn : -12 ≤ p[i] := by unfold badN at hb; omega
   have har : ar s.1 p[i] = 0 := by unfold ar; rw [if_pos (by omega)]
   rw [har, Int.add_zero] at h1'
   obtain ⟨u, x, hux, hu, hx2⟩ := ztb hg (t.drop j) 1 (k - 1) [] (by omega) (by omega) (by rw [show 1 + (k - 1) = k by omega]; exact h2)
   have hup := Tm.pos hu
   obtain ⟨c1, c2⟩ := zlX hux hup
   have hd : t.drop (j + u.length) = x := by rw [← List.drop_drop, hux, List.drop_left]
   have hend : zcE M s t j = some ((((j + u.length : Nat) : Int), ()), ()) := by
    apply zla
    simp only [zg5, za, zq6 s hg t (by omega) u x j 1 hux (by omega) (by omega) (by omega) hu, Option.bind_some, Sum.elim_inl]
   have hpart := zmr s hg t (by omega) hux hu
   have hv : IntKind.i64.wrap (-1 - p[i]) = -1 - p[i] := w64 (by omega) (by omega)
   have hget : (tabS σ)[(-1 - p[i]).toNat]? = some (σ (-1 - p[i])) := (zcS σ).2 _ (by omega) (by omega)
   have hvr : 0 ≤ -1 - p[i] ∧ -1 - p[i] < ((tabS σ).length : Int) := by rw [zdU]; omega
   have htk : (t.take (((j + u.length : Nat) : Int)).toNat).drop ((j : Int)).toNat = u := by rw [Int.toNat_natCast, Int.toNat_natCast]; exact c2
   have huT : isT s.1 u = true := zp.2 ⟨by omega, hu⟩
   have hl40 := ho.len (-1 - p[i])
   by_cases e : σ (-1 - p[i]) = []
   ·have hI : ∀ X, zaW M (tabS (updS σ (-1 - p[i]) u)) t s ((j + u.length : Nat) : Int) p p.length ((i + 1 : Nat) : Int) = X → zag M (tabS σ) t s j p p.length i = X := by
     intro X hX
     simp only [zag, hin, hge, zd hip, hx, za, hend, hv, hget, e, Option.bind_some, if_true, if_false, Bool.false_eq_true]
     rw [if_pos (by omega), if_pos hvr]
     simp only [htk, Option.bind_some]
     rw [if_pos (by rfl), if_pos (by omega), if_pos hvr]
     simp only [Option.bind_some, Sum.elim_inl, za]
     rw [zb (by omega), zuh σ (by omega) (by omega)]
     exact hX
    have hS : ∀ X, za3 M (tabS (updS σ (-1 - p[i]) u)) p t s ((i + 1 : Nat) : Int) ((j + u.length : Nat) : Int) = X → zaO M (tabS σ) p t s i j = X := by
     intro X hX
     simp only [zaO, hin, zd hip, hx, za, hpart, hv, hget, e, Option.bind_some, if_true, if_false, Bool.false_eq_true]
     rw [if_pos hvr, if_neg (by simp), if_pos hvr, zb (by omega), zuh σ (by omega) (by omega), w64 (by omega) (by omega)]
     exact hX
    rcases ih (i + 1) (j + u.length) _ (updS σ (-1 - p[i]) u) (by omega) (by omega) (by omega) h1' (by rw [hd]; exact hx2) (ho.upd _ huT) with ⟨a1, a2⟩ | ⟨τ, a0, a1, a2⟩
    ·exact .inl ⟨zaJ _ _ _ _ _ _ _ (hI _ a1), zbv _ _ _ _ _ _ (hS _ a2)⟩
    ·exact .inr ⟨τ, a0, zaJ _ _ _ _ _ _ _ (hI _ a1), zbv _ _ _ _ _ _ (hS _ a2)⟩
   ·have hne : ((((σ (-1 - p[i])).length : Nat) : Int) == 0) = false := by
     have := List.length_pos_iff.2 e
     simp; omega
    have hgt : decide ((((σ (-1 - p[i])).length : Nat) : Int) > 0) = true := by
     have := List.length_pos_iff.2 e
     simp; omega
    by_cases eq : σ (-1 - p[i]) = u
    ·have hI : ∀ X, zaW M (tabS σ) t s ((j + u.length : Nat) : Int) p p.length ((i + 1 : Nat) : Int) = X → zag M (tabS σ) t s j p p.length i = X := by
      intro X hX
      simp only [zag, hin, hge, zd hip, hx, za, hend, hv, hget, hne, Option.bind_some, if_true, if_false, Bool.false_eq_true]
      rw [if_pos (by omega), if_pos hvr]
      simp only [htk, Option.bind_some, hne, zhV (σ (-1 - p[i])) u (by omega), decide_eq_true eq, Bool.not_true, Bool.false_eq_true, if_false, Sum.elim_inl, za]
      rw [zb (by omega)]
      exact hX
     have hS : ∀ X, za3 M (tabS σ) p t s ((i + 1 : Nat) : Int) ((j + u.length : Nat) : Int) = X → zaO M (tabS σ) p t s i j = X := by
      intro X hX
      simp only [zaO, hin, zd hip, hx, za, hpart, hv, hget, Option.bind_some, if_true, if_false, Bool.false_eq_true]
      rw [if_pos hvr, if_pos hgt, if_pos hvr, ziA (σ (-1 - p[i])) u (by omega)]
      simp only [Option.bind_some, decide_eq_true eq, Bool.not_true, Bool.false_eq_true, if_false]
      rw [if_pos hvr, zb (by omega), zuh σ (by omega) (by omega), zy9 eq, w64 (by omega) (by omega)]
      exact hX
     rcases ih (i + 1) (j + u.length) _ σ (by omega) (by omega) (by omega) h1' (by rw [hd]; exact hx2) ho with ⟨a1, a2⟩ | ⟨τ, a0, a1, a2⟩
     ·exact .inl ⟨zaJ _ _ _ _ _ _ _ (hI _ a1), zbv _ _ _ _ _ _ (hS _ a2)⟩
     ·exact .inr ⟨τ, a0, zaJ _ _ _ _ _ _ _ (hI _ a1), zbv _ _ _ _ _ _ (hS _ a2)⟩
    ·refine .inl ⟨zaJ _ _ _ _ _ _ _ ?_, zbv _ _ _ _ _ _ ?_⟩
     ·simp only [zag, hin, hge, zd hip, hx, za, hend, hv, hget, hne, Option.bind_some, if_true, if_false, Bool.false_eq_true]
      rw [if_pos (by omega), if_pos hvr]
      simp only [htk, Option.bind_some, hne, zhV (σ (-1 - p[i])) u (by omega), decide_eq_false eq, Bool.not_false, Bool.false_eq_true, if_false, if_true, Option.map_some, Sum.elim_inr]
      rfl
     ·simp only [zaO, hin, zd hip, hx, za, hpart, hv, hget, Option.bind_some, if_true, if_false, Bool.false_eq_true]
      rw [if_pos hvr, if_pos hgt, if_pos hvr, ziA (σ (-1 - p[i])) u (by omega)]
      simp only [Option.bind_some, decide_eq_false eq, Bool.not_false, if_true]
      rfl
theorem zAZ (hpT : Tm s.1 p) (htT : Tm s.1 t) : (zfE M s (List.replicate 12 []) p t = some failU ∧ zhS M s (List.replicate 12 []) p t = some failU) ∨
  ∃ τ, okB s.1 τ ∧ zfE M s (List.replicate 12 []) p t = some ((tabS τ, true, ()), ()) ∧ zhS M s (List.replicate 12 []) p t = some ((tabS τ, true, ()), ()) := by
 have h := zxc s hg p t hp ht p.length 0 0 1 (fun _ => []) (by omega) (by omega) (by omega) hpT htT (fun v h => absurd rfl h)
 rw [show ((0 : Nat) : Int) = 0 from rfl] at h
 have e : List.replicate 12 ([] : List Int) = tabS (fun _ => []) := rfl
 rw [e]
 rcases h with ⟨a1, a2⟩ | ⟨τ, a0, a1, a2⟩
 ·refine .inl ⟨znc _ _ _ _ ?_, zpa _ _ _ _ ?_⟩
  ·simp only [zhI, za, a1, Option.bind_some, Sum.elim_inr]
   rw [if_pos (by rw [zdU]; omega)]
  ·simp only [zjF, za, a2, Option.bind_some, Sum.elim_inr]
 ·refine .inr ⟨τ, a0, znc _ _ _ _ ?_, zpa _ _ _ _ ?_⟩
  ·simp only [zhI, za, a1, Option.bind_some, Sum.elim_inl, beq_self_eq_true]
   rw [if_pos (by rw [zdU]; omega)]
  ·simp only [zjF, za, a2, Option.bind_some, Sum.elim_inl]
end
end Go.Proofs.YtkgpnekonnopgaaGreatIr.Ev
namespace Go.Proofs.YtkgpnekonnopgaaGreatIr.Ev
open Go
set_option autoImplicit false
set_option linter.unusedVariables false
set_option linter.unusedSimpArgs false
def bareS (σ : Int → List Int) (v : Int) : List Int := if σ v = [-1 - v] then [] else σ v
theorem zz6 (σ : Int → List Int) (T : List Int) : apS (bareS σ) T = apS σ T := by
 have : rp (bareS σ) = rp σ := by
  funext n
  unfold rp bareS
  by_cases e : σ (-1 - n) = [-1 - (-1 - n)]
  ·rw [if_pos e, e, if_neg (by simp)]
   by_cases h : n < 0
   ·rw [if_pos ⟨h, by simp⟩, show -1 - (-1 - n) = n by omega]
   ·rw [if_neg (fun q => h q.1)]
  ·rw [if_neg e]
 unfold apS
 rw [this]
theorem zx6 (x : List Int) (k : Nat) (hk : k ≤ 1000) (hx : x.length ≤ 1000) : ziX M x k = some ((decide (x = [-1 - (k : Int)]), ()), ()) := by
 apply ztv
 simp only [zk4]
 match x, hx with
 | [], _ => rfl
 | [y], _ =>
  rw [if_pos (by simp), show idx [y] 0 = some y from rfl, w64 (by omega) (by omega)]
  simp only [Option.bind_some]
  congr 3
  by_cases e : y = -1 - (k : Int)
  ·simp [e]
  ·have : (y == -1 - (k : Int)) = false := by simpa using e
   rw [this]
   simp [e]
 | a :: b :: r, h =>
  rw [if_neg (by simp; omega)]
  simp
theorem zx4 (σ : Int → List Int) (hσ : ∀ v, (σ v).length ≤ 1000) : ∀ (j k : Nat), k + j = 12 → zhP M (tab fun i => if i < k then bareS σ (i : Int) else σ (i : Int)) 12 k = some (.inl (tabS (bareS σ), ())) := by
 intro j
 induction j with
 | zero =>
  intro k hk
  obtain rfl : k = 12 := by omega
  apply zop
  simp only [zi6]
  rw [if_neg (by simp)]
  congr 3
 | succ j ih =>
  intro k hk
  have h1 : k < 12 := by omega
  apply zop
  simp only [zi6, zdU]
  rw [if_pos (by simp; omega), if_pos (by omega), Int.toNat_natCast, ziI _ h1]
  simp only [Option.bind_some, Nat.lt_irrefl, if_false]
  rw [zx6 _ k (by omega) (hσ _)]
  simp only [Option.bind_some]
  by_cases e : σ (k : Int) = [-1 - (k : Int)]
  ·rw [if_pos (by simpa using e), if_pos (by omega), znz _ h1]
   simp only [Option.bind_some, Sum.elim_inl]
   rw [zb (by omega), ← ih (k + 1) (by omega)]
   congr 1
   refine zcD fun i hi => ?_
   by_cases e1 : i = k
   ·subst e1
    rw [if_pos rfl, if_pos (by omega), bareS, if_pos e]
   ·by_cases e2 : i < k
    ·rw [if_neg e1, if_pos e2, if_pos (by omega)]
    ·rw [if_neg e1, if_neg e2, if_neg (by omega)]
  ·rw [if_neg (by simpa using e)]
   simp only [Option.bind_some, Sum.elim_inl]
   rw [zb (by omega), ← ih (k + 1) (by omega)]
   congr 1
   refine zcD fun i hi => ?_
   by_cases e1 : i = k
   ·subst e1
    rw [if_neg (by omega), if_pos (by omega), bareS, if_neg e]
   ·by_cases e2 : i < k
    ·rw [if_pos e2, if_pos (by omega)]
    ·rw [if_neg e2, if_neg (by omega)]
theorem zBL (σ : Int → List Int) (hσ : ∀ v, (σ v).length ≤ 1000) : zl8 M (tabS σ) = some ((tabS (bareS σ), ()), ()) := by
 apply zwZ
 have h := zx4 σ hσ 12 0 (by omega)
 have e : (tab fun i => if i < 0 then bareS σ (i : Int) else σ (i : Int)) = tabS σ := zcD fun i hi => if_neg (by omega)
 rw [e, show ((0 : Nat) : Int) = 0 from rfl] at h
 simp only [zoQ, zdU]
 rw [show ((12 : Nat) : Int) = 12 from rfl, h]
 simp only [Option.bind_some, Sum.elim_inl]
def failR : (List Int × Bool × Unit) × Unit := (([], false, ()), ())
theorem zB0 (t out : List Int) (ht : t.length ≤ 1000) (ho : out.length ≤ 4000) : ∀ k i : Nat, i + k = out.length → zbN M t out out.length i = some (if (out.drop i).all (fun n => decide (0 ≤ n) || decide (n ∈ t)) = true then .inl (out, ()) else .inr failR) := by
 intro k
 induction k with
 | zero =>
  intro i hi
  obtain rfl : i = out.length := by omega
  apply zjm
  simp only [zdy]
  rw [if_neg (by simp), List.drop_length]
  rfl
 | succ k ih =>
  intro i hi
  have h1 : i < out.length := by omega
  apply zjm
  simp only [zdy]
  rw [if_pos (by simpa using h1), if_pos (by omega), Int.toNat_natCast, List.getElem?_eq_getElem h1, List.drop_eq_getElem_cons h1, List.all_cons]
  simp only [Option.bind_some]
  by_cases h0 : 0 ≤ out[i]
  ·rw [if_neg (by simp; omega), zb (by omega), ih (i + 1) (by omega), decide_eq_true h0, Bool.true_or, Bool.true_and]
  ·rw [if_pos (by simp; omega), zns t out[i] (by omega), decide_eq_false h0, Bool.false_or]
   simp only [Option.bind_some]
   by_cases hm : out[i] ∈ t
   ·rw [decide_eq_true hm, if_neg (by simp), zb (by omega), ih (i + 1) (by omega), Bool.true_and]
   ·rw [decide_eq_false hm, if_pos (by rfl), Bool.false_and, if_neg (by simp)]
    rfl
theorem zCa (t out V : List Int) (ht : t.length ≤ 1000) (hV : V.length ≤ 100000) (hv : ∀ v ∈ V, 0 ≤ v ∧ v ≤ 1000) : ∀ k i : Nat, i + k = V.length → zgM M t out V V.length i = some (if (V.drop i).all (fun v => decide (-1 - v ∈ t)) = true then .inl (t, out, ()) else .inr failR) := by
 intro k
 induction k with
 | zero =>
  intro i hi
  obtain rfl : i = V.length := by omega
  apply znZ
  simp only [zh6]
  rw [if_neg (by simp), List.drop_length]
  rfl
 | succ k ih =>
  intro i hi
  have h1 : i < V.length := by omega
  have hb := hv _ (List.getElem_mem h1)
  apply znZ
  simp only [zh6]
  rw [if_pos (by simpa using h1), if_pos (by omega), Int.toNat_natCast, List.getElem?_eq_getElem h1, List.drop_eq_getElem_cons h1, List.all_cons]
  simp only [Option.bind_some]
  rw [w64 (by omega) (by omega), zwR t (-1 - V[i]) ht]
  simp only [Option.bind_some]
  by_cases hm : -1 - V[i] ∈ t
  ·rw [decide_eq_true hm, if_neg (by simp), zb (by omega), ih (i + 1) (by omega), Bool.true_and]
  ·rw [decide_eq_false hm, if_pos (by rfl), Bool.false_and, if_neg (by simp)]
   rfl
theorem zyI (s : TSign) (hg : gS s.1 = true) (t l r : List Int) (ht : isT s.1 t = true) (hl : isT s.1 l = true) (hr : isT s.1 r = true) : ∃ (ok : Bool) (o1 o2 : List Int), zb0 M s t l r = some ((o1, ok, ()), ()) ∧ ziL M s t l r = some ((o2, ok, ()), ()) ∧ (ok = true → o1 = o2 ∧ isT s.1 o1 = true ∧ gtT t o1 = true) := by
 obtain ⟨t1, t2⟩ := zp.1 ht
 obtain ⟨l1, l2⟩ := zp.1 hl
 obtain ⟨r1, r2⟩ := zp.1 hr
 have h12 : 0 ≤ (12 : Int) ∧ ((24 : Nat) : Int) * (12 : Int) ≤ 140737488355328 ∧ True := ⟨by decide, by decide, trivial⟩
 have h12n : (12 : Int).toNat = 12 := rfl
 rcases zAZ s hg l t (by omega) t1 l2 t2 with ⟨a1, a2⟩ | ⟨τ, a0, a1, a2⟩
 ·refine ⟨false, [], [], zgs _ _ _ _ ?_, zsx _ _ _ _ ?_, fun h => by cases h⟩
  ·simp only [zcG, h12n, za, a1, Option.bind_some]
   rw [if_pos h12]
   rfl
  ·simp only [zl3, h12n, za, a2, Option.bind_some]
   rw [if_pos h12]
   rfl
 ·have lτ := fun v => a0.len v
  have hTτ : ∀ v, τ v ≠ [] → Tm s.1 (τ v) := fun v h => (zp.1 (a0 v h)).2
  have hT : Tm s.1 (apS τ r) := zkU hg hTτ r2
  have hlen := zgC (σ := τ) (fun v => by have := lτ v; omega) r
  have hnum := zml (apS τ r) 1 hT
  have hb := zBL τ (fun v => by have := lτ v; omega)
  have lb : ∀ v, (bareS τ v).length ≤ 100000 := fun v => by
   unfold bareS
   split
   ·simp
   ·have := lτ v; omega
  have aI := zlJ _ _ (zcS (bareS τ)) lb r (by omega) (za5 hr).2
  rw [zz6] at aI
  have aS := zdL _ _ (zcS τ) (fun v => by have := lτ v; omega) r (by omega) (za5 hr).2
  have vS := zot (apS τ r) (by omega) (fun n hn => by have := (hnum n hn).1; omega)
  have hm : ∀ v, v ∈ (negs (apS τ r)).foldl putN [] ↔ 0 ≤ v ∧ -1 - v ∈ apS τ r := by
   intro v; rw [ziH, ztc]; simp
  have hVl : ((negs (apS τ r)).foldl putN []).length ≤ 100000 := by
   have := zjY (negs (apS τ r)) []
   have := zp4 (apS τ r)
   simp at *; omega
  have hVv : ∀ v ∈ (negs (apS τ r)).foldl putN [], 0 ≤ v ∧ v ≤ 1000 := by
   intro v h
   have h := (hm v).1 h
   have := (hnum _ h.2).1
   omega
  have lS := zCa t (apS τ r) _ (by omega) hVl hVv _ 0 (by rw [Nat.zero_add])
  rw [show ((0 : Nat) : Int) = 0 from rfl, List.drop_zero] at lS
  have gS' := zl5 t (apS τ r) (za5 ht) ⟨by omega, fun n hn => (hnum n hn).1⟩
  have hall : ((negs (apS τ r)).foldl putN []).all (fun v => decide (-1 - v ∈ t)) = (apS τ r).all (fun n => decide (0 ≤ n) || decide (n ∈ t)) := by
   rw [Bool.eq_iff_iff]
   simp only [List.all_eq_true, decide_eq_true_eq, Bool.or_eq_true]
   constructor
   ·intro q n hn
    by_cases h0 : 0 ≤ n
    ·exact .inl h0
    ·have := q (-1 - n) ((hm _).2 ⟨by omega, by rw [show -1 - (-1 - n) = n by omega]; exact hn⟩)
     rw [show -1 - (-1 - n) = n by omega] at this
     exact .inr this
   ·intro q v hv
    have h := (hm v).1 hv
    rcases q _ h.2 with h0 | h0
    ·omega
    ·exact h0
  rw [hall] at lS
  have hS : ziL M s t l r = some (if (apS τ r).all (fun n => decide (0 ≤ n) || decide (n ∈ t)) = true then ((apS τ r, gtT t (apS τ r), ()), ()) else failR) := by
   apply zsx
   simp only [zl3, h12n, za, a2, aS, vS, lS, Option.bind_some, Bool.not_true, Bool.false_eq_true, if_false]
   rw [if_pos h12]
   split
   ·simp only [Sum.elim_inl, gS', Option.bind_some]
   ·rfl
  have failI : zb0 M s t l r = some (([], false, ()), ()) → gtT t (apS τ r) = false → ∃ (ok : Bool) (o1 o2 : List Int), zb0 M s t l r = some ((o1, ok, ()), ()) ∧ ziL M s t l r = some ((o2, ok, ()), ()) ∧ (ok = true → o1 = o2 ∧ isT s.1 o1 = true ∧ gtT t o1 = true) := by
   intro h1 h2
   rw [h2] at hS
   split at hS
   ·exact ⟨false, [], _, h1, hS, fun h => by cases h⟩
   ·exact ⟨false, [], [], h1, hS, fun h => by cases h⟩
  by_cases h40 : (apS τ r).length ≤ 40
  ·rw [if_pos h40] at aI
   have gI := zl4 t (apS τ r) (za5 ht) ⟨by omega, fun n hn => (hnum n hn).1⟩
   have lI := zB0 t (apS τ r) (by omega) (by omega) _ 0 (by rw [Nat.zero_add])
   rw [show ((0 : Nat) : Int) = 0 from rfl, List.drop_zero] at lI
   cases hgt : gtT t (apS τ r) with
   | false =>
    refine failI (zgs _ _ _ _ ?_) hgt
    rw [hgt] at gI
    simp only [zcG, h12n, za, a1, hb, aI, gI, Option.bind_some, Bool.not_true, Bool.false_eq_true, if_false]
    rw [if_pos h12]
    rfl
   | true =>
    rw [hgt] at gI hS
    have hI : zb0 M s t l r = some (if (apS τ r).all (fun n => decide (0 ≤ n) || decide (n ∈ t)) = true then ((apS τ r, true, ()), ()) else failR) := by
     apply zgs
     simp only [zcG, h12n, za, a1, hb, aI, gI, lI, Option.bind_some, Bool.not_true, Bool.false_eq_true, if_false]
     rw [if_pos h12]
     split <;> rfl
    split at hS
    ·rename_i hc
     rw [if_pos hc] at hI
     exact ⟨true, _, _, hI, hS, fun _ => ⟨rfl, zp.2 ⟨h40, hT⟩, hgt⟩⟩
    ·rename_i hc
     rw [if_neg hc] at hI
     exact ⟨false, [], [], hI, hS, fun h => by cases h⟩
  ·rw [if_neg h40] at aI
   refine failI (zgs _ _ _ _ ?_) ?_
   ·simp only [zcG, h12n, za, a1, hb, aI, Option.bind_some, Bool.not_true, Bool.false_eq_true, if_false]
    rw [if_pos h12]
    rfl
   ·unfold gtT
    rw [decide_eq_false (show ¬ (apS τ r).length ≤ t.length by omega)]
    simp
end Go.Proofs.YtkgpnekonnopgaaGreatIr.Ev
namespace Go.Proofs.YtkgpnekonnopgaaGreatIr.Ev
open Go
set_option autoImplicit false
set_option linter.unusedVariables false
set_option linter.unusedSimpArgs false
def val : List Int → Nat
 | [] => 0
 | n :: t => (n + 13).toNat * 64 ^ t.length + val t
def rngV (t : List Int) : Prop := ∀ n ∈ t, -12 ≤ n ∧ n ≤ 10
theorem rngV.tail {n : Int} {t : List Int} (h : rngV (n :: t)) : rngV t := fun x hx => h x (List.mem_cons_of_mem _ hx)
theorem zwt : ∀ t : List Int, rngV t → val t < 64 ^ t.length
 | [], _ => by simp [val]
 | n :: t, h => by
  have h1 := zwt t h.tail
  have h2 := h n (by simp)
  have h3 : (n + 13).toNat ≤ 23 := by omega
  have h4 := Nat.mul_le_mul_right (64 ^ t.length) h3
  simp only [val, List.length_cons, Nat.pow_succ]
  omega
theorem zxs : ∀ p q : List Int, p.length = q.length → rngV p → rngV q → gtLex p q = true → val q < val p
 | [], _, _, _, _, h => by simp [gtLex] at h
 | _ :: _, [], _, _, _, h => by simp [gtLex] at h
 | x :: p, y :: q, hl, hp, hq, h => by
  simp only [List.length_cons, Nat.add_right_cancel_iff] at hl
  simp only [val, hl]
  simp only [gtLex] at h
  split at h
  ·rename_i e
   have := zxs p q hl hp.tail hq.tail h
   rw [e]; omega
  ·simp only [Bool.and_eq_true, decide_eq_true_eq] at h
   have h1 := zwt q hq.tail
   have h3 : (y + 13).toNat + 1 ≤ (x + 13).toNat := by omega
   have h4 := Nat.mul_le_mul_right (64 ^ q.length) h3
   rw [Nat.add_mul] at h4
   omega
theorem zpb : ∀ l t : List Int, val (l ++ t) = val l * 64 ^ t.length + val t
 | [], t => by simp [val]
 | n :: l, t => by
  rw [List.cons_append, val, val, zpb l t, List.length_append, Nat.pow_add, Nat.add_mul, Nat.mul_assoc, Nat.add_assoc]
def mu (t : List Int) : Nat := t.length * 64 ^ 40 + val t
theorem zB3 {l p q z : List Int} (hp : rngV (l ++ (p ++ z))) (hq : rngV (l ++ (q ++ z))) (hlen : (l ++ (p ++ z)).length ≤ 40) (h : gtT p q = true) : mu (l ++ (q ++ z)) < mu (l ++ (p ++ z)) := by
 simp only [gtT, Bool.and_eq_true, Bool.or_eq_true, decide_eq_true_eq] at h
 obtain ⟨_, h1, h2⟩ := h
 unfold mu
 by_cases e : q.length < p.length
 ·have v1 := zwt _ hq
  have v2 : (64 : Nat) ^ (l ++ (q ++ z)).length ≤ 64 ^ 40 := Nat.pow_le_pow_right (by omega) (by simp only [List.length_append] at hlen ⊢; omega)
  have v3 := Nat.mul_le_mul_right ((64 : Nat) ^ 40) (show (l ++ (q ++ z)).length + 1 ≤ (l ++ (p ++ z)).length by simp only [List.length_append]; omega)
  rw [Nat.add_mul] at v3
  omega
 ·have hx : gtLex p q = true := by rcases h2 with h | h; omega; exact h
  have el : p.length = q.length := by omega
  have v := zxs p q el (fun x hx => hp x (by simp [hx])) (fun x hx => hq x (by simp [hx])) hx
  have w := Nat.mul_lt_mul_of_pos_right v (Nat.pow_pos (n := z.length) (show 0 < 64 by omega))
  rw [zpb l, zpb l, zpb q, zpb p]
  simp only [List.length_append, el]
  omega
end Go.Proofs.YtkgpnekonnopgaaGreatIr.Ev
namespace Go.Proofs.YtkgpnekonnopgaaGreatIr.Ev
open Go
set_option autoImplicit false
set_option linter.unusedVariables false
set_option linter.unusedSimpArgs false
def okM (m : List Int) : Prop := m.Nodup ∧ ∀ x ∈ m, -12 ≤ x ∧ x < 0
theorem okM.len {m : List Int} (h : okM m) : m.length ≤ 12 := by
 have := h.1.length_le_of_subset (l₂ := (List.range 12).map fun k : Nat => -1 - (k : Int)) (fun x hx => by
  have := h.2 x hx
  exact List.mem_map.2 ⟨(-1 - x).toNat, by simp; omega, by omega⟩)
 simpa using this
theorem okM.add {m : List Int} (h : okM m) {n : Int} (h0 : n < 0) (h1 : -12 ≤ n) : okM (addN m n) := by
 unfold addN
 split
 ·rename_i q
  refine ⟨?_, fun x hx => ?_⟩
  ·rw [List.nodup_append]
   exact ⟨h.1, by simp, fun x hx y hy e => by rw [List.mem_singleton] at hy; subst e; subst hy; exact q.2 hx⟩
  ·rcases List.mem_append.1 hx with hx | hx
   ·exact h.2 x hx
   ·rw [List.mem_singleton.1 hx]; exact ⟨h1, h0⟩
 ·exact h
theorem zwq (n : Int) : ∀ (m : List Int) (i : Nat), n ∈ m → ∃ j : Nat, j < i + m.length ∧ mget (mkM i m) n 0 = -1 - (j : Int)
 | [], _, h => by cases h
 | a :: r, i, h => by
  simp only [mkM, mget, List.length_cons]
  by_cases e : a = n
  ·rw [if_pos e]
   exact ⟨i, by omega, rfl⟩
  ·rw [if_neg e]
   obtain ⟨j, j1, j2⟩ := zwq n r (i + 1) (by rcases List.mem_cons.1 h with q | q; exact absurd q.symm e; exact q)
   exact ⟨j, by omega, j2⟩
theorem zvN {a : List Int} : ∀ (t met : List Int) (k : Int), okM met → sE a k t = some [] → ∃ met', okM met' ∧ (rnm (mkM 0 met) t).2 = mkM 0 met' ∧ sE a k (rnm (mkM 0 met) t).1 = some []
 | [], met, k, hm, h => ⟨met, hm, rfl, h⟩
 | n :: r, met, k, hm, h => by
  simp only [sE] at h
  split at h
  ·cases h
  ·rename_i hk
   split at h
   ·cases h
   ·rename_i hb
    simp only [rnm]
    by_cases h0 : 0 ≤ n
    ·simp only [if_pos h0]
     obtain ⟨met', m1, m2, m3⟩ := zvN r met _ hm h
     refine ⟨met', m1, m2, ?_⟩
     simp only [sE, if_neg hk, if_neg hb]
     exact m3
    ·have hn : -12 ≤ n := by unfold badN at hb; omega
     have hm' := hm.add (n := n) (by omega) hn
     simp only [if_neg h0, zxC met (show n < 0 by omega)]
     obtain ⟨met', m1, m2, m3⟩ := zvN r (addN met n) _ hm' h
     obtain ⟨j, j1, j2⟩ := zwq n (addN met n) 0 (zww met (by omega))
     have hl := hm'.len
     refine ⟨met', m1, m2, ?_⟩
     have e1 : ar a n = 0 := by unfold ar; rw [if_pos (by omega)]
     have e2 : ar a (-1 - (j : Int)) = 0 := by unfold ar; rw [if_pos (by omega)]
     have hbj : ¬ badN a (-1 - (j : Int)) := by unfold badN; omega
     rw [j2]
     simp only [sE, if_neg hk, if_neg hbj]
     rw [e2, ← e1]
     exact m3
theorem zzr {a : List Int} : ∀ (ts : List (List Int)) (met : List Int), okM met → (∀ t ∈ ts, isT a t = true) → ∀ t ∈ rnL (mkM 0 met) ts, isT a t = true
 | [], met, _, _, t, ht => by cases ht
 | u :: r, met, hm, h, t, ht => by
  have hu := zp.1 (h u (by simp))
  obtain ⟨met', m1, m2, m3⟩ := zvN u met 1 hm hu.2
  simp only [rnL] at ht
  rcases List.mem_cons.1 ht with rfl | ht
  ·exact zp.2 ⟨by rw [(zrL u _).1]; exact hu.1, m3⟩
  ·rw [m2] at ht
   exact zzr r met' m1 (fun x hx => h x (by simp [hx])) t ht
theorem zxM : ∀ (c : List TLit) (ts : List (List Int)), ∀ x ∈ wtZ c ts, x.2.1 ∈ ts ∧ x.2.2.1 ∈ ts
 | [], _, x, h => by simp [wtZ] at h
 | _ :: _, [], x, h => by simp [wtZ] at h
 | _ :: _, [_], x, h => by simp [wtZ] at h
 | y :: c, u :: v :: r, x, h => by
  simp only [wtZ] at h
  rcases List.mem_cons.1 h with rfl | h
  ·exact ⟨by simp, by simp⟩
  ·obtain ⟨h1, h2⟩ := zxM c r x h
   exact ⟨by simp [h1], by simp [h2]⟩
theorem zpl {a : List Int} {c : List TLit} (hl : c.length ≤ 8) (h : ∀ x ∈ c, litOK a x = true) : clOK a (outC c) = true := by
 have h2 := zqL c []
 have hT := ziK (td [] c)
 refine zco.2 ⟨?_, fun x hx => ?_⟩
 ·unfold outC rnC
  rw [zrQ _ _ (by rw [zrP]; omega)]
  simp at h2; omega
 ·obtain ⟨h1, h3⟩ := zxM _ _ x hx
  have hk := zzr (a := a) (tms (td [] c)) [] ⟨by simp, by simp⟩ (fun t ht => by
   obtain ⟨y, hy, e⟩ := zjE.1 ht
   obtain ⟨q1, q2⟩ := zaN.1 (h y (by rcases zqS c [] y hy with q | q; cases q; exact q))
   rcases e with rfl | rfl
   ·exact q1
   ·exact q2)
  exact zaN.2 ⟨hk _ h1, hk _ h3⟩
end Go.Proofs.YtkgpnekonnopgaaGreatIr.Ev
namespace Go.Proofs.YtkgpnekonnopgaaGreatIr.Ev
open Go
set_option autoImplicit false
set_option linter.unusedVariables false
set_option linter.unusedSimpArgs false
theorem zxJ {a : List Int} (hg : gS a = true) {t : List Int} (h : Tm a t) : rngV t := by
  have hal : a.length ≤ 10 := by
    simp only [gS, Bool.and_eq_true, decide_eq_true_eq] at hg
    omega
  intro n hn
  have := zml t 1 h n hn
  omega
section
variable (s : TSign) (hg : gS s.1 = true) (units : List TLit) (hu : units.length ≤ 1000) (hux : ∀ x ∈ units, litOK s.1 x = true)
def lessT (t t' : List Int) : Prop := isT s.1 t' = true ∧ mu t' < mu t
include hg hux
theorem zz3 (t p z : List Int) (at' : Nat) (ht : isT s.1 t = true) (hpz : t.drop at' = p ++ z) (hp : Tm s.1 p) (k : Nat) (hk : k < units.length) : ∀ (j n : Nat), n + j = 2 →
    (zbp M t units s at' p k units[k] units units.length k n = some (.inl (t, units, s, (at' : Int), p, units, (units.length : Int), (k : Int), ())) ∧
     zbP M t units s at' p k units[k] n units units.length k = some (.inl (t, units, s, (at' : Int), p, units, (units.length : Int), (k : Int), ()))) ∨
    ∃ t', lessT s t t' ∧ zbp M t units s at' p k units[k] units units.length k n = some (.inr ((t', (at' : Int), (k : Int), true, ()), ())) ∧
     zbP M t units s at' p k units[k] n units units.length k = some (.inr ((t', (at' : Int), (k : Int), true, ()), ())) := by
  obtain ⟨t1, t2⟩ := zp.1 ht
  have hpl := Tm.pos hp
  obtain ⟨c1, c2⟩ := zlX hpz hpl
  have hpT : isT s.1 p = true := zp.2 ⟨by omega, hp⟩
  intro j
  induction j with
  | zero =>
    intro n hn
    obtain rfl : n = 2 := by omega
    refine .inl ⟨zdH _ _ _ _ _ _ _ _ _ _ _ ?_, zfa _ _ _ _ _ _ _ _ _ _ _ ?_⟩
    · simp only [zbG, za]
      rw [if_neg (by simp)]
    · simp only [zb9, za]
      rw [if_neg (by simp)]
  | succ j ih =>
    intro n hn
    obtain ⟨s1, s2⟩ := ziF units[k] (n : Int)
    obtain ⟨l1, l2⟩ := zjX (hux _ (List.getElem_mem hk)) (n : Int)
    obtain ⟨ok, o1, o2, r1, r2, r3⟩ := zyI s hg p (sd units[k] (n : Int)).1 (sd units[k] (n : Int)).2 hpT l1 l2
    have hn2 : decide ((n : Int) < 2) = true := by simp; omega
    cases ok with
    | false =>
      have hI : ∀ X, zbp M t units s at' p k units[k] units units.length k ((n + 1 : Nat) : Int) = X → zbG M t units s at' p k units[k] units units.length k n = X := by
        intro X hX
        simp only [zbG, za, zm, hn2, s1, r1, Option.bind_some, if_true, Bool.false_eq_true, if_false]
        rw [zb (by omega)]
        exact hX
      have hS : ∀ X, zbP M t units s at' p k units[k] ((n + 1 : Nat) : Int) units units.length k = X → zb9 M t units s at' p k units[k] n units units.length k = X := by
        intro X hX
        simp only [zb9, za, zm, hn2, s2, r2, Option.bind_some, if_true, Bool.false_eq_true, if_false]
        rw [zb (by omega)]
        exact hX
      rcases ih (n + 1) (by omega) with ⟨a1, a2⟩ | ⟨t', a0, a1, a2⟩
      · exact .inl ⟨zdH _ _ _ _ _ _ _ _ _ _ _ (hI _ a1), zfa _ _ _ _ _ _ _ _ _ _ _ (hS _ a2)⟩
      · exact .inr ⟨t', a0, zdH _ _ _ _ _ _ _ _ _ _ _ (hI _ a1), zfa _ _ _ _ _ _ _ _ _ _ _ (hS _ a2)⟩
    | true =>
      obtain ⟨e, o1T, ogt⟩ := r3 rfl
      subst e
      obtain ⟨ol, oT⟩ := zp.1 o1T
      obtain ⟨rp1, rp2⟩ := zth s hg t o1 (by omega) (by omega) hpz hp
      have hlen : o1.length ≤ p.length := by
        simp only [gtT, Bool.and_eq_true, decide_eq_true_eq] at ogt
        exact ogt.2.1
      have et : t = t.take at' ++ (p ++ z) := by rw [← hpz, List.take_append_drop]
      have hT' : Tm s.1 (t.take at' ++ (o1 ++ z)) := zxO hg (by rw [← et]; exact t2) hp oT
      have hl' : (t.take at' ++ (o1 ++ z)).length ≤ 40 := by
        simp only [List.length_append, List.length_take]
        omega
      have hmu : mu (t.take at' ++ (o1 ++ z)) < mu (t.take at' ++ (p ++ z)) := zB3 (by rw [← et]; exact zxJ hg t2) (zxJ hg hT') (by rw [← et]; exact t1) ogt
      rw [← et] at hmu
      rw [List.append_assoc] at rp1 rp2
      refine .inr ⟨t.take at' ++ (o1 ++ z), ⟨zp.2 ⟨hl', hT'⟩, hmu⟩, zdH _ _ _ _ _ _ _ _ _ _ _ ?_, zfa _ _ _ _ _ _ _ _ _ _ _ ?_⟩
      · simp only [zbG, za, zm, hn2, s1, r1, rp1, Option.bind_some, if_true]
      · simp only [zb9, za, zm, hn2, s2, r2, rp2, Option.bind_some, if_true]
include hu
theorem zzi (t p z : List Int) (at' : Nat) (ht : isT s.1 t = true) (hpz : t.drop at' = p ++ z) (hp : Tm s.1 p) : ∀ (j k : Nat), k + j = units.length →
    (zbJ M t units s at' p units units.length k = some (.inl (t, units, s, (at' : Int), ())) ∧ zcj M t units s at' p units units.length k = some (.inl (t, units, s, (at' : Int), ()))) ∨
    ∃ t' k', lessT s t t' ∧ zbJ M t units s at' p units units.length k = some (.inr ((t', (at' : Int), k', true, ()), ())) ∧ zcj M t units s at' p units units.length k = some (.inr ((t', (at' : Int), k', true, ()), ())) := by
  intro j
  induction j with
  | zero =>
    intro k hk
    obtain rfl : k = units.length := by omega
    refine .inl ⟨zeF _ _ _ _ _ _ _ _ ?_, zgm _ _ _ _ _ _ _ _ ?_⟩
    · simp only [zbW, za]
      rw [if_neg (by simp)]
    · simp only [zcJ, za]
      rw [if_neg (by simp)]
  | succ j ih =>
    intro k hk
    have h1 : k < units.length := by omega
    have hlt : decide ((k : Int) < (units.length : Int)) = true := by simp; omega
    have hin := zz3 s hg units hux t p z at' ht hpz hp k h1 2 0 (by omega)
    rw [show ((0 : Nat) : Int) = 0 from rfl] at hin
    rcases hin with ⟨b1, b2⟩ | ⟨t', b0, b1, b2⟩
    · have hI : ∀ X, zbJ M t units s at' p units units.length ((k + 1 : Nat) : Int) = X → zbW M t units s at' p units units.length k = X := by
        intro X hX
        simp only [zbW, za, hlt, zd h1, zm, b1, Option.bind_some, Sum.elim_inl, if_true]
        rw [zb (by omega)]
        exact hX
      have hS : ∀ X, zcj M t units s at' p units units.length ((k + 1 : Nat) : Int) = X → zcJ M t units s at' p units units.length k = X := by
        intro X hX
        simp only [zcJ, za, hlt, zd h1, zm, b2, Option.bind_some, Sum.elim_inl, if_true]
        rw [zb (by omega)]
        exact hX
      rcases ih (k + 1) (by omega) with ⟨a1, a2⟩ | ⟨t', k', a0, a1, a2⟩
      · exact .inl ⟨zeF _ _ _ _ _ _ _ _ (hI _ a1), zgm _ _ _ _ _ _ _ _ (hS _ a2)⟩
      · exact .inr ⟨t', k', a0, zeF _ _ _ _ _ _ _ _ (hI _ a1), zgm _ _ _ _ _ _ _ _ (hS _ a2)⟩
    · refine .inr ⟨t', (k : Int), b0, zeF _ _ _ _ _ _ _ _ ?_, zgm _ _ _ _ _ _ _ _ ?_⟩
      · simp only [zbW, za, hlt, zd h1, zm, b1, Option.bind_some, Sum.elim_inr, if_true]
      · simp only [zcJ, za, hlt, zd h1, zm, b2, Option.bind_some, Sum.elim_inr, if_true]
theorem zyN (t : List Int) (ht : isT s.1 t = true) : ∀ (m : Nat), m ≤ t.length →
    (zb3 M t units s ((m : Int) - 1) = some (.inl ()) ∧ zc0 M t units s ((m : Int) - 1) = some (.inl ())) ∨
    ∃ t' a' k', lessT s t t' ∧ zb3 M t units s ((m : Int) - 1) = some (.inr ((t', a', k', true, ()), ())) ∧ zc0 M t units s ((m : Int) - 1) = some (.inr ((t', a', k', true, ()), ())) := by
  obtain ⟨t1, t2⟩ := zp.1 ht
  intro m
  induction m with
  | zero =>
    intro _
    refine .inl ⟨zfM _ _ _ _ ?_, zhA _ _ _ _ ?_⟩
    · simp only [zct]
      rw [if_neg (by simp)]
    · simp only [zdS]
      rw [if_neg (by simp)]
  | succ m ih =>
    intro hm
    have e1 : ((m + 1 : Nat) : Int) - 1 = (m : Int) := by omega
    rw [e1]
    have hge : decide ((m : Int) ≥ 0) = true := by simp
    obtain ⟨p, z, hpz, hp⟩ := Tm.at hg t2 (show m < t.length by omega)
    have pI := zrN s hg t (by omega) hpz hp
    have pS := zmr s hg t (by omega) hpz hp
    have hmid := zzi s hg units hu hux t p z m ht hpz hp units.length 0 (by omega)
    rw [show ((0 : Nat) : Int) = 0 from rfl] at hmid
    rcases hmid with ⟨b1, b2⟩ | ⟨t', k', b0, b1, b2⟩
    · have hI : ∀ X, zb3 M t units s ((m : Int) - 1) = X → zct M t units s m = X := by
        intro X hX
        simp only [zct, za, hge, pI, b1, Option.bind_some, Sum.elim_inl, if_true]
        rw [w64 (by omega) (by omega)]
        exact hX
      have hS : ∀ X, zc0 M t units s ((m : Int) - 1) = X → zdS M t units s m = X := by
        intro X hX
        simp only [zdS, za, hge, pS, b2, Option.bind_some, Sum.elim_inl, if_true]
        rw [w64 (by omega) (by omega)]
        exact hX
      rcases ih (by omega) with ⟨a1, a2⟩ | ⟨t', a', k', a0, a1, a2⟩
      · exact .inl ⟨zfM _ _ _ _ (hI _ a1), zhA _ _ _ _ (hS _ a2)⟩
      · exact .inr ⟨t', a', k', a0, zfM _ _ _ _ (hI _ a1), zhA _ _ _ _ (hS _ a2)⟩
    · refine .inr ⟨t', (m : Int), k', b0, zfM _ _ _ _ ?_, zhA _ _ _ _ ?_⟩
      · simp only [zct, za, hge, pI, b1, Option.bind_some, Sum.elim_inr, if_true]
      · simp only [zdS, za, hge, pS, b2, Option.bind_some, Sum.elim_inr, if_true]
theorem zBV (t : List Int) (ht : isT s.1 t = true) :
    (zf2 M s t units = some (([], 0, 0, false, ()), ()) ∧ zix M s t units = some (([], 0, 0, false, ()), ())) ∨
    ∃ t' a' k', lessT s t t' ∧ zf2 M s t units = some ((t', a', k', true, ()), ()) ∧ zix M s t units = some ((t', a', k', true, ()), ()) := by
  obtain ⟨t1, t2⟩ := zp.1 ht
  have hw : IntKind.i64.wrap ((t.length : Int) - 1) = (t.length : Int) - 1 := w64 (by omega) (by omega)
  rcases zyN s hg units hu hux t ht t.length (Nat.le_refl _) with ⟨a1, a2⟩ | ⟨t', a', k', a0, a1, a2⟩
  · refine .inl ⟨zn1 _ _ _ ?_, zqb _ _ _ ?_⟩
    · simp only [zio, za, hw, a1, Option.bind_some, Sum.elim_inl]
    · simp only [zko, za, hw, a2, Option.bind_some, Sum.elim_inl]
  · refine .inr ⟨t', a', k', a0, zn1 _ _ _ ?_, zqb _ _ _ ?_⟩
    · simp only [zio, za, hw, a1, Option.bind_some, Sum.elim_inr]
    · simp only [zko, za, hw, a2, Option.bind_some, Sum.elim_inr]
theorem zyb : ∀ (m : Nat) (t : List Int) (n : Int), mu t < m → isT s.1 t = true → ∃ (T : List Int) (N : Int), isT s.1 T = true ∧ zdl M t units s n = some (.inr ((T, N, ()), ())) ∧ zeT M units s t n = some (.inr ((T, N, ()), ())) := by
  intro m
  induction m with
  | zero => intro t n h; omega
  | succ m ih =>
    intro t n h ht
    rcases zBV s hg units hu hux t ht with ⟨a1, a2⟩ | ⟨t', a', k', a0, a1, a2⟩
    · refine ⟨t, n, ht, zj7 _ _ _ _ ?_, zlq _ _ _ _ ?_⟩
      · simp only [zeD, za, a1, Option.bind_some]
        rfl
      · simp only [zgl, za, a2, Option.bind_some]
        rfl
    · obtain ⟨T, N, b0, b1, b2⟩ := ih t' (IntKind.i64.wrap (n + 1)) (by have := a0.2; omega) a0.1
      refine ⟨T, N, b0, zj7 _ _ _ _ ?_, zlq _ _ _ _ ?_⟩
      · simp only [zeD, za, a1, Option.bind_some, Bool.not_true, Bool.false_eq_true, if_false]
        exact b1
      · simp only [zgl, za, a2, Option.bind_some, Bool.not_true, Bool.false_eq_true, if_false]
        exact b2
theorem zz7 (t : List Int) (ht : isT s.1 t = true) : ∃ (T : List Int) (N : Int), isT s.1 T = true ∧ zde M s t units = some ((T, N, ()), ()) ∧ zeZ M s t units = some ((T, N, ()), ()) := by
  obtain ⟨t1, t2⟩ := zp.1 ht
  obtain ⟨T, N, b0, b1, b2⟩ := zyb s hg units hu hux (mu t + 1) t 0 (by omega) ht
  refine ⟨T, N, b0, zqK _ _ _ ?_, ztq _ _ _ ?_⟩
  · simp only [zjs, za, b1, Option.bind_some, Sum.elim_inr]
    rw [if_pos (by omega)]
  · simp only [zk0, za, zmi t (by omega), b2, Option.bind_some, Sum.elim_inr]
end
end Go.Proofs.YtkgpnekonnopgaaGreatIr.Ev
namespace Go.Proofs.YtkgpnekonnopgaaGreatIr.Ev
open Go
set_option autoImplicit false
set_option linter.unusedVariables false
set_option linter.unusedSimpArgs false
section
variable (s : TSign) (units : List TLit)
noncomputable def nfT (t : List Int) : List Int := match zde M s t units with
 | some r => r.1.1
 | none => []
variable (hg : gS s.1 = true) (hu : units.length ≤ 1000) (hux : ∀ x ∈ units, litOK s.1 x = true)
include hg hu hux
theorem p_nf (t : List Int) (ht : isT s.1 t = true) : isT s.1 (nfT s units t) = true ∧ ∃ N : Int, zde M s t units = some ((nfT s units t, N, ()), ()) ∧ zeZ M s t units = some ((nfT s units t, N, ()), ()) := by
 obtain ⟨T, N, b0, b1, b2⟩ := zz7 s hg units hu hux t ht
 have e : nfT s units t = T := by unfold nfT; rw [b1]
 rw [e]
 exact ⟨b0, N, b1, b2⟩
theorem zzT (c : List TLit) (ts : List (List Int)) (hl : ts.length ≤ 1000) (ht : ∀ t ∈ ts, isT s.1 t = true) : ∀ (k i : Nat) (m : Int), i + k = ts.length → ∃ m' : Int,
  zbF M c units s ((ts.take i).map (fun t => (some (true, nfT s units t) : Option (Bool × List Int))) ++ (ts.drop i).map (fun t => some (false, t))) m ts.length i = some (.inl (c, ts.map (fun t => some (true, nfT s units t)), m', ())) := by
 intro k
 induction k with
 | zero =>
  intro i m hi
  obtain rfl : i = ts.length := by omega
  refine ⟨m, zhn _ _ _ _ _ _ _ ?_⟩
  simp [zcf]
 | succ k ih =>
  intro i m hi
  have h2 : i < ts.length := by omega
  obtain ⟨b0, N, b1, b2⟩ := p_nf s units hg hu hux ts[i] (ht _ (List.getElem_mem h2))
  have hlen : ((ts.take i).map (fun t => (some (true, nfT s units t) : Option (Bool × List Int))) ++ (ts.drop i).map (fun t => some (false, t))).length = ts.length := by simp; omega
  have hget : ((ts.take i).map (fun t => (some (true, nfT s units t) : Option (Bool × List Int))) ++ (ts.drop i).map (fun t => some (false, t)))[i]? = some (some (false, ts[i])) := by
   rw [List.getElem?_append_right (by simp; omega)]
   simp [Nat.min_eq_left (Nat.le_of_lt h2), h2]
  have hsee : seeO ((ts.take i).map (fun t => (some (true, nfT s units t) : Option (Bool × List Int))) ++ (ts.drop i).map (fun t => some (false, t))) i = some ts[i] := by
   unfold seeO; rw [hget]
  have hnext : (ts.take (i + 1)).map (fun t => (some (true, nfT s units t) : Option (Bool × List Int))) ++ (ts.drop (i + 1)).map (fun t => some (false, t)) = ((ts.take i).map (fun t => (some (true, nfT s units t) : Option (Bool × List Int))) ++ (ts.drop i).map (fun t => some (false, t))).set i (some (true, nfT s units ts[i])) := by
   rw [List.take_succ_eq_append_getElem h2, List.map_append, List.set_append_right _ _ (by simp; omega)]
   have e : i - ((ts.take i).map (fun t => (some (true, nfT s units t) : Option (Bool × List Int)))).length = 0 := by simp; omega
   rw [e, List.drop_eq_getElem_cons h2]
   simp only [List.map_cons, List.map_nil, List.set_cons_zero, List.append_assoc, List.cons_append, List.nil_append]
  obtain ⟨m', ih'⟩ := ih (i + 1) (IntKind.i64.wrap (m + N)) (by omega)
  rw [hnext] at ih'
  refine ⟨m', zhn _ _ _ _ _ _ _ ?_⟩
  simp only [zcf]
  rw [if_pos (by simpa using h2), if_pos (by rw [hlen]; omega), Int.toNat_natCast, hsee]
  simp only [Option.bind_some, za, b1]
  rw [if_pos (by rw [hlen]; omega), hget]
  simp only [Option.bind_some]
  rw [zb (by omega)]
  exact ih'
noncomputable def nfC (c : List TLit) : List TLit := c.map fun x => (x.1, nfT s units x.2.1, nfT s units x.2.2.1, ())
omit hg hu hux in
theorem zBb (c : List TLit) : (nfC s units c).length = c.length := by simp [nfC]
theorem zBN {c : List TLit} (hc : ∀ x ∈ c, litOK s.1 x = true) : ∀ x ∈ nfC s units c, litOK s.1 x = true := by
 intro x hx
 obtain ⟨y, hy, rfl⟩ := List.mem_map.1 hx
 obtain ⟨h1, h2⟩ := zaN.1 (hc y hy)
 exact zaN.2 ⟨(p_nf s units hg hu hux _ h1).1, (p_nf s units hg hu hux _ h2).1⟩
theorem zAz (c : List TLit) (hl : c.length ≤ 1000) (hc : ∀ x ∈ c, litOK s.1 x = true) : ∀ (k i : Nat) (o : List TLit) (m : Int), i + k = c.length → o.length ≤ i → ∃ m' : Int, zed M units s o m c c.length i = some (.inl (o ++ nfC s units (c.drop i), m', ())) := by
 intro k
 induction k with
 | zero =>
  intro i o m hi ho
  obtain rfl : i = c.length := by omega
  refine ⟨m, zlm _ _ _ _ _ _ _ ?_⟩
  simp only [zfP]
  rw [if_neg (by simp), List.drop_length]
  simp [nfC]
 | succ k ih =>
  intro i o m hi ho
  have h1 : i < c.length := by omega
  obtain ⟨l1, l2⟩ := zaN.1 (hc _ (List.getElem_mem h1))
  obtain ⟨a0, N1, a1, a2⟩ := p_nf s units hg hu hux _ l1
  obtain ⟨b0, N2, b1, b2⟩ := p_nf s units hg hu hux _ l2
  obtain ⟨m', ih'⟩ := ih (i + 1) (o ++ [(c[i].1, nfT s units c[i].2.1, nfT s units c[i].2.2.1, ())]) (IntKind.i64.wrap (m + IntKind.i64.wrap (N1 + N2))) (by omega) (by simp; omega)
  refine ⟨m', zlm _ _ _ _ _ _ _ ?_⟩
  simp only [zfP]
  rw [if_pos (by simpa using h1), zd h1]
  simp only [Option.bind_some, za, a2, b2]
  rw [if_pos (by simp; omega), zb (by omega), ih', List.drop_eq_getElem_cons h1, List.append_assoc]
  rfl
theorem zzz (c : List TLit) (hc : clOK s.1 c = true) : ∃ (C : List TLit) (n1 n2 : Int), clOK s.1 C = true ∧ zdC M s c units = some ((C, n1, ()), ()) ∧ ziZ M s c units = some ((C, n2, ()), ()) := by
 obtain ⟨c1, c2⟩ := zco.1 hc
 have hT : ∀ t ∈ tms c, isT s.1 t = true := by
  intro t ht
  obtain ⟨x, hx, h⟩ := zjE.1 ht
  obtain ⟨h1, h2⟩ := zaN.1 (c2 x hx)
  rcases h with rfl | rfl
  ·exact h1
  ·exact h2
 have hL := ziK c
 have nok := zBN s units hg hu hux c2
 have nl := zBb s units c
 have lim : ∀ x ∈ nfC s units c, x.2.1.length ≤ 1000 ∧ x.2.2.1.length ≤ 1000 := fun x hx => by have := zdc (nok x hx); omega
 obtain ⟨o1, o2⟩ := ziJ (nfC s units c) (by omega) lim
 obtain ⟨m1, k1⟩ := zzT s units hg hu hux c (tms c) (by omega) hT (tms c).length 0 0 (by omega)
 rw [show ((0 : Nat) : Int) = 0 from rfl] at k1
 simp only [List.take_zero, List.map_nil, List.nil_append, List.drop_zero] at k1
 obtain ⟨m2, k2⟩ := zAz s units hg hu hux c (by omega) c2 c.length 0 [] 0 (by omega) (by simp)
 rw [show ((0 : Nat) : Int) = 0 from rfl, List.drop_zero, List.nil_append] at k2
 refine ⟨outC (nfC s units c), m1, m2, zpl (by omega) nok, znQ _ _ _ ?_, ztf _ _ _ ?_⟩
 ·simp only [zf0, zmj c (by omega), za, Option.bind_some, k1, Sum.elim_inl]
  rw [if_pos (zq8 _ _), zpJ, zl9 c _ (by omega) (by simp only [List.length_map, ziK]; omega), ztZ]
  simp only [Option.bind_some]
  show (zcp M (nfC s units c)).bind _ = _
  rw [o1]
  rfl
 ·simp only [zlg, za, k2, Option.bind_some, Sum.elim_inl, o2]
end
end Go.Proofs.YtkgpnekonnopgaaGreatIr.Ev
namespace Go.Proofs.YtkgpnekonnopgaaGreatIr.Ev
open Go
set_option autoImplicit false
set_option linter.unusedVariables false
set_option linter.unusedSimpArgs false
theorem zzN (s : TSign) (hg : gS s.1 = true) (c d : List TLit) (hc : clOK s.1 c = true) (hd : clOK s.1 d = true) (i sc j ot p0 : Int) : ∃ r, zbj M s c d (i, sc, j, ot, p0, ()) = some r ∧ zdf M s c d (i, sc, j, ot, p0, ()) = some r ∧ clOK s.1 r.1.1 = true := by
 obtain ⟨r, r1, r2, r3⟩ := zBu s hg c d hc hd i sc j ot p0
 refine ⟨r, r1, r2, ?_⟩
 rcases r3 with e | ⟨_, out, e, _, _, _, _, _, _, _, _, _, _, _, _, _, _, _, _, _, _, h8, ho⟩
 ·rw [e]; rfl
 ·rw [e]; exact zpl h8 ho
theorem zqQ (c : List TLit) (b : Bool) (n : Nat) (hn : n < c.length) : zcq M c n b = some ((c[n].1 == b, ()), ()) := by
 apply zkp
 simp only [zgI]
 rw [if_pos (by simp), if_pos (by simpa using hn), zd hn]
 simp
theorem zqZ (c : List TLit) (b : Bool) (i : Int) (h : ¬ (0 ≤ i ∧ i < (c.length : Int))) : zcq M c i b = some ((false, ()), ()) := by
 apply zkp
 simp only [zgI]
 by_cases h0 : 0 ≤ i
 ·rw [if_pos (by simpa using h0), if_neg (by simp; omega)]
 ·rw [if_neg (by simpa using h0)]
theorem zuw {a : List Int} {τ : Int → List Int} (hτ : okU a τ) {c : List TLit} (hc : ∀ x ∈ c, litOK a x = true) : ∀ x ∈ apC τ c, smL x := by
 intro x hx
 obtain ⟨y, hy, rfl⟩ := List.mem_map.1 hx
 have := zdc (hc y hy)
 have b1 := zgC (σ := τ) (fun v => by have := hτ.len v; omega) y.2.1
 have b2 := zgC (σ := τ) (fun v => by have := hτ.len v; omega) y.2.2.1
 exact ⟨by simp only; omega, by simp only; omega⟩
theorem zy5 (s : TSign) (hg : gS s.1 = true) (c : List TLit) (hc : clOK s.1 c = true) (i : Int) : ∃ r, zcK M s c i = some r ∧ zem M s c i = some r ∧ clOK s.1 r.1.1 = true := by
 obtain ⟨c1, c2⟩ := zco.1 hc
 have fail : ∀ k : Int, zcK M s c i = some (([], k, ()), ()) → zem M s c i = some (([], k, ()), ()) → ∃ r, zcK M s c i = some r ∧ zem M s c i = some r ∧ clOK s.1 r.1.1 = true := fun k h1 h2 => ⟨_, h1, h2, rfl⟩
 have lin : zaL M i 0 (IntKind.i64.wrap ((c.length : Int) - 1)) = some ((decide (0 ≤ i) && decide (i ≤ (c.length : Int) - 1), ()), ()) := by rw [w64 (by omega) (by omega), zdA]
 by_cases h1 : 0 ≤ i ∧ i < (c.length : Int)
 case neg =>
  have e : (decide (0 ≤ i) && decide (i ≤ (c.length : Int) - 1)) = false := by
   by_cases h0 : 0 ≤ i
   ·rw [decide_eq_true h0, decide_eq_false (fun q => h1 ⟨h0, by omega⟩)]; rfl
   ·rw [decide_eq_false h0]; rfl
  rw [e] at lin
  refine fail 1 (zej _ _ _ ?_) (zfZ _ _ _ ?_)
  ·simp only [zb4, zqZ c false i h1, Option.bind_some]; rfl
  ·simp only [zc1, lin, Option.bind_some]; rfl
 case pos =>
 obtain ⟨n, rfl⟩ : ∃ n : Nat, i = (n : Int) := ⟨i.toNat, by omega⟩
 have hn : n < c.length := by omega
 have hl := zqQ c false n hn
 have hci := zd hn
 rw [decide_eq_true h1.1, decide_eq_true (by omega), Bool.true_and] at lin
 cases h2 : c[n].1 with
 | true =>
  rw [h2] at hl
  refine fail 1 (zej _ _ _ ?_) (zfZ _ _ _ ?_)
  ·simp only [zb4, hl, Option.bind_some]; rfl
  ·simp only [zc1, lin, hci, h2, Option.bind_some]; rfl
 | false =>
 rw [h2] at hl
 have hT := zaN.1 (c2 _ (List.getElem_mem hn))
 obtain ⟨ru, u1, u2, u3⟩ := zud s hg c[n].2.1 c[n].2.2.1 hT.1 hT.2
 cases h9 : ru.1.2.1 with
 | false =>
  refine fail 3 (zej _ _ _ ?_) (zfZ _ _ _ ?_)
  ·simp only [zb4, hl, hci, za, u1, h9, Option.bind_some]; rfl
  ·simp only [zc1, lin, hci, h2, za, u2, h9, Option.bind_some]; rfl
 | true =>
 obtain ⟨τ, hτ, ht, _, _⟩ := u3 h9
 have lτ : ∀ v, (τ v).length ≤ 100000 := fun v => by have := hτ.len v; omega
 have acI := zkn τ lτ c (by omega) (fun x hx => zdc (c2 x hx))
 have acS := zos τ lτ c (by omega) (fun x hx => zdc (c2 x hx))
 have kc := zpA hg hτ c1 c2
 have lcb : (apC τ c).length = c.length := by simp [apC]
 have ccb := zfT s hg (apC τ c) (by omega) (zuw hτ c2)
 rw [kc] at ccb
 cases f1 : fitT τ (tms c) with
 | false =>
  rw [f1] at acI ccb
  refine fail 4 (zej _ _ _ ?_) (zfZ _ _ _ ?_)
  ·simp only [zb4, hl, hci, za, u1, h9, ht, acI, Option.bind_some]; rfl
  ·simp only [zc1, lin, hci, h2, za, u2, h9, ht, acS, ccb, Option.bind_some]; rfl
 | true =>
 rw [f1] at acI ccb kc
 rw [if_pos rfl] at acI
 have kc' := (zco.1 kc).2
 have hI' : n < (apC τ c).length := by omega
 obtain ⟨x1, m1, m1'⟩ := zov (apC τ c) (by omega) (fun x hx => ⟨za5 (zaN.1 (kc' x hx)).1, za5 (zaN.1 (kc' x hx)).2⟩) n hI'
 have hOl : ((apC τ c).eraseIdx n).length ≤ 8 := by rw [List.length_eraseIdx_of_lt hI']; omega
 have hOk : ∀ x ∈ (apC τ c).eraseIdx n, litOK s.1 x = true := fun x hx => kc' x (List.mem_of_mem_eraseIdx hx)
 have limO : ∀ x ∈ (apC τ c).eraseIdx n, x.2.1.length ≤ 1000 ∧ x.2.2.1.length ≤ 1000 := fun x hx => by have := zdc (hOk x hx); omega
 have inO := zrC _ (by omega) limO
 have outS := (ziJ _ (by omega) limO).2
 refine ⟨((outC ((apC τ c).eraseIdx n), (if x1 = true then 0 else 5), ()), ()), zej _ _ _ ?_, zfZ _ _ _ ?_, zpl hOl hOk⟩
 ·simp only [zb4, hl, hci, za, u1, h9, ht, acI, Option.bind_some, Bool.not_true, Bool.false_eq_true, if_false, beq_self_eq_true]
  rw [zb (by omega), if_pos (by omega), if_pos (by omega)]
  have hcat := p_cL [(apC τ c).take n, (apC τ c).drop (n + 1)] (by
   intro y hy
   simp only [List.mem_cons, List.not_mem_nil, or_false] at hy
   rcases hy with rfl | rfl
   ·simp; omega
   ·simp; omega) (by simp) (by simp; omega)
  have hfl : [(apC τ c).take n, (apC τ c).drop (n + 1)].flatten = (apC τ c).eraseIdx n := by
   rw [← znT]; simp
  rw [hfl] at hcat
  simp only [Int.toNat_natCast, Int.toNat_zero, List.drop_zero, List.take_length]
  rw [hcat]
  simp only [Option.bind_some, m1, inO]
 ·simp only [zc1, lin, hci, h2, za, u2, h9, ht, acS, ccb, Option.bind_some, Bool.not_true, Bool.false_eq_true, if_false]
  rw [zb (by omega), if_pos (by omega), if_pos (by simp; omega), if_pos (by omega)]
  simp only [Int.toNat_natCast, Int.toNat_zero, List.drop_zero, List.take_length, List.nil_append]
  rw [if_pos (by simp; omega), znT, m1', outS]
  simp only [Option.bind_some]
  cases x1 <;> rfl
theorem zzE (c : List TLit) (hl : c.length ≤ 1000) (hc : ∀ x ∈ c, smL x) : zhN M c = some ((c, ()), ()) := by
 apply zqX
 have := zqa c hl hc c.length 0 (by omega) [] rfl
 rw [show ((0 : Nat) : Int) = 0 from rfl] at this
 simp only [zlb, this, Option.bind_some, Sum.elim_inl, List.nil_append, List.drop_zero]
theorem zAx (s : TSign) (hg : gS s.1 = true) (c : List TLit) (hc : clOK s.1 c = true) (i sc j ot p0 : Int) : ∃ r, zdj M s c (i, sc, j, ot, p0, ()) = some r ∧ zfe M s c (i, sc, j, ot, p0, ()) = some r ∧ clOK s.1 r.1.1 = true := by
 obtain ⟨c1, c2⟩ := zco.1 hc
 have fail : ∀ k : Int, zdj M s c (i, sc, j, ot, p0, ()) = some (([], k, ()), ()) → zfe M s c (i, sc, j, ot, p0, ()) = some (([], k, ()), ()) → ∃ r, zdj M s c (i, sc, j, ot, p0, ()) = some r ∧ zfe M s c (i, sc, j, ot, p0, ()) = some r ∧ clOK s.1 r.1.1 = true := fun k h1 h2 => ⟨_, h1, h2, rfl⟩
 have lc := zrR c (by omega) i sc
 have ld := zrR c (by omega) j ot
 by_cases h1 : 0 ≤ i ∧ i < (c.length : Int)
 case neg =>
  have e : (decide (0 ≤ i) && decide (i < (c.length : Int)) && is01 sc) = false := by
   by_cases h0 : 0 ≤ i
   ·rw [decide_eq_true h0, decide_eq_false (fun q => h1 ⟨h0, q⟩)]; rfl
   ·rw [decide_eq_false h0]; rfl
  rw [e] at lc
  refine fail 1 (zc8 _ _ _ ?_) (ze8 _ _ _ ?_)
  ·simp only [zbM, zqZ c true i h1, Option.bind_some]; rfl
  ·simp only [zcC, lc, Option.bind_some]; rfl
 case pos =>
 obtain ⟨n, rfl⟩ : ∃ n : Nat, i = (n : Int) := ⟨i.toNat, by omega⟩
 have hn : n < c.length := by omega
 have hl := zqQ c true n hn
 have hci := zd hn
 rw [decide_eq_true h1.1, decide_eq_true h1.2, Bool.true_and, Bool.true_and] at lc
 by_cases h4 : 0 ≤ j ∧ j < (c.length : Int)
 case neg =>
  have e : (decide (0 ≤ j) && decide (j < (c.length : Int)) && is01 ot) = false := by
   by_cases h0 : 0 ≤ j
   ·rw [decide_eq_true h0, decide_eq_false (fun q => h4 ⟨h0, q⟩)]; rfl
   ·rw [decide_eq_false h0]; rfl
  rw [e] at ld
  refine fail 1 (zc8 _ _ _ ?_) (ze8 _ _ _ ?_)
  ·simp only [zbM, hl, zqZ c true j h4, Option.bind_some]
   cases (c[n].1 == true) <;> rfl
  ·simp only [zcC, lc, ld, Option.bind_some]
   cases is01 sc <;> rfl
 case pos =>
 obtain ⟨m, rfl⟩ : ∃ m : Nat, j = (m : Int) := ⟨j.toNat, by omega⟩
 have hm : m < c.length := by omega
 have hl2 := zqQ c true m hm
 have hcj := zd hm
 rw [decide_eq_true h4.1, decide_eq_true h4.2, Bool.true_and, Bool.true_and] at ld
 have si := zpK sc
 have so := zpK ot
 by_cases hgood : (c[n].1 && (c[m].1 && (is01 sc && (is01 ot && (!((n : Int) == (m : Int)) && !(p0 != 0)))))) = true
 case neg =>
  refine fail 1 (zc8 _ _ _ ?_) (ze8 _ _ _ ?_)
  ·simp only [zbM, hl, hl2, si, so, Option.bind_some]
   revert hgood
   cases c[n].1
   ·intro _; rfl
   cases c[m].1
   ·intro _; rfl
   cases is01 sc
   ·cases ((n : Int) == (m : Int)) <;> (intro _; rfl)
   cases is01 ot
   ·cases ((n : Int) == (m : Int)) <;> (intro _; rfl)
   cases ((n : Int) == (m : Int))
   ·cases (p0 != 0)
    ·intro h; exact absurd rfl h
    ·intro _; rfl
   ·intro _; rfl
  ·simp only [zcC, lc, ld, hci, hcj, Option.bind_some]
   revert hgood
   cases is01 sc
   ·intro _; rfl
   cases is01 ot
   ·intro _; rfl
   cases ((n : Int) == (m : Int))
   ·cases (p0 != 0)
    ·cases h5 : c[n].1
     ·intro _; rfl
     ·cases h6 : c[m].1
      ·intro _; rfl
      ·intro h; exact absurd rfl h
    ·intro _; rfl
   ·intro _; rfl
 case pos =>
 simp only [Bool.and_eq_true, Bool.not_eq_true'] at hgood
 obtain ⟨q1, q2, q3, q4, q5, q6⟩ := hgood
 rw [q1] at hl
 rw [q2] at hl2
 rw [q3] at lc si
 rw [q4] at ld so
 obtain ⟨sI1, sI2⟩ := ziF c[n] sc
 obtain ⟨sJ1, sJ2⟩ := ziF c[m] ot
 have tI := zjX (c2 _ (List.getElem_mem hn)) sc
 have tJ := zjX (c2 _ (List.getElem_mem hm)) ot
 obtain ⟨ru, u1, u2, u3⟩ := zud s hg (sd c[n] sc).1 (sd c[m] ot).1 tI.1 tJ.1
 have lI : ((true, c[n].2.1, c[n].2.2) : TLit) = c[n] := by rw [← q1]
 have lJ : ((true, c[m].2.1, c[m].2.2) : TLit) = c[m] := by rw [← q2]
 have sI2t : zbr M (true, c[n].2.1, c[n].2.2) sc = some (((sd c[n] sc).1, (sd c[n] sc).2, ()), ()) := by rw [lI]; exact sI2
 have sJ2t : zbr M (true, c[m].2.1, c[m].2.2) ot = some (((sd c[m] ot).1, (sd c[m] ot).2, ()), ()) := by rw [lJ]; exact sJ2
 cases h9 : ru.1.2.1 with
 | false =>
  refine fail 3 (zc8 _ _ _ ?_) (ze8 _ _ _ ?_)
  ·simp only [zbM, hl, hl2, si, so, q5, q6, hci, hcj, zm, sI1, sJ1, za, u1, h9, Option.bind_some]; rfl
  ·simp only [zcC, lc, ld, q5, q6, hci, hcj, q1, q2, zm, sI2t, sJ2t, za, u2, h9, Option.bind_some]; rfl
 | true =>
 obtain ⟨τ, hτ, ht, _, _⟩ := u3 h9
 have lτ : ∀ v, (τ v).length ≤ 100000 := fun v => by have := hτ.len v; omega
 have acI := zkn τ lτ c (by omega) (fun x hx => zdc (c2 x hx))
 have acS := zos τ lτ c (by omega) (fun x hx => zdc (c2 x hx))
 have kc := zpA hg hτ c1 c2
 have lcb : (apC τ c).length = c.length := by simp [apC]
 have ccb := zfT s hg (apC τ c) (by omega) (zuw hτ c2)
 rw [kc] at ccb
 cases f1 : fitT τ (tms c) with
 | false =>
  rw [f1] at acI ccb
  refine fail 4 (zc8 _ _ _ ?_) (ze8 _ _ _ ?_)
  ·simp only [zbM, hl, hl2, si, so, q5, q6, hci, hcj, zm, sI1, sJ1, za, u1, h9, ht, acI, Option.bind_some]; rfl
  ·simp only [zcC, lc, ld, q5, q6, hci, hcj, q1, q2, zm, sI2t, sJ2t, za, u2, h9, ht, acS, ccb, Option.bind_some]; rfl
 | true =>
 rw [f1] at acI ccb kc
 rw [if_pos rfl] at acI
 have kc' := (zco.1 kc).2
 have hI' : n < (apC τ c).length := by omega
 have hJ' : m < (apC τ c).length := by omega
 have sdI := ztG τ c hn hI' sc
 have sdJ := ztG τ c hm hJ' ot
 obtain ⟨x1, m1, m1'⟩ := zov (apC τ c) (by omega) (fun x hx => ⟨za5 (zaN.1 (kc' x hx)).1, za5 (zaN.1 (kc' x hx)).2⟩) n hI'
 have kI := zjX (kc' _ (List.getElem_mem hI')) sc
 have kJ := zjX (kc' _ (List.getElem_mem hJ')) ot
 rw [sdI] at kI
 rw [sdJ] at kJ
 have b1 := zul _ _ (za5 kI.1) (za5 kI.2)
 simp only at b1
 generalize hNL : ((false, apS τ (sd c[n] sc).2, apS τ (sd c[m] ot).2, ()) : TLit) = NL
 have hOl : ((apC τ c).set n NL).length ≤ 8 := by rw [List.length_set]; omega
 have hOk : ∀ x ∈ (apC τ c).set n NL, litOK s.1 x = true := by
  intro x hx
  rcases List.mem_or_eq_of_mem_set hx with hx | rfl
  ·exact kc' x hx
  ·rw [← hNL]; exact zaN.2 ⟨kI.2, kJ.2⟩
 have limO : ∀ x ∈ (apC τ c).set n NL, x.2.1.length ≤ 1000 ∧ x.2.2.1.length ≤ 1000 := fun x hx => by have := zdc (hOk x hx); omega
 have inO := zrC _ (by omega) limO
 have outS := (ziJ _ (by omega) limO).2
 have cin := zd hI'
 have cjn := zd hJ'
 obtain ⟨z1, _⟩ := ziF (apC τ c)[n] sc
 obtain ⟨z2, _⟩ := ziF (apC τ c)[m] ot
 rw [sdI] at z1
 rw [sdJ] at z2
 simp only at z1 z2
 have li := zp.1 tI.1
 have ri := zp.1 tI.2
 have rj := zp.1 tJ.2
 have lS := zdL _ _ (zcS τ) lτ (sd c[n] sc).1 (by omega) (za5 tI.1).2
 have rS := zdL _ _ (zcS τ) lτ (sd c[n] sc).2 (by omega) (za5 tI.2).2
 have r2S := zdL _ _ (zcS τ) lτ (sd c[m] ot).2 (by omega) (za5 tJ.2).2
 have ow := zzE (apC τ c) (by omega) (zuw hτ c2)
 have hget : (apC τ c)[n]? = some (apC τ c)[n] := List.getElem?_eq_getElem hI'
 refine ⟨((outC ((apC τ c).set n NL), (if (ovr (apS τ (sd c[n] sc).1) (apS τ (sd c[n] sc).2) && x1) = true then 0 else 5), ()), ()), zc8 _ _ _ ?_, ze8 _ _ _ ?_, zpl hOl hOk⟩
 ·simp only [zbM, hl, hl2, si, so, q5, q6, hci, hcj, zm, sI1, sJ1, za, u1, h9, ht, acI, cin, cjn, z1, z2, hget, b1.1, hNL, Int.toNat_natCast, m1, inO, Option.bind_some, Bool.not_true, Bool.not_not, Bool.false_eq_true, if_false, if_true, beq_self_eq_true]
  rw [if_pos (by omega), if_pos (by omega)]
  cases ovr (apS τ (sd c[n] sc).1) (apS τ (sd c[n] sc).2) <;> cases x1 <;> rfl
 ·simp only [zcC, lc, ld, q5, q6, hci, hcj, q1, q2, zm, sI2t, sJ2t, za, u2, h9, ht, acS, ccb, ow, lS, rS, r2S, hget, b1.2, hNL, Int.toNat_natCast, m1', outS, Option.bind_some, Bool.not_true, Bool.false_eq_true, if_false, if_true]
  rw [if_pos (by omega)]
  cases ovr (apS τ (sd c[n] sc).1) (apS τ (sd c[n] sc).2) <;> cases x1 <;> rfl
end Go.Proofs.YtkgpnekonnopgaaGreatIr.Ev
namespace Go.Proofs.YtkgpnekonnopgaaGreatIr.Ev
open Go
set_option autoImplicit false
set_option linter.unusedVariables false
set_option linter.unusedSimpArgs false
theorem zvA (a : List Int) (ha : a.length ≤ 17592186044416) : ∀ k i : Nat, i + k = a.length → ∀ o : List Int, o.length = a.length → zf4 M a o i = some (.inl (o.take i ++ a.drop i, ())) := by
 intro k
 induction k with
 | zero =>
  intro i hi o ho
  obtain rfl : i = a.length := by omega
  apply zng
  simp only [zhx, Int.lt_irrefl, decide_false, Bool.false_eq_true, if_false, List.drop_length, List.append_nil]
  rw [← ho, List.take_length]
 | succ k ih =>
  intro i hi o ho
  apply zng
  have h1 : i < a.length := by omega
  have h2 : i < o.length := by omega
  simp only [zhx]
  rw [if_pos (by simpa using h1), zd h1, zb (by omega)]
  simp only [Option.bind_some]
  rw [if_pos (by omega)]
  simp only [Option.bind_some, Int.toNat_natCast, List.getElem?_eq_getElem h2]
  rw [ih (i + 1) (by omega) _ (by simpa using ho)]
  rw [List.take_set, List.take_succ_eq_append_getElem h2, List.set_append_right _ _ (by simp; omega), List.drop_eq_getElem_cons h1]
  simp [Nat.min_eq_left (Nat.le_of_lt h2)]
theorem zob (a : List Int) (ha : a.length ≤ 17592186044416) : zdZ M a = some ((a, ()), ()) := by
 apply zvz
 simp only [zm2]
 rw [if_pos (by refine ⟨by omega, by omega, trivial⟩)]
 have := zvA a ha a.length 0 (by omega) (List.replicate a.length 0) (by simp)
 simp only [Int.toNat_natCast]
 rw [show ((0 : Nat) : Int) = 0 from rfl] at this
 rw [this]
 simp
theorem zvn (a : List Int) (ha : a.length ≤ 17592186044416) : ∀ k i : Nat, i + k = a.length → zgg M a a i = some (.inl ()) := by
 intro k
 induction k with
 | zero =>
  intro i hi
  obtain rfl : i = a.length := by omega
  apply znl
  simp only [zhv, Int.lt_irrefl, decide_false, Bool.false_eq_true, if_false]
 | succ k ih =>
  intro i hi
  apply znl
  have h1 : i < a.length := by omega
  simp only [zhv]
  rw [if_pos (by simpa using h1), zd h1, zb (by omega)]
  simp only [Option.bind_some, bne_self_eq_false, Bool.false_eq_true, if_false]
  exact ih (i + 1) (by omega)
theorem znD (a : List Int) (ha : a.length ≤ 17592186044416) : zdY M a a = some ((true, ()), ()) := by
 apply zvi
 simp only [zm7, bne_self_eq_false, Bool.false_eq_true, if_false]
 have := zvn a ha a.length 0 (by omega)
 rw [show ((0 : Nat) : Int) = 0 from rfl] at this
 rw [this]
 rfl
theorem zjh (a : List Int) (n : Int) (hn : 0 ≤ n) (hn' : n ≤ 1048576) (ha : a.length ≤ 9223372036854775807) : zd0 M a n = some ((if n - a.length < 0 then -1 else n - a.length, ()), ()) := by
 apply zvj
 simp only [zm5, decide_eq_true_eq]
 rw [w64 (by omega) (by omega)]
 split <;> rfl
theorem zAH (s : TSign) (n : Int) (hn : 0 ≤ n) (hn' : n ≤ 1048576) (ha : s.1.length ≤ 9223372036854775807) : ∃ r : Int, zkb M s n = some ((r, ()), ()) ∧ r ≤ n ∧ (0 ≤ r → s.1.length ≤ 1048576) := by
 refine ⟨if n - s.1.length < 0 then -1 else n - s.1.length, ?_, by split <;> omega, by split <;> omega⟩
 apply zvG
 simp only [zmY, zjh s.1 n hn hn' ha, Option.bind_some, decide_eq_true_eq]
 by_cases h : n - (s.1.length : Int) < 0
 ·simp [h]
 ·simp [h]
theorem zAk (s : TSign) (ha : s.1.length ≤ 17592186044416) : zgB M s = some ((s, ()), ()) := by
 apply zvH
 simp only [zmO, zob s.1 ha, Option.bind_some]
theorem zzD (s : TSign) (ha : s.1.length ≤ 17592186044416) : zkq M s s = some ((true, ()), ()) := by
 apply zu5
 simp only [zm4, znD s.1 ha, Option.bind_some, Bool.not_true, Bool.false_eq_true, if_false]
end Go.Proofs.YtkgpnekonnopgaaGreatIr.Ev
namespace Go.Proofs.YtkgpnekonnopgaaGreatIr.Ev
open Go
set_option autoImplicit false
set_option linter.unusedVariables false
set_option linter.unusedSimpArgs false
theorem zBg (x : TLit) (h : smL x) : zlk M x x = some ((true, ()), ()) := by
 apply zvU
 simp only [znN, znD x.2.1 (by have := h.1; omega), znD x.2.2.1 (by have := h.2; omega), Option.bind_some]
 simp
theorem zvt (a : List TLit) (ha : a.length ≤ 1048576) (hx : ∀ x ∈ a, smL x) : ∀ k i : Nat, i + k = a.length → zf1 M a a i = some (.inl ()) := by
 intro k
 induction k with
 | zero =>
  intro i hi
  obtain rfl : i = a.length := by omega
  apply znf
  simp only [zhw, Int.lt_irrefl, decide_false, Bool.false_eq_true, if_false]
 | succ k ih =>
  intro i hi
  apply znf
  have h1 : i < a.length := by omega
  simp only [zhw]
  rw [if_pos (by simpa using h1), zd h1, zb (by omega)]
  simp only [Option.bind_some, zm, zBg a[i] (hx _ (List.getElem_mem h1)), Bool.not_true, Bool.false_eq_true, if_false]
  exact ih (i + 1) (by omega)
theorem zv7 (a : List TLit) (ha : a.length ≤ 1048576) (hx : ∀ x ∈ a, smL x) : ziy M a a = some ((true, ()), ()) := by
 apply zvv
 simp only [zmX, bne_self_eq_false, Bool.false_eq_true, if_false]
 have := zvt a ha hx a.length 0 (by omega)
 rw [show ((0 : Nat) : Int) = 0 from rfl] at this
 rw [this]
 rfl
end Go.Proofs.YtkgpnekonnopgaaGreatIr.Ev
namespace Go.Proofs.YtkgpnekonnopgaaGreatIr.Ev
open Go
set_option autoImplicit false
set_option linter.unusedVariables false
set_option linter.unusedSimpArgs false
theorem zBp (x : TLit) (h : smL x) : zlj M x = some ((x, ()), ()) := by
 apply zvR
 simp only [znM, zob x.2.1 (by have := h.1; omega), zob x.2.2.1 (by have := h.2; omega), Option.bind_some]
theorem zvw (a : List TLit) (ha : a.length ≤ 1048576) (hx : ∀ x ∈ a, smL x) : ∀ k i : Nat, i + k = a.length → ∀ o : List TLit, o.length = a.length → zf6 M a o i = some (.inl (o.take i ++ a.drop i, ())) := by
 intro k
 induction k with
 | zero =>
  intro i hi o ho
  obtain rfl : i = a.length := by omega
  apply znn
  simp only [zhD, Int.lt_irrefl, decide_false, Bool.false_eq_true, if_false, List.drop_length, List.append_nil]
  rw [← ho, List.take_length]
 | succ k ih =>
  intro i hi o ho
  apply znn
  have h1 : i < a.length := by omega
  have h2 : i < o.length := by omega
  simp only [zhD]
  rw [if_pos (by simpa using h1), zd h1, zb (by omega)]
  simp only [Option.bind_some, zm, zBp a[i] (hx _ (List.getElem_mem h1))]
  rw [if_pos (by omega)]
  simp only [Option.bind_some, Int.toNat_natCast, List.getElem?_eq_getElem h2]
  rw [ih (i + 1) (by omega) _ (by simpa using ho)]
  rw [List.take_set, List.take_succ_eq_append_getElem h2, List.set_append_right _ _ (by simp; omega), List.drop_eq_getElem_cons h1]
  simp [Nat.min_eq_left (Nat.le_of_lt h2)]
theorem zwV (a : List TLit) (ha : a.length ≤ 1048576) (hx : ∀ x ∈ a, smL x) : ziu M a = some ((a, ()), ()) := by
 apply zu3
 simp only [zmW]
 rw [if_pos (by refine ⟨by omega, by omega, trivial⟩)]
 have := zvw a ha hx a.length 0 (by omega) (List.replicate a.length (false, [], [], ())) (by simp)
 simp only [Int.toNat_natCast]
 rw [show ((0 : Nat) : Int) = 0 from rfl] at this
 rw [this]
 simp
def wlL (x : TLit) : Prop := x.2.1.length ≤ 9223372036854775807 ∧ x.2.2.1.length ≤ 9223372036854775807
theorem zBx (x : TLit) (n : Int) (hn : 0 ≤ n) (hn' : n ≤ 1048576) (hx : wlL x) : ∃ r : Int, zk5 M x n = some ((r, ()), ()) ∧ r ≤ n ∧ (0 ≤ r → smL x) := by
 by_cases h1 : n - x.2.1.length < 0
 ·refine ⟨-1, zn3 _ _ ?_, by omega, by omega⟩
  simp only [zjp, zjh x.2.1 n hn hn' hx.1, Option.bind_some, if_pos h1]
  rfl
 ·by_cases h2 : n - x.2.1.length - x.2.2.1.length < 0
  ·refine ⟨-1, zn3 _ _ ?_, by omega, by omega⟩
   simp only [zjp, zjh x.2.1 n hn hn' hx.1, Option.bind_some, if_neg h1, decide_eq_true_eq, zjh x.2.2.1 (n - x.2.1.length) (by omega) (by omega) hx.2, if_pos h2]
   rfl
  ·refine ⟨n - x.2.1.length - x.2.2.1.length, zn3 _ _ ?_, by omega, fun _ => ⟨by omega, by omega⟩⟩
   simp only [zjp, zjh x.2.1 n hn hn' hx.1, Option.bind_some, if_neg h1, decide_eq_true_eq, zjh x.2.2.1 (n - x.2.1.length) (by omega) (by omega) hx.2, if_neg h2]
theorem zva (a : List TLit) (ha : a.length ≤ 1048576) (hx : ∀ x ∈ a, wlL x) : ∀ (k i : Nat) (n : Int), i + k = a.length → 0 ≤ n → n ≤ 1048576 → (∀ x ∈ a.take i, smL x) →
  ∃ r, zfr M a n i = some r ∧ (match r with | .inl y => 0 ≤ y.1 ∧ y.1 ≤ n ∧ ∀ x ∈ a, smL x | .inr y => y.1.1 = -1) := by
 intro k
 induction k with
 | zero =>
  intro i n hi h0 hn hs
  obtain rfl : i = a.length := by omega
  refine ⟨.inl (n, ()), zjl _ _ _ (by simp [zeN]), h0, Int.le_refl _, by simpa using hs⟩
 | succ k ih =>
  intro i n hi h0 hn hs
  have h1 : i < a.length := by omega
  obtain ⟨m, hm, hm1, hm2⟩ := zBx a[i] n h0 hn (hx _ (List.getElem_mem h1))
  by_cases hneg : m < 0
  ·refine ⟨.inr ((-1, ()), ()), zjl _ _ _ ?_, rfl⟩
   simp only [zeN]
   rw [if_pos (by simpa using h1), zd h1]
   simp only [Option.bind_some, zm, hm]
   rw [if_pos (by simpa using hneg)]
  ·obtain ⟨r, hr, hp⟩ := ih (i + 1) m (by omega) (by omega) (by omega) (by
    intro x hx'
    rw [List.take_succ_eq_append_getElem h1] at hx'
    rcases List.mem_append.1 hx' with h | h
    ·exact hs x h
    ·rw [List.mem_singleton.1 h]; exact hm2 (by omega))
   refine ⟨r, zjl _ _ _ ?_, ?_⟩
   ·simp only [zeN]
    rw [if_pos (by simpa using h1), zd h1, zb (by omega)]
    simp only [Option.bind_some, zm, hm]
    rw [if_neg (by simpa using hneg)]
    exact hr
   ·cases r with
    | inl y => exact ⟨hp.1, by have := hp.2.1; omega, hp.2.2⟩
    | inr y => exact hp
theorem zwz (a : List TLit) (n : Int) (hn : 0 ≤ n) (hn' : n ≤ 1048576) (ha : a.length ≤ 9223372036854775807) (hx : ∀ x ∈ a, wlL x) : ∃ r : Int, ziD M a n = some ((r, ()), ()) ∧ r ≤ n ∧ (0 ≤ r → a.length ≤ 1048576 ∧ ∀ x ∈ a, smL x) := by
 have hw : IntKind.i64.wrap (n - a.length) = n - a.length := w64 (by omega) (by omega)
 by_cases h1 : n - a.length < 0
 ·refine ⟨-1, zmI _ _ ?_, by omega, by omega⟩
  simp only [ziC, hw]
  rw [if_pos (by simpa using h1)]
 ·obtain ⟨r, hr, hp⟩ := zva a (by omega) hx a.length 0 (n - a.length) (by omega) (by omega) (by omega) (by simp)
  rw [show ((0 : Nat) : Int) = 0 from rfl] at hr
  cases r with
  | inl y =>
   refine ⟨y.1, zmI _ _ ?_, by have := hp.2.1; omega, fun _ => ⟨by omega, hp.2.2⟩⟩
   simp only [ziC, hw]
   rw [if_neg (by simpa using h1), hr]
   rfl
  | inr y =>
   obtain ⟨⟨y, _⟩, _⟩ := y
   simp only at hp
   subst hp
   refine ⟨-1, zmI _ _ ?_, by omega, by omega⟩
   simp only [ziC, hw]
   rw [if_neg (by simpa using h1), hr]
   rfl
end Go.Proofs.YtkgpnekonnopgaaGreatIr.Ev
namespace Go.Proofs.YtkgpnekonnopgaaGreatIr.Ev
open Go
set_option autoImplicit false
set_option linter.unusedVariables false
set_option linter.unusedSimpArgs false
abbrev TStep := Int × List Int × List Int × List TLit × Unit
def smP (x : TStep) : Prop := x.2.1.length ≤ 1048576 ∧ x.2.2.1.length ≤ 1048576 ∧ x.2.2.2.1.length ≤ 1048576 ∧ ∀ l ∈ x.2.2.2.1, smL l
def wlP (x : TStep) : Prop := x.2.1.length ≤ 9223372036854775807 ∧ x.2.2.1.length ≤ 9223372036854775807 ∧ x.2.2.2.1.length ≤ 9223372036854775807 ∧ ∀ l ∈ x.2.2.2.1, wlL l
theorem zhg (x : TStep) : (x.1, x.2.1, x.2.2.1, x.2.2.2.1, ()) = x := rfl
theorem zz0 (x : TStep) (h : smP x) : zkh M x = some ((x, ()), ()) := by
 apply zvm
 simp only [zmF, zob x.2.1 (by have := h.1; omega), zob x.2.2.1 (by have := h.2.1; omega), zwV x.2.2.2.1 h.2.2.1 h.2.2.2, Option.bind_some]
theorem zAA (x : TStep) (h : smP x) : zkr M x x = some ((true, ()), ()) := by
 apply zu6
 simp only [zm0, znD x.2.1 (by have := h.1; omega), znD x.2.2.1 (by have := h.2.1; omega), zv7 x.2.2.2.1 h.2.2.1 h.2.2.2, Option.bind_some]
 simp
theorem zAF (x : TStep) (n : Int) (hn : 0 ≤ n) (hn' : n ≤ 1048576) (hx : wlP x) : ∃ r : Int, zkm M x n = some ((r, ()), ()) ∧ r ≤ n ∧ (0 ≤ r → smP x) := by
 have e1 := zjh x.2.1 n hn hn' hx.1
 generalize hr1 : (if n - (x.2.1.length : Int) < 0 then -1 else n - x.2.1.length : Int) = r1 at e1
 have f1 : r1 ≤ n ∧ (0 ≤ r1 → x.2.1.length ≤ 1048576) := by
  split at hr1 <;> omega
 by_cases h1 : r1 < 0
 ·refine ⟨-1, zj9 _ _ ?_, by omega, by omega⟩
  simp only [zgH, e1, Option.bind_some]
  rw [if_pos (by simpa using h1)]
 ·have e2 := zjh x.2.2.1 r1 (by omega) (by omega) hx.2.1
  generalize hr2 : (if r1 - (x.2.2.1.length : Int) < 0 then -1 else r1 - x.2.2.1.length : Int) = r2 at e2
  have f2 : r2 ≤ n ∧ (0 ≤ r2 → x.2.2.1.length ≤ 1048576) := by
   split at hr2 <;> omega
  by_cases h2 : r2 < 0
  ·refine ⟨-1, zj9 _ _ ?_, by omega, by omega⟩
   simp only [zgH, e1, e2, Option.bind_some]
   rw [if_neg (by simpa using h1), if_pos (by simpa using h2)]
  ·obtain ⟨r3, e3, g3, k3⟩ := zwz x.2.2.2.1 r2 (by omega) (by omega) hx.2.2.1 hx.2.2.2
   by_cases h3 : r3 < 0
   ·refine ⟨-1, zj9 _ _ ?_, by omega, by omega⟩
    simp only [zgH, e1, e2, e3, Option.bind_some]
    rw [if_neg (by simpa using h1), if_neg (by simpa using h2), if_pos (by simpa using h3)]
   ·refine ⟨r3, zj9 _ _ ?_, by omega, fun _ => ⟨f1.2 (by omega), f2.2 (by omega), (k3 (by omega)).1, (k3 (by omega)).2⟩⟩
    simp only [zgH, e1, e2, e3, Option.bind_some]
    rw [if_neg (by simpa using h1), if_neg (by simpa using h2), if_neg (by simpa using h3)]
end Go.Proofs.YtkgpnekonnopgaaGreatIr.Ev
namespace Go.Proofs.YtkgpnekonnopgaaGreatIr.Ev
open Go
set_option autoImplicit false
set_option linter.unusedVariables false
set_option linter.unusedSimpArgs false
def gtC (steps : List TStep) (k : Int) : List TLit := match idx steps k with
 | some x => x.2.2.2.1
 | none => []
theorem zwj {steps : List TStep} {k : Nat} (h : k < steps.length) : gtC steps (k : Int) = steps[k].2.2.2.1 := by
 unfold gtC; rw [zd h]
theorem ztk {α : Type} {xs : List α} {k : Int} (h0 : 0 ≤ k) (h1 : k < (xs.length : Int)) : ∃ n : Nat, k = (n : Int) ∧ n < xs.length := ⟨k.toNat, by omega, by omega⟩
section
variable (s : TSign) (hg : gS s.1 = true) (inputs : List (List TLit)) (hi : inputs.length ≤ 1048576) (hic : ∀ c ∈ inputs, clOK s.1 c = true) (steps : List TStep) (hs : steps.length ≤ 1048576) (hsc : ∀ x ∈ steps, clOK s.1 x.2.2.2.1 = true) (ps way : List Int) (hp : ps.length ≤ 1048576) (hw : way.length ≤ 1048576) (hps : ∀ k ∈ ps, 0 ≤ k ∧ k < (steps.length : Int))
theorem ze5 (a b : Int) : zcg M a b ps way = some (((((ps.length : Int) == a) && ((way.length : Int) == b)), ()), ()) := by
 apply zrz
 simp only [zja]
 cases ((ps.length : Int) == a) <;> rfl
include hps in
theorem znA (i : Nat) (h : i < ps.length) : zad M (i : Int) steps ps = some ((gtC steps ps[i], ()), ()) := by
 obtain ⟨h0, h1⟩ := hps _ (List.getElem_mem h)
 obtain ⟨n, e, hn⟩ := ztk h0 h1
 apply zqJ
 simp only [zjd, zd h, Option.bind_some, e, zd hn, zwj hn]
include hps hs hp in
theorem zlT (rule : Int) : ∀ (k i : Nat) (o : List (List TLit)), i + k = ps.length → o.length ≤ i → zgc M inputs steps rule way s o ps ps.length i = some (.inl (inputs, rule, way, s, o ++ (ps.drop i).map (gtC steps), ())) := by
 intro k
 induction k with
 | zero =>
  intro i o hi ho
  obtain rfl : i = ps.length := by omega
  apply zni
  simp only [zhH, za]
  rw [if_neg (by simp), List.drop_length]
  simp
 | succ k ih =>
  intro i o hi ho
  have h : i < ps.length := by omega
  obtain ⟨h0, h1⟩ := hps _ (List.getElem_mem h)
  obtain ⟨n, e, hn⟩ := ztk h0 h1
  have hin : zaL M (n : Int) 0 (IntKind.i64.wrap ((steps.length : Int) - 1)) = some ((true, ()), ()) := by
   rw [w64 (by omega) (by omega), zdA, decide_eq_true (by omega), decide_eq_true (by omega)]; rfl
  apply zni
  simp only [zhH, za]
  rw [if_pos (by simpa using h), zd h]
  simp only [Option.bind_some, e, hin, zd hn, Bool.not_true, Bool.false_eq_true, if_false]
  rw [if_pos (by simp; omega), zb (by omega), ih (i + 1) _ (by omega) (by simp; omega), List.drop_eq_getElem_cons h, List.map_cons, e, zwj hn, List.append_assoc]
  rfl
include hsc hps in
theorem zn7 (i : Nat) (h : i < ps.length) : clOK s.1 (gtC steps ps[i]) = true := by
 obtain ⟨h0, h1⟩ := hps _ (List.getElem_mem h)
 obtain ⟨n, e, hn⟩ := ztk h0 h1
 rw [e, zwj hn]
 exact hsc _ (List.getElem_mem hn)
def okMade (rule : Int) : Prop := ∃ (ok : Bool) (C1 C2 : List TLit), zh4 M s inputs steps rule ps way = some ((C1, ok, ()), ()) ∧ zkj M s inputs steps rule ps way = some ((C2, ok, ()), ()) ∧ (ok = true → C1 = C2 ∧ clOK s.1 C1 = true)
theorem zp1 (c : List TLit) (n : Int) : zfb M c n = some ((c, ((n == 0) || (n == 5)), ()), ()) := by
 apply ztd
 simp only [zlc]
 cases (n == 0) <;> rfl
include hg hi hic hs hps hp
omit hg in
theorem zzS : okMade s inputs steps ps way 1 := by
 have L := zlT s inputs steps hs ps way hp hps 1 ps.length 0 [] (by omega) (by simp)
 rw [show ((0 : Nat) : Int) = 0 from rfl, List.drop_zero, List.nil_append] at L
 have hl : (((ps.map (gtC steps)).length : Nat) : Int) = (ps.length : Int) := by simp
 cases hA : ((ps.length : Int) == 0) with
 | false =>
  refine ⟨false, [], [], zK _ _ _ _ _ _ ?_, zah _ _ _ _ _ _ ?_, fun h => by cases h⟩
  ·simp only [zB, ze5, hA, Option.bind_some]; rfl
  ·simp only [z5, za, L, hl, hA, Option.bind_some, Sum.elim_inl]; rfl
 | true =>
 cases hB : ((way.length : Int) == 1) with
 | false =>
  refine ⟨false, [], [], zK _ _ _ _ _ _ ?_, zah _ _ _ _ _ _ ?_, fun h => by cases h⟩
  ·simp only [zB, ze5, hA, hB, Option.bind_some]; rfl
  ·simp only [z5, za, L, hl, hA, hB, Option.bind_some, Sum.elim_inl]; rfl
 | true =>
 have hw1 : 0 < way.length := by
  have : (way.length : Int) = 1 := by simpa using hB
  omega
 obtain ⟨w, hx⟩ : ∃ w : Int, idx way 0 = some w := ⟨_, zd hw1⟩
 have hin : zaL M w 0 (IntKind.i64.wrap ((inputs.length : Int) - 1)) = some ((decide ((0 : Int) ≤ w) && decide (w ≤ (inputs.length : Int) - 1), ()), ()) := by rw [w64 (by omega) (by omega), zdA]
 by_cases h0 : 0 ≤ w
 ·by_cases h1 : w < (inputs.length : Int)
  ·obtain ⟨n, e, hn⟩ := ztk h0 h1
   rw [decide_eq_true h0, decide_eq_true (by omega)] at hin
   have hc := hic _ (List.getElem_mem hn)
   obtain ⟨c1, c2⟩ := zco.1 hc
   obtain ⟨o1, o2⟩ := ziJ inputs[n] (by omega) (fun x hx => by have := zdc (c2 x hx); omega)
   refine ⟨true, _, _, zK _ _ _ _ _ _ ?_, zah _ _ _ _ _ _ ?_, fun _ => ⟨rfl, zpl c1 c2⟩⟩
   ·simp only [zB, ze5, hA, hB, hx, Option.bind_some]
    simp only [decide_eq_true (show w ≥ 0 from h0), decide_eq_true h1, Bool.and_self, if_true, Option.bind_some, Sum.elim_inl, hx, beq_self_eq_true]
    simp only [e, zd hn, o1, Option.bind_some]
    rfl
   ·simp only [z5, za, L, hl, hA, hB, hx, hin, Option.bind_some, Sum.elim_inl, beq_self_eq_true, if_true, Bool.and_self]
    simp only [e, zd hn, o2, Option.bind_some]
    rfl
  ·rw [decide_eq_true h0, decide_eq_false (by omega)] at hin
   refine ⟨false, [], [], zK _ _ _ _ _ _ ?_, zah _ _ _ _ _ _ ?_, fun h => by cases h⟩
   ·simp only [zB, ze5, hA, hB, hx, Option.bind_some]
    simp only [decide_eq_true (show w ≥ 0 from h0), decide_eq_false h1, Bool.and_self, if_true, Option.bind_some, Sum.elim_inl, hx, beq_self_eq_true]
    rfl
   ·simp only [z5, za, L, hl, hA, hB, hx, hin, Option.bind_some, Sum.elim_inl]; rfl
 ·rw [decide_eq_false h0] at hin
  refine ⟨false, [], [], zK _ _ _ _ _ _ ?_, zah _ _ _ _ _ _ ?_, fun h => by cases h⟩
  ·simp only [zB, ze5, hA, hB, hx, Option.bind_some]
   simp only [decide_eq_false (show ¬ w ≥ 0 from h0), Bool.and_self, if_true, Option.bind_some, Sum.elim_inl, beq_self_eq_true]
   rfl
  ·simp only [z5, za, L, hl, hA, hB, hx, hin, Option.bind_some, Sum.elim_inl]; rfl
include hsc
omit hi hic
theorem zzX : okMade s inputs steps ps way 2 := by
 have L := zlT s inputs steps hs ps way hp hps 2 ps.length 0 [] (by omega) (by simp)
 rw [show ((0 : Nat) : Int) = 0 from rfl, List.drop_zero, List.nil_append] at L
 have hl : (((ps.map (gtC steps)).length : Nat) : Int) = (ps.length : Int) := by simp
 have d1 : ((2 : Int) == 1) = false := rfl
 have d2 : ((2 : Int) == 2) = true := rfl
 have d3 : ((2 : Int) == 3) = false := rfl
 have d4 : ((2 : Int) == 4) = false := rfl
 have d5 : ((2 : Int) == 5) = false := rfl
 cases hA : ((ps.length : Int) == 2) with
 | false =>
  refine ⟨false, [], [], zK _ _ _ _ _ _ ?_, zah _ _ _ _ _ _ ?_, fun h => by cases h⟩
  ·simp only [zB, ze5, hA, Option.bind_some]; rfl
  ·simp only [z5, za, L, hl, hA, d1, d2, d3, d4, d5, Option.bind_some, Sum.elim_inl, if_true, Bool.false_eq_true, if_false]; rfl
 | true =>
 cases hB : ((way.length : Int) == 5) with
 | false =>
  refine ⟨false, [], [], zK _ _ _ _ _ _ ?_, zah _ _ _ _ _ _ ?_, fun h => by cases h⟩
  ·simp only [zB, ze5, hA, hB, Option.bind_some]; rfl
  ·simp only [z5, za, L, hl, hA, hB, d1, d2, d3, d4, d5, Option.bind_some, Sum.elim_inl, if_true, Bool.false_eq_true, if_false]; rfl
 | true =>
 obtain ⟨a, b, rfl⟩ : ∃ a b, ps = [a, b] := by
  have : ps.length = 2 := by have : (ps.length : Int) = 2 := (by simpa using hA); omega
  match ps, this with
  | [a, b], _ => exact ⟨a, b, rfl⟩
 obtain ⟨w0, w1, w2, w3, w4, rfl⟩ : ∃ w0 w1 w2 w3 w4, way = [w0, w1, w2, w3, w4] := by
  have : way.length = 5 := by have : (way.length : Int) = 5 := (by simpa using hB); omega
  match way, this with
  | [w0, w1, w2, w3, w4], _ => exact ⟨w0, w1, w2, w3, w4, rfl⟩
 have m0 : zad M 0 steps [a, b] = some ((gtC steps a, ()), ()) := znA steps [a, b] hps 0 (by simp)
 have k0 : clOK s.1 (gtC steps a) = true := zn7 s steps hsc [a, b] hps 0 (by simp)
 have m1 : zad M 1 steps [a, b] = some ((gtC steps b, ()), ()) := znA steps [a, b] hps 1 (by simp)
 have k1 : clOK s.1 (gtC steps b) = true := zn7 s steps hsc [a, b] hps 1 (by simp)
 have i0 : idx [w0, w1, w2, w3, w4] 0 = some w0 := rfl
 have i1 : idx [w0, w1, w2, w3, w4] 1 = some w1 := rfl
 have i2 : idx [w0, w1, w2, w3, w4] 2 = some w2 := rfl
 have i3 : idx [w0, w1, w2, w3, w4] 3 = some w3 := rfl
 have i4 : idx [w0, w1, w2, w3, w4] 4 = some w4 := rfl
 rw [show List.map (gtC steps) [a, b] = [gtC steps a, gtC steps b] from rfl] at L hl
 obtain ⟨r, r1, r2, r3⟩ := zzN s hg (gtC steps a) (gtC steps b) k0 k1 w0 w1 w2 w3 w4
 have g0 : 0 ≤ (0 : Int) ∧ (0 : Int) < (([a, b].length : Nat) : Int) := ⟨by simp, by simp⟩
 have j0 : [gtC steps a, gtC steps b][(0 : Int).toNat]? = some (gtC steps a) := rfl
 have g1 : 0 ≤ (1 : Int) ∧ (1 : Int) < (([a, b].length : Nat) : Int) := ⟨by simp, by simp⟩
 have j1 : [gtC steps a, gtC steps b][(1 : Int).toNat]? = some (gtC steps b) := rfl
 refine ⟨((r.1.2.1 == 0) || (r.1.2.1 == 5)), r.1.1, r.1.1, zK _ _ _ _ _ _ ?_, zah _ _ _ _ _ _ ?_, fun _ => ⟨rfl, r3⟩⟩
 ·simp only [zB, ze5, hA, hB, d1, d2, d3, d4, d5, m0, m1, i0, i1, i2, i3, i4, za, r1, zp1, Option.bind_some, Bool.and_self, if_true, Bool.false_eq_true, if_false]
  rfl
 ·simp only [z5, za, L, hl, hA, hB, d1, d2, d3, d4, d5, Option.bind_some, Sum.elim_inl, if_true, Bool.false_eq_true, if_false]
  rw [if_pos g0]
  simp only [j0, Option.bind_some]
  rw [if_pos g1]
  simp only [j1, Option.bind_some]
  simp only [i0, i1, i2, i3, i4, r2, Option.bind_some, Sum.elim_inl]
  cases (r.1.2.1 == 0) <;> rfl
theorem zx8 : okMade s inputs steps ps way 3 := by
 have L := zlT s inputs steps hs ps way hp hps 3 ps.length 0 [] (by omega) (by simp)
 rw [show ((0 : Nat) : Int) = 0 from rfl, List.drop_zero, List.nil_append] at L
 have hl : (((ps.map (gtC steps)).length : Nat) : Int) = (ps.length : Int) := by simp
 have d1 : ((3 : Int) == 1) = false := rfl
 have d2 : ((3 : Int) == 2) = false := rfl
 have d3 : ((3 : Int) == 3) = true := rfl
 have d4 : ((3 : Int) == 4) = false := rfl
 have d5 : ((3 : Int) == 5) = false := rfl
 cases hA : ((ps.length : Int) == 1) with
 | false =>
  refine ⟨false, [], [], zK _ _ _ _ _ _ ?_, zah _ _ _ _ _ _ ?_, fun h => by cases h⟩
  ·simp only [zB, ze5, hA, Option.bind_some]; rfl
  ·simp only [z5, za, L, hl, hA, d1, d2, d3, d4, d5, Option.bind_some, Sum.elim_inl, if_true, Bool.false_eq_true, if_false]; rfl
 | true =>
 cases hB : ((way.length : Int) == 1) with
 | false =>
  refine ⟨false, [], [], zK _ _ _ _ _ _ ?_, zah _ _ _ _ _ _ ?_, fun h => by cases h⟩
  ·simp only [zB, ze5, hA, hB, Option.bind_some]; rfl
  ·simp only [z5, za, L, hl, hA, hB, d1, d2, d3, d4, d5, Option.bind_some, Sum.elim_inl, if_true, Bool.false_eq_true, if_false]; rfl
 | true =>
 obtain ⟨a, rfl⟩ : ∃ a, ps = [a] := by
  have : ps.length = 1 := by have : (ps.length : Int) = 1 := (by simpa using hA); omega
  match ps, this with
  | [a], _ => exact ⟨a, rfl⟩
 obtain ⟨w0, rfl⟩ : ∃ w0, way = [w0] := by
  have : way.length = 1 := by have : (way.length : Int) = 1 := (by simpa using hB); omega
  match way, this with
  | [w0], _ => exact ⟨w0, rfl⟩
 have m0 : zad M 0 steps [a] = some ((gtC steps a, ()), ()) := znA steps [a] hps 0 (by simp)
 have k0 : clOK s.1 (gtC steps a) = true := zn7 s steps hsc [a] hps 0 (by simp)
 have i0 : idx [w0] 0 = some w0 := rfl
 rw [show List.map (gtC steps) [a] = [gtC steps a] from rfl] at L hl
 obtain ⟨r, r1, r2, r3⟩ := zy5 s hg (gtC steps a) k0 w0
 have g0 : 0 ≤ (0 : Int) ∧ (0 : Int) < (([a].length : Nat) : Int) := ⟨by simp, by simp⟩
 have j0 : [gtC steps a][(0 : Int).toNat]? = some (gtC steps a) := rfl
 refine ⟨((r.1.2.1 == 0) || (r.1.2.1 == 5)), r.1.1, r.1.1, zK _ _ _ _ _ _ ?_, zah _ _ _ _ _ _ ?_, fun _ => ⟨rfl, r3⟩⟩
 ·simp only [zB, ze5, hA, hB, d1, d2, d3, d4, d5, m0, i0, za, r1, zp1, Option.bind_some, Bool.and_self, if_true, Bool.false_eq_true, if_false]
  rfl
 ·simp only [z5, za, L, hl, hA, hB, d1, d2, d3, d4, d5, Option.bind_some, Sum.elim_inl, if_true, Bool.false_eq_true, if_false]
  rw [if_pos g0]
  simp only [j0, Option.bind_some]
  simp only [i0, r2, Option.bind_some, Sum.elim_inl]
  cases (r.1.2.1 == 0) <;> rfl
theorem zyD : okMade s inputs steps ps way 4 := by
 have L := zlT s inputs steps hs ps way hp hps 4 ps.length 0 [] (by omega) (by simp)
 rw [show ((0 : Nat) : Int) = 0 from rfl, List.drop_zero, List.nil_append] at L
 have hl : (((ps.map (gtC steps)).length : Nat) : Int) = (ps.length : Int) := by simp
 have d1 : ((4 : Int) == 1) = false := rfl
 have d2 : ((4 : Int) == 2) = false := rfl
 have d3 : ((4 : Int) == 3) = false := rfl
 have d4 : ((4 : Int) == 4) = true := rfl
 have d5 : ((4 : Int) == 5) = false := rfl
 cases hA : ((ps.length : Int) == 1) with
 | false =>
  refine ⟨false, [], [], zK _ _ _ _ _ _ ?_, zah _ _ _ _ _ _ ?_, fun h => by cases h⟩
  ·simp only [zB, ze5, hA, Option.bind_some]; rfl
  ·simp only [z5, za, L, hl, hA, d1, d2, d3, d4, d5, Option.bind_some, Sum.elim_inl, if_true, Bool.false_eq_true, if_false]; rfl
 | true =>
 cases hB : ((way.length : Int) == 4) with
 | false =>
  refine ⟨false, [], [], zK _ _ _ _ _ _ ?_, zah _ _ _ _ _ _ ?_, fun h => by cases h⟩
  ·simp only [zB, ze5, hA, hB, Option.bind_some]; rfl
  ·simp only [z5, za, L, hl, hA, hB, d1, d2, d3, d4, d5, Option.bind_some, Sum.elim_inl, if_true, Bool.false_eq_true, if_false]; rfl
 | true =>
 obtain ⟨a, rfl⟩ : ∃ a, ps = [a] := by
  have : ps.length = 1 := by have : (ps.length : Int) = 1 := (by simpa using hA); omega
  match ps, this with
  | [a], _ => exact ⟨a, rfl⟩
 obtain ⟨w0, w1, w2, w3, rfl⟩ : ∃ w0 w1 w2 w3, way = [w0, w1, w2, w3] := by
  have : way.length = 4 := by have : (way.length : Int) = 4 := (by simpa using hB); omega
  match way, this with
  | [w0, w1, w2, w3], _ => exact ⟨w0, w1, w2, w3, rfl⟩
 have m0 : zad M 0 steps [a] = some ((gtC steps a, ()), ()) := znA steps [a] hps 0 (by simp)
 have k0 : clOK s.1 (gtC steps a) = true := zn7 s steps hsc [a] hps 0 (by simp)
 have i0 : idx [w0, w1, w2, w3] 0 = some w0 := rfl
 have i1 : idx [w0, w1, w2, w3] 1 = some w1 := rfl
 have i2 : idx [w0, w1, w2, w3] 2 = some w2 := rfl
 have i3 : idx [w0, w1, w2, w3] 3 = some w3 := rfl
 rw [show List.map (gtC steps) [a] = [gtC steps a] from rfl] at L hl
 obtain ⟨r, r1, r2, r3⟩ := zAx s hg (gtC steps a) k0 w0 w1 w2 w3 0
 have g0 : 0 ≤ (0 : Int) ∧ (0 : Int) < (([a].length : Nat) : Int) := ⟨by simp, by simp⟩
 have j0 : [gtC steps a][(0 : Int).toNat]? = some (gtC steps a) := rfl
 refine ⟨((r.1.2.1 == 0) || (r.1.2.1 == 5)), r.1.1, r.1.1, zK _ _ _ _ _ _ ?_, zah _ _ _ _ _ _ ?_, fun _ => ⟨rfl, r3⟩⟩
 ·simp only [zB, ze5, hA, hB, d1, d2, d3, d4, d5, m0, i0, i1, i2, i3, za, r1, zp1, Option.bind_some, Bool.and_self, if_true, Bool.false_eq_true, if_false]
  rfl
 ·simp only [z5, za, L, hl, hA, hB, d1, d2, d3, d4, d5, Option.bind_some, Sum.elim_inl, if_true, Bool.false_eq_true, if_false]
  rw [if_pos g0]
  simp only [j0, Option.bind_some]
  simp only [i0, i1, i2, i3, r2, Option.bind_some, Sum.elim_inl]
  cases (r.1.2.1 == 0) <;> rfl
end
end Go.Proofs.YtkgpnekonnopgaaGreatIr.Ev
namespace Go.Proofs.YtkgpnekonnopgaaGreatIr.Ev
open Go
set_option autoImplicit false
set_option linter.unusedVariables false
set_option linter.unusedSimpArgs false
def isU : List TLit → Bool
 | [x] => x.1
 | _ => false
def hdL (c : List TLit) : TLit := c.headD (true, [], [], ())
theorem zuj {c : List TLit} (h : isU c = true) : c = [hdL c] := by
 match c, h with
 | [x], _ => rfl
theorem zwT (c : List TLit) (hc : c.length ≤ 1048576) : zkc M c = some ((isU c, ()), ()) ∧ zks M c = some ((isU c, ()), ()) := by
 match c, hc with
 | [], _ => exact ⟨zm8 _ rfl, zmZ _ rfl⟩
 | [x], _ => exact ⟨zm8 _ rfl, zmZ _ rfl⟩
 | x :: y :: r, h =>
  have e : (((x :: y :: r).length : Int) == 1) = false := by simp; omega
  refine ⟨zm8 _ ?_, zmZ _ ?_⟩
  ·simp only [zmC, e, Bool.false_eq_true, if_false]; rfl
  ·simp only [zmU, e, Bool.false_eq_true, if_false]; rfl
def failC : (List TLit × Bool × Unit) × Unit := (([], false, ()), ())
section
variable (s : TSign) (hg : gS s.1 = true) (inputs : List (List TLit)) (hi : inputs.length ≤ 1048576) (hic : ∀ c ∈ inputs, clOK s.1 c = true) (steps : List TStep) (hs : steps.length ≤ 1048576) (hsc : ∀ x ∈ steps, clOK s.1 x.2.2.2.1 = true) (ps way : List Int) (hp : ps.length ≤ 1048576) (hw : way.length ≤ 1048576) (hps : ∀ k ∈ ps, 0 ≤ k ∧ k < (steps.length : Int))
include hps hp hsc in
theorem p_uI : ∀ (m k : Nat) (units : List TLit), k + m = ps.length → units.length ≤ k → zch M s ps (steps, ps, ()) units k = some (if ((ps.drop k).map (gtC steps)).all isU = true then .inl (s, (steps, ps, ()), units ++ ((ps.drop k).map (gtC steps)).map hdL, ()) else .inr failC) := by
 intro m
 induction m with
 | zero =>
  intro k units hk hu
  obtain rfl : k = ps.length := by omega
  apply zi5
  simp only [zdr, za]
  rw [if_neg (by simp), List.drop_length]
  simp
 | succ m ih =>
  intro k units hk hu
  have h : k < ps.length := by omega
  have h1 := znA steps ps hps k h
  have hc := (zco.1 (zn7 s steps hsc ps hps k h)).1
  have hU := (zwT (gtC steps ps[k]) (by omega)).1
  apply zi5
  simp only [zdr, za]
  rw [if_pos (by simpa using h)]
  simp only [h1, hU, Option.bind_some]
  rw [List.drop_eq_getElem_cons h, List.map_cons, List.all_cons]
  cases hq : isU (gtC steps ps[k]) with
  | false => rfl
  | true =>
   have e := zuj hq
   have hx : idx (gtC steps ps[k]) 0 = some (hdL (gtC steps ps[k])) := by
    rw [e]; rfl
   simp only [Bool.not_true, Bool.false_eq_true, if_false, hx, Option.bind_some, Bool.true_and, zm]
   rw [if_pos (by simp; omega), zb (by omega), ih (k + 1) _ (by omega) (by simp; omega), List.append_assoc]
   rfl
theorem p_uS (P D : List (List TLit)) (hD : D.length ≤ 1048576) (hDc : ∀ c ∈ D, c.length ≤ 1048576) : ∀ (m i : Nat) (units : List TLit), i + m = D.length → units.length ≤ i → zdh M s P units D D.length i = some (if (D.drop i).all isU = true then .inl (s, P, units ++ (D.drop i).map hdL, ()) else .inr failC) := by
 intro m
 induction m with
 | zero =>
  intro i units hk hu
  obtain rfl : i = D.length := by omega
  apply zj1
  simp only [zev, za]
  rw [if_neg (by simp), List.drop_length]
  simp
 | succ m ih =>
  intro i units hk hu
  have h : i < D.length := by omega
  have hU := (zwT D[i] (hDc _ (List.getElem_mem h))).2
  apply zj1
  simp only [zev, za]
  rw [if_pos (by simpa using h), zd h]
  simp only [hU, Option.bind_some]
  rw [List.drop_eq_getElem_cons h, List.map_cons, List.all_cons]
  cases hq : isU D[i] with
  | false => rfl
  | true =>
   have e := zuj hq
   have hx : idx D[i] 0 = some (hdL D[i]) := by
    rw [e]; rfl
   simp only [Bool.not_true, Bool.false_eq_true, if_false, hx, Option.bind_some, Bool.true_and, zm]
   rw [if_pos (by simp; omega), zb (by omega), ih (i + 1) _ (by omega) (by simp; omega), List.append_assoc]
   rfl
include hg hs hsc hps hp hw
theorem zy4 : okMade s inputs steps ps way 5 := by
 have L := zlT s inputs steps hs ps way hp hps 5 ps.length 0 [] (by omega) (by simp)
 rw [show ((0 : Nat) : Int) = 0 from rfl, List.drop_zero, List.nil_append] at L
 have hl : (((ps.map (gtC steps)).length : Nat) : Int) = (ps.length : Int) := by simp
 have d1 : ((5 : Int) == 1) = false := rfl
 have d2 : ((5 : Int) == 2) = false := rfl
 have d3 : ((5 : Int) == 3) = false := rfl
 have d4 : ((5 : Int) == 4) = false := rfl
 have d5 : ((5 : Int) == 5) = true := rfl
 have hin := zdA (ps.length : Int) 1 11
 by_cases hA : 1 ≤ ps.length ∧ ps.length ≤ 11
 case neg =>
  have e : (decide ((1 : Int) ≤ (ps.length : Int)) && decide ((ps.length : Int) ≤ 11)) = false := by
   rw [Bool.and_eq_false_iff]
   simp only [decide_eq_false_iff_not]
   omega
  rw [e] at hin
  refine ⟨false, [], [], zK _ _ _ _ _ _ ?_, zah _ _ _ _ _ _ ?_, fun h => by cases h⟩
  ·simp only [zB, d1, d2, d3, d4, d5, za, if_true, Bool.false_eq_true, if_false]
   by_cases h1 : ps.length < 1
   ·rw [if_pos (by simp; omega)]; rfl
   ·rw [if_neg (by simp; omega), if_pos (by simp; omega)]; rfl
  ·simp only [z5, za, L, hl, hin, d1, d2, d3, d4, d5, Option.bind_some, Sum.elim_inl, if_true, Bool.false_eq_true, if_false]; rfl
 case pos =>
 rw [decide_eq_true (by omega), decide_eq_true (by omega)] at hin
 have n1 : decide ((ps.length : Int) < 1) = false := by simp; omega
 have n2 : decide ((ps.length : Int) > 11) = false := by simp; omega
 by_cases hB : way.length = 0
 case neg =>
  have b1 : decide ((way.length : Int) > 0) = true := decide_eq_true (by omega)
  have b2 : ((way.length : Int) == 0) = false := beq_eq_false_iff_ne.2 (by omega)
  refine ⟨false, [], [], zK _ _ _ _ _ _ ?_, zah _ _ _ _ _ _ ?_, fun h => by cases h⟩
  ·simp only [zB, d1, d2, d3, d4, d5, n1, n2, b1, za, if_true, Bool.false_eq_true, if_false]; rfl
  ·simp only [z5, za, L, hl, hin, b2, d1, d2, d3, d4, d5, Option.bind_some, Sum.elim_inl, if_true, Bool.false_eq_true, if_false]; rfl
 case pos =>
 have b1 : decide ((way.length : Int) > 0) = false := decide_eq_false (by omega)
 have b2 : ((way.length : Int) == 0) = true := beq_iff_eq.2 (by omega)
 have hp0 : 0 < ps.length := by omega
 have m0 := znA steps ps hps 0 hp0
 have k0 := zn7 s steps hsc ps hps 0 hp0
 rw [show ((0 : Nat) : Int) = 0 from rfl] at m0
 have uI := p_uI s steps hsc ps hp hps (ps.length - 1) 1 [] (by omega) (by simp)
 rw [show ((1 : Nat) : Int) = 1 from rfl] at uI
 have hDrop : ((ps.map (gtC steps)).take (Int.toNat ((ps.map (gtC steps)).length : Int))).drop (Int.toNat (1 : Int)) = (ps.drop 1).map (gtC steps) := by
  rw [Int.toNat_natCast, List.take_length, show (1 : Int).toNat = 1 from rfl, List.map_drop]
 have hDrop' : ((ps.map (gtC steps)).take (Int.toNat (ps.length : Int))).drop (Int.toNat (1 : Int)) = (ps.drop 1).map (gtC steps) := by rw [← hl]; exact hDrop
 have hmem : ∀ c ∈ (ps.drop 1).map (gtC steps), clOK s.1 c = true := by
  intro c hc
  obtain ⟨k, hk, rfl⟩ := List.mem_map.1 hc
  obtain ⟨i, hi, rfl⟩ := List.getElem_of_mem (List.mem_of_mem_drop hk)
  exact zn7 s steps hsc ps hps i hi
 have uS := p_uS s (ps.map (gtC steps)) ((ps.drop 1).map (gtC steps)) (by simp; omega) (fun c hc => by have := (zco.1 (hmem c hc)).1; omega) ((ps.drop 1).map (gtC steps)).length 0 [] (by omega) (by simp)
 rw [show ((0 : Nat) : Int) = 0 from rfl, List.drop_zero] at uS
 have g1 : 0 ≤ (1 : Int) ∧ (1 : Int) ≤ (ps.length : Int) ∧ (ps.length : Int) ≤ (ps.length : Int) := by omega
 cases hall : ((ps.drop 1).map (gtC steps)).all isU with
 | false =>
  rw [hall, if_neg (by simp)] at uI uS
  refine ⟨false, [], [], zK _ _ _ _ _ _ ?_, zah _ _ _ _ _ _ ?_, fun h => by cases h⟩
  ·simp only [zB, d1, d2, d3, d4, d5, n1, n2, b1, za, uI, Option.bind_some, Sum.elim_inl, Sum.elim_inr, if_true, Bool.false_eq_true, if_false]; rfl
  ·simp only [z5, za, L, hl, hin, b2, d1, d2, d3, d4, d5, Option.bind_some, Sum.elim_inl, if_true, Bool.false_eq_true, if_false, Bool.and_self]
   rw [if_pos g1, hDrop', uS]
   rfl
 | true =>
  rw [hall, if_pos rfl] at uI uS
  rw [List.nil_append] at uI uS
  have hUl : (((ps.drop 1).map (gtC steps)).map hdL).length ≤ 1000 := by simp; omega
  have hUx : ∀ x ∈ ((ps.drop 1).map (gtC steps)).map hdL, litOK s.1 x = true := by
   intro x hx
   obtain ⟨c, hc, rfl⟩ := List.mem_map.1 hx
   have e := zuj (List.all_eq_true.1 hall c hc)
   exact (zco.1 (hmem c hc)).2 _ (by rw [e]; exact List.mem_singleton.2 rfl)
  obtain ⟨C, z1, z2, hC, r1, r2⟩ := zzz s _ hg hUl hUx (gtC steps ps[0]) k0
  have j0 : idx (ps.map (gtC steps)) 0 = some (gtC steps ps[0]) := by
   have := zd (xs := ps.map (gtC steps)) (i := 0) (by simpa using hp0)
   rw [List.getElem_map] at this
   exact this
  refine ⟨true, C, C, zK _ _ _ _ _ _ ?_, zah _ _ _ _ _ _ ?_, fun _ => ⟨rfl, hC⟩⟩
  ·simp only [zB, d1, d2, d3, d4, d5, n1, n2, b1, za, uI, m0, r1, Option.bind_some, Sum.elim_inl, if_true, Bool.false_eq_true, if_false]; rfl
  ·simp only [z5, za, L, hl, hin, b2, d1, d2, d3, d4, d5, Option.bind_some, Sum.elim_inl, if_true, Bool.false_eq_true, if_false, Bool.and_self]
   rw [if_pos g1, hDrop', uS]
   simp only [Option.bind_some, Sum.elim_inl, hl]
   rw [j0]
   simp only [Option.bind_some, r2]
   rfl
include hi hic
theorem zBW (rule : Int) : okMade s inputs steps ps way rule := by
 by_cases h1 : rule = 1
 ·subst h1; exact zzS s inputs hi hic steps hs ps way hp hps
 by_cases h2 : rule = 2
 ·subst h2; exact zzX s hg inputs steps hs hsc ps way hp hps
 by_cases h3 : rule = 3
 ·subst h3; exact zx8 s hg inputs steps hs hsc ps way hp hps
 by_cases h4 : rule = 4
 ·subst h4; exact zyD s hg inputs steps hs hsc ps way hp hps
 by_cases h5 : rule = 5
 ·subst h5; exact zy4 s hg inputs steps hs hsc ps way hp hw hps
 have L := zlT s inputs steps hs ps way hp hps rule ps.length 0 [] (by omega) (by simp)
 rw [show ((0 : Nat) : Int) = 0 from rfl, List.drop_zero, List.nil_append] at L
 have d1 : (rule == 1) = false := by simpa using h1
 have d2 : (rule == 2) = false := by simpa using h2
 have d3 : (rule == 3) = false := by simpa using h3
 have d4 : (rule == 4) = false := by simpa using h4
 have d5 : (rule == 5) = false := by simpa using h5
 refine ⟨false, [], [], zK _ _ _ _ _ _ ?_, zah _ _ _ _ _ _ ?_, fun h => by cases h⟩
 ·simp only [zB, d1, d2, d3, d4, d5, Bool.false_eq_true, if_false]; rfl
 ·simp only [z5, za, L, d1, d2, d3, d4, d5, Option.bind_some, Sum.elim_inl, if_true, Bool.false_eq_true, if_false]; rfl
end
end Go.Proofs.YtkgpnekonnopgaaGreatIr.Ev
namespace Go.Proofs.YtkgpnekonnopgaaGreatIr.Ev
open Go
set_option autoImplicit false
set_option linter.unusedVariables false
set_option linter.unusedSimpArgs false
theorem zz4 (s : TSign) (hs : s.1.length ≤ 1048576) (t : List Int) (ht : t.length ≤ 1048576) : ∀ (k i : Nat) (need : Int), i + k = t.length → ∃ r, zdE M t i s need = some r := by
 intro k
 induction k with
 | zero =>
  intro i need hi
  obtain rfl : i = t.length := by omega
  by_cases h : need > 0
  ·refine ⟨.inr ((-1, ()), ()), zaw _ _ _ _ ?_⟩
   simp only [zab]
   rw [if_pos (by simpa using h), if_pos (by simp)]
  ·refine ⟨.inl ((t.length : Int), ()), zaw _ _ _ _ ?_⟩
   simp only [zab]
   rw [if_neg (by simpa using h)]
 | succ k ih =>
  intro i need hi
  have h1 : i < t.length := by omega
  by_cases h : need > 0
  ·have hin : zaL M t[i] (-12) (IntKind.i64.wrap ((s.1.length : Int) - 1)) = some ((decide (-12 ≤ t[i]) && decide (t[i] ≤ (s.1.length : Int) - 1), ()), ()) := by rw [w64 (by omega) (by omega), zdA]
   cases hb : (decide (-12 ≤ t[i]) && decide (t[i] ≤ (s.1.length : Int) - 1)) with
   | false =>
    rw [hb] at hin
    refine ⟨.inr ((-1, ()), ()), zaw _ _ _ _ ?_⟩
    simp only [zab]
    rw [if_pos (by simpa using h), if_neg (by simp; omega), zd h1]
    simp only [Option.bind_some, hin]
    rfl
   | true =>
    rw [hb] at hin
    simp only [Bool.and_eq_true, decide_eq_true_eq] at hb
    by_cases h0 : 0 ≤ t[i]
    ·obtain ⟨n, hn⟩ : ∃ n : Nat, t[i] = (n : Int) := ⟨t[i].toNat, by omega⟩
     have hs2 : idx s.1 t[i] = some (s.1[n]'(by omega)) := by rw [hn]; exact zd (by omega)
     obtain ⟨r, hr⟩ := ih (i + 1) (IntKind.i64.wrap (IntKind.i64.wrap (need - 1) + s.1[n]'(by omega))) (by omega)
     refine ⟨r, zaw _ _ _ _ ?_⟩
     simp only [zab]
     rw [if_pos (by simpa using h), if_neg (by simp; omega), zd h1]
     simp only [Option.bind_some, hin, Bool.not_true, Bool.false_eq_true, if_false]
     rw [if_pos (by simpa using h0), hs2]
     simp only [Option.bind_some, Sum.elim_inl, za]
     rw [zb (by omega)]
     exact hr
    ·obtain ⟨r, hr⟩ := ih (i + 1) (IntKind.i64.wrap (need - 1)) (by omega)
     refine ⟨r, zaw _ _ _ _ ?_⟩
     simp only [zab]
     rw [if_pos (by simpa using h), if_neg (by simp; omega), zd h1]
     simp only [Option.bind_some, hin, Bool.not_true, Bool.false_eq_true, if_false]
     rw [if_neg (by simpa using h0)]
     simp only [Option.bind_some, Sum.elim_inl, za]
     rw [zb (by omega)]
     exact hr
  ·refine ⟨.inl ((i : Int), ()), zaw _ _ _ _ ?_⟩
   simp only [zab]
   rw [if_neg (by simpa using h)]
theorem zuT (s : TSign) (hs : s.1.length ≤ 1048576) (t : List Int) (ht : t.length ≤ 1048576) : ∃ b : Bool, zcr M s t = some ((b, ()), ()) := by
 have hin := zdA (t.length : Int) 1 40
 cases hb : (decide ((1 : Int) ≤ (t.length : Int)) && decide ((t.length : Int) ≤ 40)) with
 | false =>
  rw [hb] at hin
  refine ⟨false, ziE _ _ ?_⟩
  simp only [zfh, hin, Option.bind_some]
  rfl
 | true =>
  rw [hb] at hin
  obtain ⟨r, hr⟩ := zz4 s hs t ht t.length 0 1 (by omega)
  rw [show ((0 : Nat) : Int) = 0 from rfl] at hr
  have he : ∃ z : Int, zeS M s t 0 = some ((z, ()), ()) := by
   cases r with
   | inl y =>
    refine ⟨y.1, zje _ _ _ ?_⟩
    simp only [zf8, za, hr, Option.bind_some, Sum.elim_inl]
   | inr y =>
    refine ⟨y.1.1, zje _ _ _ ?_⟩
    simp only [zf8, za, hr, Option.bind_some, Sum.elim_inr]
  obtain ⟨z, hz⟩ := he
  refine ⟨z == (t.length : Int), ziE _ _ ?_⟩
  simp only [zfh, hin, za, hz, Option.bind_some, if_true]
theorem zAa (s : TSign) (hs : s.1.length ≤ 1048576) (x : TLit) (hx : smL x) : ∃ b : Bool, zhT M s x = some ((b, ()), ()) := by
 obtain ⟨a, ha⟩ := zuT s hs x.2.1 hx.1
 obtain ⟨b, hb⟩ := zuT s hs x.2.2.1 hx.2
 refine ⟨a && b, zkQ _ _ ?_⟩
 simp only [zh0, za, ha, hb, Option.bind_some]
 cases a <;> rfl
theorem zw6 (s : TSign) (hs : s.1.length ≤ 1048576) (c : List TLit) (hl : c.length ≤ 1048576) (hc : ∀ x ∈ c, smL x) : ∃ b : Bool, zaX M s c = some ((b, ()), ()) := by
 have h : ∀ k i : Nat, i + k = c.length → zbb M c s c c.length i = some (.inl (c, ())) ∨ zbb M c s c c.length i = some (.inr ((false, ()), ())) := by
  intro k
  induction k with
  | zero =>
   intro i hi
   obtain rfl : i = c.length := by omega
   refine .inl (zaZ _ _ _ _ _ ?_)
   simp only [zaY]
   rw [if_neg (by simp)]
  | succ k ih =>
   intro i hi
   have h1 : i < c.length := by omega
   obtain ⟨b, hb⟩ := zAa s hs c[i] (hc _ (List.getElem_mem h1))
   have hq : zaY M c s c c.length i = if b = true then zbb M c s c c.length ((i + 1 : Nat) : Int) else some (.inr ((false, ()), ())) := by
    simp only [zaY]
    rw [if_pos (by simpa using h1), zd h1, zb (by omega)]
    simp only [Option.bind_some, zm, za, hb]
    cases b <;> rfl
   cases b with
   | false => exact .inr (zaZ _ _ _ _ _ hq)
   | true =>
    rcases ih (i + 1) (by omega) with h | h
    ·exact .inl (zaZ _ _ _ _ _ (hq.trans h))
    ·exact .inr (zaZ _ _ _ _ _ (hq.trans h))
 have h0 := h c.length 0 (by omega)
 rw [show ((0 : Nat) : Int) = 0 from rfl] at h0
 rcases h0 with h0 | h0
 ·refine ⟨decide ((c.length : Int) ≤ 8), zhd _ _ ?_⟩
  simp only [zdM, za, h0, Option.bind_some, Sum.elim_inl]
 ·refine ⟨false, zhd _ _ ?_⟩
  simp only [zdM, za, h0, Option.bind_some, Sum.elim_inr]
end Go.Proofs.YtkgpnekonnopgaaGreatIr.Ev
