/- Texts laid together: WAd, WAe, QI, QJb, WAf, WAg, WAb, WAh, WAi; no condition but those that each theorem names. -/
import Derived.Test.YtenknihdnkiplaaGreatSsWAa
namespace Go.Proofs.YtenknihdnkiplaaGreatSs.Ev
open Go
set_option autoImplicit false
set_option linter.unusedVariables false
set_option linter.unusedSimpArgs false
def tab (f : Nat → List Int) : List (List Int) := (List.range 12).map f
theorem zgy (f : Nat → List Int) : (tab f).length = 12 := by simp [tab]
theorem zhU (f : Nat → List Int) {k : Nat} (h : k < 12) : (tab f)[k]? = some (f k) := by simp [tab, h]
theorem zeM {f g : Nat → List Int} (h : ∀ k, k < 12 → f k = g k) : tab f = tab g := List.map_congr_left fun k hk => h k (by simpa using hk)
theorem zpx (f : Nat → List Int) {k : Nat} (h : k < 12) (y : List Int) : (tab f).set k y = tab fun j => if j = k then y else f j := by
 apply List.ext_getElem?
 intro j
 rw [List.getElem?_set, zgy]
 by_cases e : k = j
 ·subst e
  rw [if_pos rfl, if_pos h, zhU _ h, if_pos rfl]
 ·rw [if_neg e]
  by_cases hj : j < 12
  ·rw [zhU _ hj, zhU _ hj, if_neg (Ne.symm e)]
  ·rw [List.getElem?_eq_none (by rw [zgy]; omega), List.getElem?_eq_none (by rw [zgy]; omega)]
theorem zvG : List.replicate 12 ([] : List Int) = tab fun _ => [] := rfl
abbrev tabS (σ : Int → List Int) : List (List Int) := tab fun k => σ (k : Int)
theorem ze4 (σ : Int → List Int) : SubF (tabS σ) σ := ⟨zgy _, fun v h0 h1 => by rw [zhU _ (by omega)]; congr 1; rw [show ((v.toNat : Nat) : Int) = v by omega]⟩
theorem zzo (f : Nat → List Int) {k : Nat} (h : k < 12) : idx (tab f) (k : Int) = some (f k) := by
 rw [zyL, zhU f h]
theorem zrR {f : Nat → List Int} {t : List Int} (h : t ∈ tab f) : ∃ k, k < 12 ∧ t = f k := by
 obtain ⟨k, hk, rfl⟩ := List.mem_map.1 h
 exact ⟨k, by simpa using hk, rfl⟩
theorem zvL {n : Int} (hn : n < 0) (h12 : -12 ≤ n) (t : List Int) : (List.replicate 12 ([] : List Int)).set (-1 - n).toNat t = tabS (oneS n t) := by
 rw [zvG, zpx _ (by omega)]
 refine zeM fun k hk => ?_
 unfold oneS
 by_cases e : k = (-1 - n).toNat
 ·rw [if_pos e, if_pos (by omega)]
 ·rw [if_neg e, if_neg (by omega)]
theorem zn0 {n : Int} {t : List Int} (ht : t.length ≤ 40) : ∀ v, (oneS n t v).length ≤ 100000 := by
 intro v; unfold oneS; split
 ·omega
 ·simp
def putS (σ : Int → List Int) (n : Int) (t : List Int) (k : Nat) : List Int := if σ (k : Int) ≠ [] then apS (oneS n t) (σ (k : Int)) else []
theorem zvV (σ : Int → List Int) (n : Int) (t : List Int) (hn : n < 0) (h12 : -12 ≤ n) (ht : t.length ≤ 40) (hσ : ∀ k : Nat, k < 12 → smT (σ (k : Int)) ∧ (σ (k : Int)).length ≤ 40) : ∀ (j k : Nat), k + j = 12 → zem M (tabS σ) (-1 - n) t (tabS (oneS n t)) (tab fun i => if i < k then putS σ n t i else []) 12 k = some (.inl (-1 - n, t, tab (putS σ n t), ())) := by
 intro j
 induction j with
 | zero =>
  intro k hk
  obtain rfl : k = 12 := by omega
  apply zkQ
  simp only [zfH]
  rw [if_neg (by simp)]
  have : tab (fun i => if i < 12 then putS σ n t i else []) = tab (putS σ n t) := zeM fun i hi => by rw [if_pos hi]
  rw [this]
 | succ j ih =>
  intro k hk
  have h1 : k < 12 := by omega
  obtain ⟨s1, s2⟩ := hσ k h1
  have hnext : ∀ y, y = putS σ n t k → (tab fun i => if i < k then putS σ n t i else []).set k y = tab fun i => if i < k + 1 then putS σ n t i else [] := by
   intro y hy
   rw [zpx _ h1]
   refine zeM fun i hi => ?_
   by_cases e : i = k
   ·rw [if_pos e, if_pos (by omega), hy, e]
   ·rw [if_neg e]
    by_cases q : i < k
    ·rw [if_pos q, if_pos (by omega)]
    ·rw [if_neg q, if_neg (by omega)]
  apply zkQ
  simp only [zfH]
  rw [if_pos (by simp; omega), zzo _ h1]
  simp only [Option.bind_some]
  by_cases hs : σ (k : Int) = []
  ·rw [if_neg (by simp [hs])]
   simp only [Option.bind_some, Sum.elim_inl]
   rw [za (by omega), ← ih (k + 1) (by omega)]
   congr 1
   refine zeM fun i hi => ?_
   by_cases q : i < k
   ·rw [if_pos q, if_pos (by omega)]
   ·rw [if_neg q]
    by_cases e : i = k
    ·rw [if_pos (by omega), e]; unfold putS; rw [if_neg (by simpa using hs)]
    ·rw [if_neg (by omega)]
  ·have hl := List.length_pos_iff.2 hs
   rw [if_pos (by simp; omega), zf5 _ _ (ze4 (oneS n t)) (zn0 ht) _ (by omega) s1.2]
   simp only [Option.bind_some]
   rw [if_pos (by rw [zgy]; omega), Int.toNat_natCast, zhU _ h1]
   simp only [Option.bind_some, Sum.elim_inl]
   rw [za (by omega), hnext _ (by unfold putS; rw [if_pos hs]), ih (k + 1) (by omega)]
theorem zui (σ : Int → List Int) {n : Int} (hn : n < 0) (h12 : -12 ≤ n) (t : List Int) : (tab (putS σ n t)).set (-1 - n).toNat t = tabS (bindS σ n t) := by
 rw [zpx _ (by omega)]
 refine zeM fun k hk => ?_
 unfold bindS putS
 by_cases e : k = (-1 - n).toNat
 ·rw [if_pos e, if_pos (by omega)]
 ·rw [if_neg e, if_neg (show ¬ ((k : Int) = -1 - n) by omega)]
theorem zxS (σ : Int → List Int) (n : Int) (t : List Int) (hn : n < 0) (h12 : -12 ≤ n) (ht : t.length ≤ 40) (hσ : ∀ k : Nat, k < 12 → smT (σ (k : Int)) ∧ (σ (k : Int)).length ≤ 40) : zfB M (tabS σ) (-1 - n) t = some ((tabS (bindS σ n t), ()), ()) := by
 have hl := zvV σ n t hn h12 ht hσ 12 0 (by omega)
 rw [show ((0 : Nat) : Int) = 0 from rfl] at hl
 have e0 : (tab fun i => if i < 0 then putS σ n t i else []) = List.replicate 12 ([] : List Int) := by rw [zvG]; exact zeM fun i _ => by rw [if_neg (by omega)]
 rw [e0] at hl
 apply zta
 simp only [zk6]
 rw [if_pos ⟨by decide, by decide, trivial⟩, show (12 : Int).toNat = 12 from rfl]
 rw [if_pos (by simp; omega), List.getElem?_eq_getElem (by simp; omega)]
 simp only [Option.bind_some]
 rw [if_pos ⟨by decide, by decide, trivial⟩, zvL hn h12, show ((List.replicate 12 ([] : List Int)).length : Int) = 12 from by simp, hl]
 simp only [Option.bind_some, Sum.elim_inl, zkD t (by omega)]
 rw [if_pos (by rw [zgy]; omega), zhU _ (by omega)]
 simp only [Option.bind_some, zui σ hn h12 t]
theorem zw6 (s : TSign) (x y : List Int) (σ : Int → List Int) (n : Int) (t : List Int) (hn : n < 0) (h12 : -12 ≤ n) (ht : t.length ≤ 40) (hσ : ∀ k : Nat, k < 12 → smT (σ (k : Int)) ∧ (σ (k : Int)).length ≤ 40) : ∀ (j k : Nat), k + j = 12 → (zn M x y s (tab fun i => if i < k then putS σ n t i else σ (i : Int)) n t (tabS (oneS n t)) 12 k = some (.inl (x, y, s, tab (putS σ n t), n, t, ())) ∧ ∀ i, k ≤ i → i < 12 → (putS σ n t i).length ≤ 40) ∨
  (zn M x y s (tab fun i => if i < k then putS σ n t i else σ (i : Int)) n t (tabS (oneS n t)) 12 k = some (.inr (([], false, ()), ())) ∧ ∃ i, i < 12 ∧ 40 < (putS σ n t i).length) := by
 intro j
 induction j with
 | zero =>
  intro k hk
  obtain rfl : k = 12 := by omega
  refine .inl ⟨zcc _ _ _ _ _ _ _ _ _ ?_, fun i h1 h2 => by omega⟩
  simp only [zaS]
  rw [if_neg (by simp)]
  have : tab (fun i => if i < 12 then putS σ n t i else σ (i : Int)) = tab (putS σ n t) := zeM fun i hi => by rw [if_pos hi]
  rw [this, zb]
 | succ j ih =>
  intro k hk
  have h1 : k < 12 := by omega
  obtain ⟨s1, s2⟩ := hσ k h1
  have hcur : (tab fun i => if i < k then putS σ n t i else σ (i : Int))[k]? = some (σ (k : Int)) := by rw [zhU _ h1, if_neg (by omega)]
  have hlen : ((tab fun i => if i < k then putS σ n t i else σ (i : Int)).length : Int) = 12 := by rw [zgy]; rfl
  by_cases hs : σ (k : Int) = []
  ·have hp : putS σ n t k = [] := by unfold putS; rw [if_neg (by simpa using hs)]
   have e : (tab fun i => if i < k then putS σ n t i else σ (i : Int)) = tab fun i => if i < k + 1 then putS σ n t i else σ (i : Int) := by
    refine zeM fun i hi => ?_
    by_cases q : i < k
    ·rw [if_pos q, if_pos (by omega)]
    ·rw [if_neg q]
     by_cases e : i = k
     ·rw [if_pos (by omega), e, hp, hs]
     ·rw [if_neg (by omega)]
   have step : ∀ r, zn M x y s (tab fun i => if i < k + 1 then putS σ n t i else σ (i : Int)) n t (tabS (oneS n t)) 12 ((k + 1 : Nat) : Int) = some r → zn M x y s (tab fun i => if i < k then putS σ n t i else σ (i : Int)) n t (tabS (oneS n t)) 12 k = some r := by
    intro r hr
    apply zcc
    simp only [zaS]
    rw [if_pos (by simp; omega), if_pos (by rw [hlen]; omega), Int.toNat_natCast, hcur]
    simp only [Option.bind_some]
    rw [if_neg (by simp [hs])]
    simp only [Option.bind_some, Sum.elim_inl, zb]
    rw [za (by omega), e]
    exact hr
   rcases ih (k + 1) (by omega) with ⟨q1, q2⟩ | ⟨q1, q2⟩
   ·refine .inl ⟨step _ q1, fun i hi hi' => ?_⟩
    by_cases e : i = k
    ·rw [e, hp]; simp
    ·exact q2 i (by omega) hi'
   ·exact .inr ⟨step _ q1, q2⟩
  ·have hl := List.length_pos_iff.2 hs
   have hp : putS σ n t k = apS (oneS n t) (σ (k : Int)) := by unfold putS; rw [if_pos hs]
   have happ := zmi _ _ (ze4 (oneS n t)) (zn0 ht) (σ (k : Int)) (by omega) s1.2
   rw [← hp] at happ
   by_cases h40 : (putS σ n t k).length ≤ 40
   ·rw [if_pos h40] at happ
    have e : (tab fun i => if i < k then putS σ n t i else σ (i : Int)).set k (putS σ n t k) = tab fun i => if i < k + 1 then putS σ n t i else σ (i : Int) := by
     rw [zpx _ h1]
     refine zeM fun i hi => ?_
     by_cases e : i = k
     ·rw [if_pos e, if_pos (by omega), e]
     ·rw [if_neg e]
      by_cases q : i < k
      ·rw [if_pos q, if_pos (by omega)]
      ·rw [if_neg q, if_neg (by omega)]
    have step : ∀ r, zn M x y s (tab fun i => if i < k + 1 then putS σ n t i else σ (i : Int)) n t (tabS (oneS n t)) 12 ((k + 1 : Nat) : Int) = some r → zn M x y s (tab fun i => if i < k then putS σ n t i else σ (i : Int)) n t (tabS (oneS n t)) 12 k = some r := by
     intro r hr
     apply zcc
     simp only [zaS]
     rw [if_pos (by simp; omega), if_pos (by rw [hlen]; omega), Int.toNat_natCast, hcur]
     simp only [Option.bind_some]
     rw [if_pos (by simp; omega), happ]
     simp only [Option.bind_some]
     rw [if_pos (by rw [hlen]; omega)]
     try simp only [Option.bind_some]
     rw [if_neg (by simp)]
     simp only [Option.bind_some, Sum.elim_inl, zb]
     rw [za (by omega), e]
     exact hr
    rcases ih (k + 1) (by omega) with ⟨q1, q2⟩ | ⟨q1, q2⟩
    ·refine .inl ⟨step _ q1, fun i hi hi' => ?_⟩
     by_cases e : i = k
     ·rw [e]; exact h40
     ·exact q2 i (by omega) hi'
    ·exact .inr ⟨step _ q1, q2⟩
   ·rw [if_neg h40] at happ
    refine .inr ⟨zcc _ _ _ _ _ _ _ _ _ ?_, k, h1, by omega⟩
    simp only [zaS]
    rw [if_pos (by simp; omega), if_pos (by rw [hlen]; omega), Int.toNat_natCast, hcur]
    simp only [Option.bind_some]
    rw [if_pos (by simp; omega), happ]
    simp only [Option.bind_some]
    rw [if_pos (by rw [hlen]; omega)]
    try simp only [Option.bind_some]
    rw [if_pos (by simp)]
    rfl
theorem zvj (s : TSign) (hg : gS s.1 = true) (x y : List Int) (l : List (List Int)) (hl : l.length ≤ 100) (hx : ∀ t ∈ l, t.length ≤ 1048576) : ∀ k i : Nat, i + k = l.length → zcT M x y s l l.length i = some (if (l.drop i).all (fun t => t.isEmpty || isT s.1 t) = true then .inl (x, y, s, ()) else .inr ((false, ()), ())) := by
 intro k
 induction k with
 | zero =>
  intro i hi
  obtain rfl : i = l.length := by omega
  apply zkw
  simp only [zfT]
  rw [if_neg (by simp)]
  simp
 | succ k ih =>
  intro i hi
  have h1 : i < l.length := by omega
  have h2 := hx _ (List.getElem_mem h1)
  apply zkw
  simp only [zfT]
  rw [if_pos (by simpa using h1), ze h1, za (by omega)]
  simp only [Option.bind_some, zb, ih (i + 1) (by omega)]
  rw [List.drop_eq_getElem_cons h1, List.all_cons]
  by_cases he : l[i] = []
  ·rw [if_neg (by simp [he])]
   simp [he]
  ·have hp := List.length_pos_iff.2 he
   rw [if_pos (by simp; omega), zlS s hg _ h2]
   simp only [Option.bind_some]
   have : l[i].isEmpty = false := by cases h : l[i] with
    | nil => exact absurd h he
    | cons _ _ => rfl
   rw [this, Bool.false_or]
   cases isT s.1 l[i] with
   | false => rfl
   | true => simp
theorem zsT (s : TSign) (hg : gS s.1 = true) (l : List (List Int)) (hl : l.length ≤ 100) (hx : ∀ t ∈ l, t.length ≤ 1048576) (x y : List Int) (lx : x.length ≤ 1048576) (ly : y.length ≤ 1048576) : zgw M s l x y = some ((l.all (fun t => t.isEmpty || isT s.1 t) && (isT s.1 x && isT s.1 y), ()), ()) := by
 apply zsd
 have := zvj s hg x y l hl hx l.length 0 (by omega)
 rw [show ((0 : Nat) : Int) = 0 from rfl, List.drop_zero] at this
 simp only [zj7, zb, this, Option.bind_some]
 cases l.all fun t => t.isEmpty || isT s.1 t with
 | false => rfl
 | true =>
  simp only [if_true, Sum.elim_inl, zb, zlS s hg x lx, zlS s hg y ly, Option.bind_some]
  cases isT s.1 x <;> rfl
theorem zxT (a b : List Int) (s : TSign) (f : List (List Int)) (x y : List Int) (hx : x.length ≤ 1048576) : ∀ k i : Nat, i + k = lcp x y → zc6 M a b s f x y i = some (.inl (a, b, s, f, x, y, (lcp x y : Int), ())) := by
 intro k
 have hle := zre x y
 induction k with
 | zero =>
  intro i hi
  obtain rfl : i = lcp x y := by omega
  apply zjq
  simp only [zeH, zb]
  by_cases h1 : lcp x y < x.length
  ·rw [if_pos (by simpa using h1)]
   by_cases h2 : lcp x y < y.length
   ·rw [if_pos (by simpa using h2), if_pos (by omega), Int.toNat_natCast, List.getElem?_eq_getElem h1]
    simp only [Option.bind_some]
    rw [if_pos (by omega), List.getElem?_eq_getElem h2]
    simp only [Option.bind_some]
    rw [if_neg (by simpa using zrl x y h1 h2)]
   ·rw [if_neg (by simpa using h2)]
  ·rw [if_neg (by simpa using h1)]
 | succ k ih =>
  intro i hi
  have h1 : i < x.length := by omega
  have h2 : i < y.length := by omega
  have he := zr1 x y i (by omega)
  rw [List.getElem?_eq_getElem h1, List.getElem?_eq_getElem h2] at he
  apply zjq
  simp only [zeH, zb]
  rw [if_pos (by simpa using h1), if_pos (by simpa using h2), if_pos (by omega), Int.toNat_natCast, List.getElem?_eq_getElem h1]
  simp only [Option.bind_some]
  rw [if_pos (by omega), List.getElem?_eq_getElem h2]
  simp only [Option.bind_some]
  rw [if_pos (by simpa using Option.some.inj he), za (by omega)]
  exact ih (i + 1) (by omega)
theorem zyc (s : TSign) (f : List (List Int)) (x y : List Int) (hx : x.length ≤ 1048576) : ∀ k i : Nat, i + k = lcp x y → zcn M x y s f i = some (.inl (x, y, s, f, (lcp x y : Int), ())) := by
 intro k
 have hle := zre x y
 induction k with
 | zero =>
  intro i hi
  obtain rfl : i = lcp x y := by omega
  apply ziv
  simp only [zdx, zb]
  by_cases h1 : lcp x y < x.length
  ·rw [if_pos (by simpa using h1)]
   by_cases h2 : lcp x y < y.length
   ·rw [if_pos (by simpa using h2), ze h1, ze h2]
    simp only [Option.bind_some]
    rw [if_neg (by simpa using zrl x y h1 h2)]
   ·rw [if_neg (by simpa using h2)]
  ·rw [if_neg (by simpa using h1)]
 | succ k ih =>
  intro i hi
  have h1 : i < x.length := by omega
  have h2 : i < y.length := by omega
  have he := zr1 x y i (by omega)
  rw [List.getElem?_eq_getElem h1, List.getElem?_eq_getElem h2] at he
  apply ziv
  simp only [zdx, zb]
  rw [if_pos (by simpa using h1), if_pos (by simpa using h2), ze h1, ze h2]
  simp only [Option.bind_some]
  rw [if_pos (by simpa using Option.some.inj he), za (by omega)]
  exact ih (i + 1) (by omega)
end Go.Proofs.YtenknihdnkiplaaGreatSs.Ev
namespace Go.Proofs.YtenknihdnkiplaaGreatSs.Ev
open Go
set_option autoImplicit false
set_option linter.unusedVariables false
set_option linter.unusedSimpArgs false
theorem zni {a : List Int} : ∀ (t : List Int) (k : Int), sE a k t = some [] → ∀ n ∈ t, -12 ≤ n ∧ n < a.length
 | [], _, _, n, hn => by cases hn
 | m :: t, k, h, n, hn => by
  simp only [sE] at h
  split at h
  ·cases h
  ·split at h
   ·cases h
   ·rename_i hb
    unfold badN at hb
    rcases List.mem_cons.1 hn with rfl | hn
    ·omega
    ·exact zni t _ h n hn
theorem zi {a t : List Int} : isT a t = true ↔ t.length ≤ 40 ∧ Tm a t := by simp [isT]
theorem zco {a t : List Int} (h : isT a t = true) : smT t := by
 obtain ⟨h1, h2⟩ := zi.1 h
 exact ⟨by omega, fun n hn => (zni t 1 h2 n hn).1⟩
def okU (a : List Int) (σ : Int → List Int) : Prop := (∀ v, σ v ≠ [] → isT a (σ v) = true ∧ 0 ≤ v ∧ v ≤ 11) ∧ ∀ u, Free σ (σ u)
theorem okU.sm {a : List Int} {σ : Int → List Int} (h : okU a σ) (k : Nat) : smT (σ (k : Int)) ∧ (σ (k : Int)).length ≤ 40 := by
 by_cases e : σ (k : Int) = []
 ·rw [e]; exact ⟨⟨by simp, by simp⟩, by simp⟩
 ·have := (h.1 _ e).1
  exact ⟨zco this, (zi.1 this).1⟩
theorem okU.len {a : List Int} {σ : Int → List Int} (h : okU a σ) (v : Int) : (σ v).length ≤ 40 := by
 by_cases e : σ v = []
 ·rw [e]; simp
 ·exact (zi.1 (h.1 _ e).1).1
theorem Free.apS {σ : Int → List Int} (hi : ∀ u, Free σ (σ u)) : ∀ T : List Int, Free σ (apS σ T)
 | [], m, hm, _ => by cases hm
 | n :: T, m, hm, h0 => by
  rw [zce, List.mem_append] at hm
  rcases hm with hm | hm
  ·by_cases hn : n < 0 ∧ σ (-1 - n) ≠ []
   ·rw [zgR hn.1 hn.2] at hm
    exact hi _ m hm h0
   ·have hr : rp σ n = [n] := by
     by_cases q : n < 0
     ·exact zi0 (by
       by_cases e : σ (-1 - n) = []
       ·exact e
       ·exact absurd ⟨q, e⟩ hn)
     ·exact zjK (by omega)
    rw [hr, List.mem_singleton] at hm
    subst hm
    by_cases e : σ (-1 - m) = []
    ·exact e
    ·exact absurd ⟨h0, e⟩ hn
  ·exact Free.apS hi T m hm h0
noncomputable def contI (x y : List Int) (s : TSign) (f : List (List Int)) (n : Int) (t : List Int) : Option (Unit ⊕ ((List (List Int)) × Bool × Unit) × Unit) := ((za4 M t n).bind fun r35 => (if r35.1.1 = true then (some (.inr (([], false, ()), ()))) else (if 0 ≤ (12 : Int) ∧ ((24 : Nat) : Int) * (12 : Int) ≤ 140737488355328 ∧ (12 : Int) = (12 : Int) then (if 0 ≤ (IntKind.i64.wrap ((-1 : Int) - n)) ∧ (IntKind.i64.wrap ((-1 : Int) - n)) < (List.length (List.replicate (Int.toNat (12 : Int)) ([] : List Int)) : Int) then (((List.replicate (Int.toNat (12 : Int)) ([] : List Int))[(Int.toNat (IntKind.i64.wrap ((-1 : Int) - n)))]?).bind fun x36 => ((zbm M ((List.replicate (Int.toNat (12 : Int)) ([] : List Int)).set (Int.toNat (IntKind.i64.wrap ((-1 : Int) - n))) t) x).bind fun r37 => ((zbm M ((List.replicate (Int.toNat (12 : Int)) ([] : List Int)).set (Int.toNat (IntKind.i64.wrap ((-1 : Int) - n))) t) y).bind fun r38 => (if (!r37.1.2.1) = true then (some (.inr (([], false, ()), ()))) else (if (!r38.1.2.1) = true then (some (.inr (([], false, ()), ()))) else ((zn M r37.1.1 r38.1.1 s f n t ((List.replicate (Int.toNat (12 : Int)) ([] : List Int)).set (Int.toNat (IntKind.i64.wrap ((-1 : Int) - n))) t) (List.length f : Int) (0 : Int)).bind (Sum.elim (fun y39 => (if List.length y39.2.2.2.2.2.1 * 8 ≤ 140737488355328 then (if 0 ≤ (IntKind.i64.wrap ((-1 : Int) - y39.2.2.2.2.1)) ∧ (IntKind.i64.wrap ((-1 : Int) - y39.2.2.2.2.1)) < (List.length y39.2.2.2.1 : Int) then ((y39.2.2.2.1[(Int.toNat (IntKind.i64.wrap ((-1 : Int) - y39.2.2.2.2.1)))]?).bind fun x41 => (zan M y39.1 y39.2.1 (y39.2.2.1.1, ()) (y39.2.2.2.1.set (Int.toNat (IntKind.i64.wrap ((-1 : Int) - y39.2.2.2.2.1))) y39.2.2.2.2.2.1))) else none) else none)) (fun r40 => (some (.inr r40)))))))))) else none) else none)))
noncomputable def contS (a b : List Int) (s : TSign) (f : List (List Int)) (v : Int) (t : List Int) : Option (Unit ⊕ ((List (List Int)) × Bool × Unit) × Unit) := ((zdQ M t (IntKind.i64.wrap ((-1 : Int) - v))).bind fun r10 => (if r10.1.1 = true then (some (.inr (([], false, ()), ()))) else ((zfB M f v t).bind fun r11 => ((zF M r11.1.1 a).bind fun r12 => ((zF M r11.1.1 b).bind fun r13 => (zak M a b s r11.1.1 r12.1.1 r13.1.1))))))
def goodU (a a0 b0 : List Int) (r : ((List (List Int)) × Bool × Unit) × Unit) : Prop := r.1.2.1 = true → ∃ τ, okU a τ ∧ r.1.1 = tabS τ ∧ apS τ a0 = apS τ b0 ∧ (apS τ a0).length ≤ 40
def failU : ((List (List Int)) × Bool × Unit) × Unit := (([], false, ()), ())
theorem zjl (a a0 b0 : List Int) : goodU a a0 b0 failU := fun h => by cases h
section
variable (s : TSign) (hg : gS s.1 = true) (a0 b0 : List Int) (ha : isT s.1 a0 = true) (hb : isT s.1 b0 = true)
include hg ha hb
omit ha hb in
theorem zrJ (τ : Int → List Int) (hl : ∀ v, (τ v).length ≤ 100000) (x y : List Int) (lx : x.length ≤ 100000) (ly : y.length ≤ 100000) (h : 40 < x.length ∨ 40 < y.length ∨ ∃ k : Nat, k < 12 ∧ 40 < (τ (k : Int)).length) : zak M a0 b0 s (tabS τ) x y = some (.inr failU) := by
 have hs := zsT s hg (tabS τ) (by rw [zgy]; omega) (fun t ht => by obtain ⟨k, _, rfl⟩ := zrR ht; have := hl (k : Int); omega) x y (by omega) (by omega)
 have hf : ((tabS τ).all (fun t => t.isEmpty || isT s.1 t) && (isT s.1 x && isT s.1 y)) = false := by
  have ne : ∀ z : List Int, 40 < z.length → isT s.1 z = false := fun z hz => by
   cases e : isT s.1 z with
   | false => rfl
   | true => have := (zi.1 e).1; omega
  rcases h with h | h | ⟨k, hk, h⟩
  ·rw [ne _ h]; simp
  ·rw [ne _ h]; simp
  ·have : (tabS τ).all (fun t => t.isEmpty || isT s.1 t) = false := by
    rw [List.all_eq_false]
    refine ⟨τ (k : Int), List.mem_map.2 ⟨k, by simpa using hk, rfl⟩, ?_⟩
    rw [ne _ h]
    cases e : τ (k : Int) with
    | nil => rw [e] at h; simp at h
    | cons _ _ => simp
   rw [this]; rfl
 rw [hf] at hs
 apply zbG
 simp only [zaW, zb, hs, Option.bind_some]
 rfl
theorem zyU (σ : Int → List Int) (hσ : okU s.1 σ) (hx : (apS σ a0).length ≤ 40) (hy : (apS σ b0).length ≤ 40)
  (ih : ∀ τ, okU s.1 τ → nbound σ < nbound τ → (apS τ a0).length ≤ 40 → (apS τ b0).length ≤ 40 → ∃ r, zan M (apS τ a0) (apS τ b0) s (tabS τ) = some (.inr r) ∧ zak M a0 b0 s (tabS τ) (apS τ a0) (apS τ b0) = some (.inr r) ∧ goodU s.1 a0 b0 r)
  (n : Int) (t : List Int) (hn : n < 0) (h12 : -12 ≤ n) (ht : isT s.1 t = true) (hft : Free σ t) (hb0 : σ (-1 - n) = []) :
  ∃ r, contI (apS σ a0) (apS σ b0) s (tabS σ) n t = some (.inr r) ∧ contS a0 b0 s (tabS σ) (-1 - n) t = some (.inr r) ∧ goodU s.1 a0 b0 r := by
 obtain ⟨t1, t2⟩ := zi.1 ht
 obtain ⟨a1, a2⟩ := zi.1 ha
 obtain ⟨b1, b2⟩ := zi.1 hb
 have tne : t ≠ [] := List.length_pos_iff.1 (Tm.pos t2)
 have hw : IntKind.i64.wrap (-1 - n) = -1 - n := w64 (by omega) (by omega)
 have hw2 : IntKind.i64.wrap (-1 - (-1 - n)) = n := by rw [w64 (by omega) (by omega)]; omega
 by_cases hin : n ∈ t
 ·refine ⟨failU, ?_, ?_, zjl _ _ _⟩
  ·simp only [contI, znO t n (by omega), decide_eq_true hin, Option.bind_some]
   rfl
  ·simp only [contS, hw2, zxh t n (by omega), decide_eq_true hin, Option.bind_some]
   rfl
 ·let τ := bindS σ n t
  have hTσ : ∀ v, σ v ≠ [] → Tm s.1 (σ v) := fun v h => (zi.1 (hσ.1 v h).1).2
  have hTτ : ∀ v, τ v ≠ [] → Tm s.1 (τ v) := zyq hg hTσ t2
  have l60 : ∀ v, (oneS n t v).length ≤ 60 := fun v => by
   unfold oneS
   split
   ·omega
   ·simp
  have lτ : ∀ v, (τ v).length ≤ 100000 := by
   intro v
   show (bindS σ n t v).length ≤ 100000
   unfold bindS
   split
   ·omega
   ·split
    ·have := zhZ l60 (σ v)
     have := hσ.len v
     omega
    ·simp
  have smx : smT (apS σ a0) := ⟨by omega, fun m hm => (zni _ 1 (zg7 hg hTσ a2) m hm).1⟩
  have smy : smT (apS σ b0) := ⟨by omega, fun m hm => (zni _ 1 (zg7 hg hTσ b2) m hm).1⟩
  have ex : apS τ a0 = apS (oneS n t) (apS σ a0) := zqA hn tne hb0 a0
  have ey : apS τ b0 = apS (oneS n t) (apS σ b0) := zqA hn tne hb0 b0
  have lx : (apS τ a0).length ≤ 100000 := by rw [ex]; have := zhZ l60 (apS σ a0); omega
  have ly : (apS τ b0).length ≤ 100000 := by rw [ey]; have := zhZ l60 (apS σ b0); omega
  have bnd := zxS σ n t hn h12 t1 (fun k _ => hσ.sm k)
  have apa := zf5 _ _ (ze4 τ) lτ a0 (by omega) (zco ha).2
  have apb := zf5 _ _ (ze4 τ) lτ b0 (by omega) (zco hb).2
  have hS : contS a0 b0 s (tabS σ) (-1 - n) t = zak M a0 b0 s (tabS τ) (apS τ a0) (apS τ b0) := by
   simp only [contS, hw2, zxh t n (by omega), decide_eq_false hin, Bool.false_eq_true, if_false, bnd, Option.bind_some]
   rw [apa]
   simp only [Option.bind_some]
   rw [apb]
   rfl
  have aI := zmi _ _ (ze4 (oneS n t)) (zn0 t1) (apS σ a0) (by omega) smx.2
  have bI := zmi _ _ (ze4 (oneS n t)) (zn0 t1) (apS σ b0) (by omega) smy.2
  rw [← ex] at aI
  rw [← ey] at bI
  have lp := zw6 s (apS τ a0) (apS τ b0) σ n t hn h12 t1 (fun k _ => hσ.sm k) 12 0 (by omega)
  have e0 : (tab fun i => if i < 0 then putS σ n t i else σ (i : Int)) = tabS σ := zeM fun i _ => by rw [if_neg (by omega)]
  rw [e0, show ((0 : Nat) : Int) = 0 from rfl] at lp
  have hlen : ((tabS σ).length : Int) = 12 := by rw [zgy]; rfl
  have headI : ∀ r, (zbm M (tabS (oneS n t)) (apS σ a0)).bind (fun r37 => (zbm M (tabS (oneS n t)) (apS σ b0)).bind fun r38 => if (!r37.1.2.1) = true then some (.inr (([], false, ()), ())) else if (!r38.1.2.1) = true then some (.inr (([], false, ()), ())) else (zn M r37.1.1 r38.1.1 s (tabS σ) n t (tabS (oneS n t)) 12 0).bind (Sum.elim (fun y39 => if y39.2.2.2.2.2.1.length * 8 ≤ 140737488355328 then if 0 ≤ IntKind.i64.wrap (-1 - y39.2.2.2.2.1) ∧ IntKind.i64.wrap (-1 - y39.2.2.2.2.1) < (y39.2.2.2.1.length : Int) then (y39.2.2.2.1[(IntKind.i64.wrap (-1 - y39.2.2.2.2.1)).toNat]?).bind fun x41 => zan M y39.1 y39.2.1 (y39.2.2.1.1, ()) (y39.2.2.2.1.set (IntKind.i64.wrap (-1 - y39.2.2.2.2.1)).toNat y39.2.2.2.2.2.1) else none else none) fun r40 => some (.inr r40))) = some (.inr r) → contI (apS σ a0) (apS σ b0) s (tabS σ) n t = some (.inr r) := by
   intro r hr
   simp only [contI, znO t n (by omega), decide_eq_false hin, Bool.false_eq_true, if_false, Option.bind_some, hw]
   rw [if_pos ⟨by decide, by decide, trivial⟩, show (12 : Int).toNat = 12 from rfl, if_pos (by simp; omega), List.getElem?_eq_getElem (by simp; omega)]
   simp only [Option.bind_some]
   rw [zvL hn h12, hlen]
   exact hr
  by_cases bx : (apS τ a0).length ≤ 40
  ·rw [if_pos bx] at aI
   by_cases bY : (apS τ b0).length ≤ 40
   ·rw [if_pos bY] at bI
    rcases lp with ⟨q1, q2⟩ | ⟨q1, k, k1, k2⟩
    ·have hok : okU s.1 τ := by
      refine ⟨fun v hv => ?_, zwK hn tne hσ.2 hft hin⟩
      have hdom : 0 ≤ v ∧ v ≤ 11 := by
       by_cases e : v = -1 - n
       ·omega
       ·by_cases q : σ v = []
        ·refine absurd ?_ hv
         show bindS σ n t v = []
         unfold bindS; rw [if_neg e, if_neg (by simpa using q)]
        ·exact (hσ.1 v q).2
      refine ⟨zi.2 ⟨?_, hTτ v hv⟩, hdom⟩
      show (bindS σ n t v).length ≤ 40
      by_cases e : v = -1 - n
      ·unfold bindS; rw [if_pos e]; exact t1
      ·have := q2 v.toNat (Nat.zero_le _) (by omega)
       unfold putS at this
       rw [show ((v.toNat : Nat) : Int) = v by omega] at this
       unfold bindS
       rw [if_neg e]
       exact this
     obtain ⟨r, r1, r2, r3⟩ := ih τ hok (zvl hn h12 tne hb0) bx bY
     refine ⟨r, headI r ?_, by rw [hS]; exact r2, r3⟩
     rw [aI]
     simp only [Option.bind_some]
     rw [bI]
     simp only [Option.bind_some, Bool.not_true, Bool.false_eq_true, if_false, q1, Sum.elim_inl, zb, hw]
     rw [if_pos (by omega), if_pos (by rw [zgy]; omega), zhU _ (by omega)]
     simp only [Option.bind_some, zui σ hn h12 t]
     exact r1
    ·refine ⟨failU, headI _ ?_, ?_, zjl _ _ _⟩
     ·rw [aI]
      simp only [Option.bind_some]
      rw [bI]
      simp only [Option.bind_some, Bool.not_true, Bool.false_eq_true, if_false, q1, Sum.elim_inr]
      rfl
     ·rw [hS]
      refine zrJ s hg a0 b0 τ lτ _ _ lx ly (.inr (.inr ⟨k, k1, ?_⟩))
      show 40 < (bindS σ n t (k : Int)).length
      have hk2 := k2
      unfold putS at hk2
      by_cases e : (k : Int) = -1 - n
      ·exfalso
       rw [if_neg (by rw [e, hb0]; simp)] at hk2
       simp at hk2
      ·unfold bindS
       rw [if_neg e]
       exact hk2
   ·rw [if_neg bY] at bI
    refine ⟨failU, headI _ ?_, by rw [hS]; exact zrJ s hg a0 b0 τ lτ _ _ lx ly (.inr (.inl (by omega))), zjl _ _ _⟩
    rw [aI]
    simp only [Option.bind_some]
    rw [bI]
    rfl
  ·rw [if_neg bx] at aI
   refine ⟨failU, headI _ ?_, by rw [hS]; exact zrJ s hg a0 b0 τ lτ _ _ lx ly (.inl (by omega)), zjl _ _ _⟩
   rw [aI]
   simp only [Option.bind_some]
   rw [bI]
   split <;> rfl
theorem zuy (σ : Int → List Int) (hσ : okU s.1 σ) (hx : (apS σ a0).length ≤ 40) (hy : (apS σ b0).length ≤ 40)
  (ih : ∀ τ, okU s.1 τ → nbound σ < nbound τ → (apS τ a0).length ≤ 40 → (apS τ b0).length ≤ 40 → ∃ r, zan M (apS τ a0) (apS τ b0) s (tabS τ) = some (.inr r) ∧ zak M a0 b0 s (tabS τ) (apS τ a0) (apS τ b0) = some (.inr r) ∧ goodU s.1 a0 b0 r) :
  ∃ r, zan M (apS σ a0) (apS σ b0) s (tabS σ) = some (.inr r) ∧ zak M a0 b0 s (tabS σ) (apS σ a0) (apS σ b0) = some (.inr r) ∧ goodU s.1 a0 b0 r := by
 have step := zyU s hg a0 b0 ha hb σ hσ hx hy ih
 obtain ⟨a1, a2⟩ := zi.1 ha
 obtain ⟨b1, b2⟩ := zi.1 hb
 have hTσ : ∀ v, σ v ≠ [] → Tm s.1 (σ v) := fun v h => (zi.1 (hσ.1 v h).1).2
 have tx : Tm s.1 (apS σ a0) := zg7 hg hTσ a2
 have ty : Tm s.1 (apS σ b0) := zg7 hg hTσ b2
 have fx : Free σ (apS σ a0) := Free.apS hσ.2 a0
 have fy : Free σ (apS σ b0) := Free.apS hσ.2 b0
 generalize hX : apS σ a0 = x at *
 generalize hY : apS σ b0 = y at *
 have hsz : zgw M s (tabS σ) x y = some ((true, ()), ()) := by
  rw [zsT s hg (tabS σ) (by rw [zgy]; omega) (fun t ht => by obtain ⟨k, _, rfl⟩ := zrR ht; have := hσ.len (k : Int); omega) x y (by omega) (by omega), zi.2 ⟨hx, tx⟩, zi.2 ⟨hy, ty⟩]
  have : (tabS σ).all (fun t => t.isEmpty || isT s.1 t) = true := by
   rw [List.all_eq_true]
   intro t ht
   obtain ⟨k, _, rfl⟩ := zrR ht
   by_cases e : σ (k : Int) = []
   ·rw [e]; rfl
   ·rw [(hσ.1 _ e).1]; simp
  rw [this]; rfl
 have hsl : s.1.length ≤ 10 := by
  have hg' := hg
  simp only [gS, Bool.and_eq_true, decide_eq_true_eq] at hg'
  exact hg'.2.1
 have alS := zxT a0 b0 s (tabS σ) x y (by omega) (lcp x y) 0 (by omega)
 have alI := zyc s (tabS σ) x y (by omega) (lcp x y) 0 (by omega)
 rw [show ((0 : Nat) : Int) = 0 from rfl] at alS alI
 have hle := zre x y
 by_cases h1 : lcp x y = x.length
 ·have exy := zvp hg tx ty (.inl h1)
  refine ⟨((tabS σ, true, ()), ()), zbB _ _ _ _ ?_, zbG _ _ _ _ _ _ ?_, fun _ => ⟨σ, hσ, rfl, by rw [hX, hY]; exact exy, by rw [hX]; exact hx⟩⟩
  ·simp only [zaM, zb, alI, Option.bind_some, Sum.elim_inl]
   rw [if_pos (by simp [h1])]
  ·simp only [zaW, zb, hsz, Option.bind_some, Bool.not_true, Bool.false_eq_true, if_false, alS, Sum.elim_inl]
   rw [if_pos (by simp [h1])]
 ·have h2 : lcp x y ≠ y.length := fun e => by
   have exy := zvp hg tx ty (.inr e)
   rw [e, exy] at h1
   exact h1 rfl
  have i1 : lcp x y < x.length := by omega
  have i2 : lcp x y < y.length := by omega
  have hne := zrl x y i1 i2
  have ex : idx x (lcp x y : Int) = some x[lcp x y] := ze i1
  have ey : idx y (lcp x y : Int) = some y[lcp x y] := ze i2
  have mx : x[lcp x y] ∈ x := List.getElem_mem i1
  have my : y[lcp x y] ∈ y := List.getElem_mem i2
  have gx : x[lcp x y]? = some x[lcp x y] := List.getElem?_eq_getElem i1
  have gy : y[lcp x y]? = some y[lcp x y] := List.getElem?_eq_getElem i2
  have dx : x.drop (lcp x y) = x[lcp x y] :: x.drop (lcp x y + 1) := List.drop_eq_getElem_cons i1
  have dy : y.drop (lcp x y) = y[lcp x y] :: y.drop (lcp x y + 1) := List.drop_eq_getElem_cons i2
  have nx := zni x 1 tx _ mx
  have ny := zni y 1 ty _ my
  have var : ∀ k : Int, k < 0 → -12 ≤ k → Tm s.1 [k] := fun k k0 k1 => by
   have hb : ¬ badN s.1 k := by unfold badN; omega
   show sE s.1 1 [k] = some []
   simp only [sE]
   rw [if_neg (by omega), if_neg hb]
   unfold ar
   rw [if_pos k0]
   rfl
  obtain ⟨ux, zx, px, qx, vx⟩ : ∃ u z, x.drop (lcp x y) = u ++ z ∧ Tm s.1 u ∧ (x[lcp x y] < 0 → u = [x[lcp x y]]) := by
   by_cases h : x[lcp x y] < 0
   ·exact ⟨[x[lcp x y]], _, dx, var _ h nx.1, fun _ => rfl⟩
   ·obtain ⟨u, z, p, q⟩ := Tm.at hg tx i1
    exact ⟨u, z, p, q, fun h' => absurd h' h⟩
  obtain ⟨uy, zy, py, qy, vy⟩ : ∃ u z, y.drop (lcp x y) = u ++ z ∧ Tm s.1 u ∧ (y[lcp x y] < 0 → u = [y[lcp x y]]) := by
   by_cases h : y[lcp x y] < 0
   ·exact ⟨[y[lcp x y]], _, dy, var _ h ny.1, fun _ => rfl⟩
   ·obtain ⟨u, z, p, q⟩ := Tm.at hg ty i2
    exact ⟨u, z, p, q, fun h' => absurd h' h⟩
  have pSx := zoM s hg x (by omega) px qx
  have pSy := zoM s hg y (by omega) py qy
  have pIx := zrT s hg x (by omega) px qx
  have pIy := zrT s hg y (by omega) py qy
  have lux : ux.length ≤ 40 := by
   have := congrArg List.length px
   simp at this; omega
  have luy : uy.length ≤ 40 := by
   have := congrArg List.length py
   simp at this; omega
  have fux : Free σ ux := fun k hk h0 => fx k (by
   have : k ∈ x.drop (lcp x y) := by rw [px]; exact List.mem_append_left _ hk
   exact List.mem_of_mem_drop this) h0
  have fuy : Free σ uy := fun k hk h0 => fy k (by
   have : k ∈ y.drop (lcp x y) := by rw [py]; exact List.mem_append_left _ hk
   exact List.mem_of_mem_drop this) h0
  have hwx : IntKind.i64.wrap (-1 - x[lcp x y]) = -1 - x[lcp x y] := w64 (by omega) (by have := nx.1; omega)
  have hwy : IntKind.i64.wrap (-1 - y[lcp x y]) = -1 - y[lcp x y] := w64 (by omega) (by have := ny.1; omega)
  generalize hN : x[lcp x y] = n at *
  generalize hM : y[lcp x y] = k at *
  have e1 : ((lcp x y : Int) == (x.length : Int)) = false := by simp; omega
  have e2 : ((lcp x y : Int) == (y.length : Int)) = false := by simp; omega
  have hpx : 0 ≤ (lcp x y : Int) ∧ (lcp x y : Int) < (x.length : Int) := by omega
  have hpy : 0 ≤ (lcp x y : Int) ∧ (lcp x y : Int) < (y.length : Int) := by omega
  by_cases hn : n < 0
  ·have dn0 : decide (n ≥ 0) = false := by simp; omega
   have dn1 : decide (n < 0) = true := by simpa using hn
   by_cases hk : k < 0
   ·have dk0 : decide (k ≥ 0) = false := by simp; omega
    have dk1 : decide (k < 0) = true := by simpa using hk
    have hux := vx hn
    have huy := vy hk
    by_cases hlt : k < n
    ·obtain ⟨r, r1, r2, r3⟩ := step k ux hk ny.1 (zi.2 ⟨lux, qx⟩) fux (fy k my hk)
     have g1 : decide (-1 - k > -1 - n) = true := by simp; omega
     refine ⟨r, zbB _ _ _ _ ?_, zbG _ _ _ _ _ _ ?_, r3⟩
     ·simp only [zaM, zb, alI, Option.bind_some, Sum.elim_inl, e1, e2, ex, ey, dn0, dn1, dk0, dk1, Bool.false_eq_true, if_false, if_true]
      rw [if_pos hlt, if_neg (show ¬ k > n by omega), ← hux]
      exact r1
     ·simp only [zaW, zb, hsz, Option.bind_some, Bool.not_true, Bool.false_eq_true, if_false, alS, Sum.elim_inl, e1, if_pos hpx, if_pos hpy, Int.toNat_natCast, gx, gy, dn0, dk1, hwx, hwy, pSy, pSx, g1, if_true]
      exact r2
    ·obtain ⟨r, r1, r2, r3⟩ := step n uy hn nx.1 (zi.2 ⟨luy, qy⟩) fuy (fx n mx hn)
     have g1 : decide (-1 - k > -1 - n) = false := by simp; omega
     refine ⟨r, zbB _ _ _ _ ?_, zbG _ _ _ _ _ _ ?_, r3⟩
     ·simp only [zaM, zb, alI, Option.bind_some, Sum.elim_inl, e1, e2, ex, ey, dn0, dn1, dk0, dk1, Bool.false_eq_true, if_false, if_true]
      rw [if_neg hlt, if_pos (show k > n by omega), ← huy]
      exact r1
     ·simp only [zaW, zb, hsz, Option.bind_some, Bool.not_true, Bool.false_eq_true, if_false, alS, Sum.elim_inl, e1, if_pos hpx, if_pos hpy, Int.toNat_natCast, gx, gy, dn0, dk1, hwx, hwy, pSy, pSx, g1, if_true]
      exact r2
   ·have dk0 : decide (k ≥ 0) = true := by simp; omega
    have dk1 : decide (k < 0) = false := by simpa using hk
    obtain ⟨r, r1, r2, r3⟩ := step n uy hn nx.1 (zi.2 ⟨luy, qy⟩) fuy (fx n mx hn)
    refine ⟨r, zbB _ _ _ _ ?_, zbG _ _ _ _ _ _ ?_, r3⟩
    ·simp only [zaM, zb, alI, Option.bind_some, Sum.elim_inl, e1, e2, ex, ey, dn0, dn1, dk0, dk1, Bool.false_eq_true, if_false, if_true, pIy]
     exact r1
    ·simp only [zaW, zb, hsz, Option.bind_some, Bool.not_true, Bool.false_eq_true, if_false, alS, Sum.elim_inl, e1, if_pos hpx, if_pos hpy, Int.toNat_natCast, gx, gy, dn0, dk1, hwx, hwy, pSy, pSx, if_true]
     exact r2
  ·have dn0 : decide (n ≥ 0) = true := by simp; omega
   have dn1 : decide (n < 0) = false := by simpa using hn
   by_cases hk : k < 0
   ·have dk0 : decide (k ≥ 0) = false := by simp; omega
    have dk1 : decide (k < 0) = true := by simpa using hk
    obtain ⟨r, r1, r2, r3⟩ := step k ux hk ny.1 (zi.2 ⟨lux, qx⟩) fux (fy k my hk)
    refine ⟨r, zbB _ _ _ _ ?_, zbG _ _ _ _ _ _ ?_, r3⟩
    ·simp only [zaM, zb, alI, Option.bind_some, Sum.elim_inl, e1, e2, ex, ey, dn0, dn1, dk0, dk1, Bool.false_eq_true, if_false, if_true, pIx]
     exact r1
    ·simp only [zaW, zb, hsz, Option.bind_some, Bool.not_true, Bool.false_eq_true, if_false, alS, Sum.elim_inl, e1, if_pos hpx, if_pos hpy, Int.toNat_natCast, gx, gy, dn0, dk0, dk1, hwx, hwy, pSy, pSx, if_true]
     exact r2
   ·have dk0 : decide (k ≥ 0) = true := by simp; omega
    refine ⟨failU, zbB _ _ _ _ ?_, zbG _ _ _ _ _ _ ?_, zjl _ _ _⟩
    ·simp only [zaM, zb, alI, Option.bind_some, Sum.elim_inl, e1, e2, ex, ey, dn0, dk0, Bool.false_eq_true, if_false, if_true]
     rfl
    ·simp only [zaW, zb, hsz, Option.bind_some, Bool.not_true, Bool.false_eq_true, if_false, alS, Sum.elim_inl, e1, if_pos hpx, if_pos hpy, Int.toNat_natCast, gx, gy, dn0, dk0, if_true]
     rfl
theorem zyV : ∀ (m : Nat) (σ : Int → List Int), 12 - nbound σ ≤ m → okU s.1 σ → (apS σ a0).length ≤ 40 → (apS σ b0).length ≤ 40 → ∃ r, zan M (apS σ a0) (apS σ b0) s (tabS σ) = some (.inr r) ∧ zak M a0 b0 s (tabS σ) (apS σ a0) (apS σ b0) = some (.inr r) ∧ goodU s.1 a0 b0 r := by
 intro m
 induction m with
 | zero =>
  intro σ hm hσ hx hy
  refine zuy s hg a0 b0 ha hb σ hσ hx hy (fun τ _ hlt _ _ => ?_)
  have := zsR τ
  omega
 | succ m ih =>
  intro σ hm hσ hx hy
  refine zuy s hg a0 b0 ha hb σ hσ hx hy (fun τ hτ hlt h1 h2 => ih τ ?_ hτ h1 h2)
  have := zsR τ
  omega
theorem zy1 : ∃ r, zgi M s a0 b0 = some r ∧ zhV M s a0 b0 = some r ∧ goodU s.1 a0 b0 r := by
 obtain ⟨a1, a2⟩ := zi.1 ha
 obtain ⟨b1, b2⟩ := zi.1 hb
 have h0 : okU s.1 (fun _ => []) := ⟨fun v h => absurd rfl h, fun u m hm => by cases hm⟩
 have e : ∀ T : List Int, apS (fun _ => []) T = T := fun T => zqE (fun m _ _ => rfl)
 obtain ⟨r, r1, r2, r3⟩ := zyV s hg a0 b0 ha hb 12 (fun _ => []) (by omega) h0 (by rw [e]; exact a1) (by rw [e]; exact b1)
 rw [e, e] at r1 r2
 refine ⟨r, zpW _ _ _ ?_, zr7 _ _ _ ?_, r3⟩
 ·simp only [zig]
  rw [if_pos ⟨by decide, by decide, trivial⟩, show (12 : Int).toNat = 12 from rfl, zb, show List.replicate 12 ([] : List Int) = tabS (fun _ => []) from rfl, r1]
  rfl
 ·simp only [zkj]
  rw [if_pos ⟨by decide, by decide, trivial⟩, show (12 : Int).toNat = 12 from rfl, zb, zkD a0 (by omega), zkD b0 (by omega)]
  simp only [Option.bind_some]
  rw [show List.replicate 12 ([] : List Int) = tabS (fun _ => []) from rfl, r2]
  rfl
end
end Go.Proofs.YtenknihdnkiplaaGreatSs.Ev
namespace Go.Proofs.YtenknihdnkiplaaGreatSs.Ev
open Go
set_option autoImplicit false
set_option linter.unusedVariables false
set_option linter.unusedSimpArgs false
theorem zyD (s : TSign) (hg : gS s.1 = true) (t : List Int) : zdr M t s = some ((!isT s.1 t, ()), ()) := by
 apply zm0
 simp only [zf8, zg, zqV s hg t, Option.bind_some]
theorem ztD (s : TSign) (hg : gS s.1 = true) (a : List (List Int)) (ha : a.length ≤ 17592186044416) : ∀ k i : Nat, i + k = a.length → ∃ r, zq M a (s, ()) a.length i = some r ∧ (match r with | .inl _ => (a.drop i).all (isT s.1) = true | .inr r => 0 ≤ r.1.1 ∧ (a.drop i).all (isT s.1) = false) := by
 intro k
 induction k with
 | zero =>
  intro i hi
  obtain rfl : i = a.length := by omega
  refine ⟨.inl (), zam _ _ _ _ (by simp [zm]), by simp⟩
 | succ k ih =>
  intro i hi
  have h1 : i < a.length := by omega
  obtain ⟨r, hr, hm⟩ := ih (i + 1) (by omega)
  rw [List.drop_eq_getElem_cons h1, List.all_cons]
  by_cases hp : isT s.1 a[i] = true
  ·refine ⟨r, zam _ _ _ _ ?_, by rw [hp, Bool.true_and]; exact hm⟩
   simp only [zm]
   rw [if_pos (by simpa using h1), ze h1, za (by omega)]
   simp only [Option.bind_some, zyD s hg, hp, Bool.not_true, Bool.false_eq_true, if_false]
   exact hr
  ·rw [Bool.not_eq_true] at hp
   refine ⟨.inr (((i : Int), ()), ()), zam _ _ _ _ ?_, Int.natCast_nonneg i, by rw [hp, Bool.false_and]⟩
   simp only [zm]
   rw [if_pos (by simpa using h1), ze h1]
   simp only [Option.bind_some, zyD s hg, hp, Bool.not_false, if_true]
theorem zwe (s : TSign) (hg : gS s.1 = true) (a : List (List Int)) (ha : a.length ≤ 17592186044416) : zcG M s a = some ((a.all (isT s.1), ()), ()) := by
 obtain ⟨r, hr, hm⟩ := ztD s hg a ha a.length 0 (by omega)
 rw [show ((0 : Nat) : Int) = 0 from rfl] at hr
 rw [List.drop_zero] at hm
 have key : zS M a (s, ()) = some ((!(a.all (isT s.1)), ()), ()) := by
  apply zdL
  simp only [zao]
  cases r with
  | inl r =>
   rw [zbr a (s, ()) (r := ((-1, ()), ())) (by simp only [zU, hr, Option.bind_some, Sum.elim_inl])]
   simp only at hm
   simp [hm]
  | inr r =>
   rw [zbr a (s, ()) (r := r) (by simp only [zU, hr, Option.bind_some, Sum.elim_inr])]
   simp only at hm
   simp [hm]
 apply znS
 simp only [zgL, zg, key, Option.bind_some, Bool.not_not]
theorem zmW (c : List TLit) (ts : List (List Int)) (hc : c.length ≤ 1000000) (hl : 2 * c.length ≤ ts.length) : zcg M c ts = some ((wtZ c ts, ()), ()) := by
 apply zqh
 simp only [ziU]
 rw [if_pos ⟨hc, hl⟩]
end Go.Proofs.YtenknihdnkiplaaGreatSs.Ev
namespace Go.Proofs.YtenknihdnkiplaaGreatSs.Ev
open Go
set_option autoImplicit false
set_option linter.unusedVariables false
set_option linter.unusedSimpArgs false
def far (L : List Int) : Int := match L.getLast? with
 | some v => v + 1
 | none => 0
theorem zpt {L : List Int} (h : 0 < L.length) : ∃ v, L[L.length - 1]? = some v ∧ far L = v + 1 ∧ v ∈ L := by
 have h1 : L.length - 1 < L.length := by omega
 refine ⟨L[L.length - 1], List.getElem?_eq_getElem h1, ?_, List.getElem_mem h1⟩
 unfold far
 rw [List.getLast?_eq_getElem?, List.getElem?_eq_getElem h1]
theorem zpu {L : List Int} (h : ∀ v ∈ L, 0 ≤ v ∧ v ≤ 11) : 0 ≤ far L ∧ far L ≤ 12 := by
 by_cases h0 : 0 < L.length
 ·obtain ⟨v, _, e, hv⟩ := zpt h0
  have := h v hv; omega
 ·have : L = [] := List.length_eq_zero_iff.1 (by omega)
  subst this
  simp [far]
theorem zxf (c : List TLit) (hl : c.length ≤ 1000) (hc : ∀ x ∈ c, liV x) : zh0 M c = some ((far (upTo (inV (tms c))), ()), ()) := by
 apply zsl
 simp only [zj8, zxO c hl hc, Option.bind_some]
 have hlen := zkk (inV (tms c))
 by_cases h0 : 0 < (upTo (inV (tms c))).length
 ·obtain ⟨v, e1, e2, hv⟩ := zpt h0
  have hb := zdg.1 hv
  rw [if_neg (by simp; intro h; rw [h] at h0; simp at h0), w64 (by omega) (by omega), if_pos (by omega), show ((upTo (inV (tms c))).length : Int) - 1 = (((upTo (inV (tms c))).length - 1 : Nat) : Int) by omega, Int.toNat_natCast, e1]
  simp only [Option.bind_some]
  rw [w64 (by omega) (by omega), e2]
 ·have : upTo (inV (tms c)) = [] := List.length_eq_zero_iff.1 (by omega)
  rw [this]
  simp [far]
def shl (by' : Int) (x : TLit) : TLit := (x.1, x.2.1.map (shn by'), x.2.2.1.map (shn by'), ())
theorem zsg (s : TSign) (by' : Int) (h0 : 0 ≤ by') (h1 : by' ≤ 1000) (d : List TLit) (hl : d.length ≤ 1000) (hd : ∀ x ∈ d, x.2.1.length ≤ 1000 ∧ x.2.2.1.length ≤ 1000 ∧ (∀ n ∈ x.2.1, -1000 ≤ n ∧ n ≤ 1000) ∧ ∀ n ∈ x.2.2.1, -1000 ≤ n ∧ n ≤ 1000) : ∀ k i : Nat, i + k = d.length → ∀ o : List TLit, o.length = i → zdC M s by' o d d.length i = some (.inl (s, o ++ (d.drop i).map (shl by'), ())) := by
 intro k
 induction k with
 | zero =>
  intro i hi o ho
  obtain rfl : i = d.length := by omega
  exact zjW _ _ _ _ _ _ (by simp [zfb])
 | succ k ih =>
  intro i hi o ho
  have h2 : i < d.length := by omega
  obtain ⟨d1, d2, d3, d4⟩ := hd _ (List.getElem_mem h2)
  apply zjW
  simp only [zfb]
  rw [if_pos (by simpa using h2), ze h2]
  simp only [Option.bind_some]
  rw [zsz _ by' h0 h1 (by omega) (fun n hn => by have := d3 n hn; omega)]
  simp only [Option.bind_some]
  rw [zsz _ by' h0 h1 (by omega) (fun n hn => by have := d4 n hn; omega)]
  simp only [Option.bind_some]
  rw [if_pos (by simp; omega), za (by omega), zg, ih (i + 1) (by omega) _ (by simp [ho]), List.drop_eq_getElem_cons h2, List.map_cons, List.append_assoc]
  rfl
theorem zuM (d : List TLit) (s : TSign) (by' : Int) (h0 : 0 ≤ by') (h1 : by' ≤ 1000) (ts : List (List Int)) (hl : ts.length ≤ 1000) (ht : ∀ t ∈ ts, t.length ≤ 1000 ∧ ∀ n ∈ t, -1000 ≤ n ∧ n ≤ 1000) : ∀ k i : Nat, i + k = ts.length →
  zbz M d s by' ((ts.take i).map (fun t => (some (true, t.map (shn by')) : Option (Bool × List Int))) ++ (ts.drop i).map (fun t => some (false, t))) ts.length i = some (.inl (d, s, ts.map (fun t => some (true, t.map (shn by'))), ())) := by
 intro k
 induction k with
 | zero =>
  intro i hi
  obtain rfl : i = ts.length := by omega
  apply zit
  simp [zds]
 | succ k ih =>
  intro i hi
  have h2 : i < ts.length := by omega
  obtain ⟨t1, t2⟩ := ht _ (List.getElem_mem h2)
  have hlen : ((ts.take i).map (fun t => (some (true, t.map (shn by')) : Option (Bool × List Int))) ++ (ts.drop i).map (fun t => some (false, t))).length = ts.length := by simp; omega
  have hget : ((ts.take i).map (fun t => (some (true, t.map (shn by')) : Option (Bool × List Int))) ++ (ts.drop i).map (fun t => some (false, t)))[i]? = some (some (false, ts[i])) := by
   rw [List.getElem?_append_right (by simp; omega)]
   simp [Nat.min_eq_left (Nat.le_of_lt h2), h2]
  have hsee : seeO ((ts.take i).map (fun t => (some (true, t.map (shn by')) : Option (Bool × List Int))) ++ (ts.drop i).map (fun t => some (false, t))) i = some ts[i] := by
   unfold seeO; rw [hget]
  have hnext : (ts.take (i + 1)).map (fun t => (some (true, t.map (shn by')) : Option (Bool × List Int))) ++ (ts.drop (i + 1)).map (fun t => some (false, t)) = ((ts.take i).map (fun t => (some (true, t.map (shn by')) : Option (Bool × List Int))) ++ (ts.drop i).map (fun t => some (false, t))).set i (some (true, ts[i].map (shn by'))) := by
   rw [List.take_succ_eq_append_getElem h2, List.map_append, List.set_append_right _ _ (by simp; omega)]
   have e : i - ((ts.take i).map (fun t => (some (true, t.map (shn by')) : Option (Bool × List Int)))).length = 0 := by simp; omega
   rw [e, List.drop_eq_getElem_cons h2]
   simp only [List.map_cons, List.map_nil, List.set_cons_zero, List.append_assoc, List.cons_append, List.nil_append]
  have ih' := ih (i + 1) (by omega)
  rw [hnext] at ih'
  apply zit
  simp only [zds]
  rw [if_pos (by simpa using h2), if_pos (by rw [hlen]; omega), Int.toNat_natCast, hsee]
  simp only [Option.bind_some]
  rw [zy4 _ by' h0 h1 (by omega) (fun n hn => by have := t2 n hn; omega)]
  simp only [Option.bind_some]
  rw [if_pos (by rw [hlen]; omega), hget]
  simp only [Option.bind_some]
  rw [za (by omega), zg]
  exact ih'
theorem zsH (f : List Int → List Int) (ts : List (List Int)) : allOw (ts.map fun t => (some (true, f t) : Option (Bool × List Int))) = true := by
 induction ts with
 | nil => rfl
 | cons t r ih => simpa [allOw] using ih
theorem zq4 (f : List Int → List Int) (ts : List (List Int)) : forceL (ts.map fun t => (some (true, f t) : Option (Bool × List Int))) = ts.map f := by
 simp [forceL, List.map_map, Function.comp_def]
theorem zr0 (f : List Int → List Int) (d : List TLit) : wtZ d ((tms d).map f) = d.map fun x => (x.1, f x.2.1, f x.2.2.1, ()) := by
 induction d with
 | nil => rfl
 | cons x r ih =>
  have : tms (x :: r) = [x.2.1, x.2.2.1] ++ tms r := rfl
  rw [this]
  simp only [List.cons_append, List.nil_append, List.map_cons, wtZ, ih]
theorem zzc (s : List Int) (by' : Int) (d : List TLit) : ((tms d).map fun t => t.map (shn by')).all (isT s) = (d.map (shl by')).all (litOK s) := by
 induction d with
 | nil => rfl
 | cons x r ih =>
  have : tms (x :: r) = [x.2.1, x.2.2.1] ++ tms r := rfl
  rw [this]
  simp only [List.cons_append, List.nil_append, List.map_cons, List.all_cons, ih, shl, litOK, Bool.and_assoc]
theorem zqs {a : List Int} (hg : gS a = true) {c : List TLit} (h : clOK a c = true) : ∀ x ∈ c, x.2.1.length ≤ 1000 ∧ x.2.2.1.length ≤ 1000 ∧ (∀ n ∈ x.2.1, -1000 ≤ n ∧ n ≤ 1000) ∧ ∀ n ∈ x.2.2.1, -1000 ≤ n ∧ n ≤ 1000 := by
 have hal : a.length ≤ 10 := by
  simp only [gS, Bool.and_eq_true, decide_eq_true_eq] at hg
  omega
 simp only [clOK, Bool.and_eq_true, decide_eq_true_eq] at h
 intro x hx
 have := (List.all_eq_true.1 h.2) x hx
 simp only [litOK, Bool.and_eq_true] at this
 obtain ⟨l1, l2⟩ := zi3 this.1
 obtain ⟨r1, r2⟩ := zi3 this.2
 exact ⟨by omega, by omega, fun n hn => by have := l2 n hn; omega, fun n hn => by have := r2 n hn; omega⟩
def apartC (c d : List TLit) : List TLit := d.map (shl (far (upTo (inV (tms c)))))
theorem zo4 (s : TSign) (hg : gS s.1 = true) (c d : List TLit) (hc : clOK s.1 c = true) (hd : clOK s.1 d = true) : zeq M s c d = some (if (apartC c d).all (litOK s.1) = true then ((apartC c d, true, ()), ()) else (([], false, ()), ())) := by
 obtain ⟨c1, c2⟩ := ziP hc
 obtain ⟨d1, _⟩ := ziP hd
 have d2 := zqs hg hd
 have hv := zuQ (tms c) (by rw [zhY]; omega) (by
  intro t ht
  obtain ⟨x, hx, h⟩ := zbh.1 ht
  have := c2 x hx
  rcases h with rfl | rfl
  ·have := this.1; omega
  ·have := this.2.1; omega)
 have hf := zpu (L := upTo (inV (tms c))) (fun v hv => ⟨(zdg.1 hv).1, (zdg.1 hv).2.1⟩)
 have hlen := zkk (inV (tms c))
 have hloop := zuM d s (far (upTo (inV (tms c)))) hf.1 (by omega) (tms d) (by rw [zhY]; omega) (by
  intro t ht
  obtain ⟨x, hx, h⟩ := zbh.1 ht
  obtain ⟨e1, e2, e3, e4⟩ := d2 x hx
  rcases h with rfl | rfl
  ·exact ⟨e1, e3⟩
  ·exact ⟨e2, e4⟩) (tms d).length 0 (by omega)
 rw [show ((0 : Nat) : Int) = 0 from rfl] at hloop
 simp only [List.take_zero, List.map_nil, List.nil_append, List.drop_zero] at hloop
 apply zpV
 simp only [zik, zkK c (by omega), Option.bind_some, hv, zg]
 have rest : ∀ b : Int, b = far (upTo (inV (tms c))) → ((zaT M d).bind fun r5 => ((zbz M d s b (List.map (fun x => (some (false, x) : Option (Bool × List Int))) r5.1.1) (List.length r5.1.1 : Int) (0 : Int)).bind (Sum.elim (fun y6 => (if allOw y6.2.2.1 = true then ((zcG M y6.2.1 (forceL y6.2.2.1)).bind fun r8 => (if (!r8.1.1) = true then (some (([], false, ()), ())) else ((zcg M y6.1 (forceL y6.2.2.1)).bind fun r9 => (some ((r9.1.1, true, ()), ()))))) else none)) (fun r7 => (some r7)))) : Option ((List TLit × Bool × Unit) × Unit)) = some (if (apartC c d).all (litOK s.1) = true then ((apartC c d, true, ()), ()) else (([], false, ()), ())) := by
  intro b hb
  subst hb
  rw [zkK d (by omega)]
  simp only [Option.bind_some, hloop, Sum.elim_inl]
  rw [if_pos (zsH _ _), zq4, zwe s hg _ (by simp only [List.length_map, zhY]; omega)]
  simp only [Option.bind_some, zzc]
  show _ = some (if ((d.map (shl (far (upTo (inV (tms c)))))).all (litOK s.1)) = true then _ else _)
  cases hh : (d.map (shl (far (upTo (inV (tms c)))))).all (litOK s.1) with
  | false => rfl
  | true =>
   simp only [Bool.not_true, Bool.false_eq_true, if_false, if_true]
   rw [zmW d _ (by omega) (by simp only [List.length_map, zhY]; omega), zr0]
   rfl
 by_cases h0 : 0 < (upTo (inV (tms c))).length
 ·obtain ⟨v, e1, e2, hv⟩ := zpt h0
  have hb := zdg.1 hv
  rw [if_pos (by simp; omega), w64 (by omega) (by omega), if_pos (by omega), show ((upTo (inV (tms c))).length : Int) - 1 = (((upTo (inV (tms c))).length - 1 : Nat) : Int) by omega, Int.toNat_natCast, e1]
  simp only [Option.bind_some, Sum.elim_inl]
  exact rest _ (by rw [w64 (x := v + 1) (by omega) (by omega), e2])
 ·rw [if_neg (by rw [decide_eq_true_eq]; omega)]
  simp only [Option.bind_some, Sum.elim_inl]
  refine rest 0 ?_
  have : upTo (inV (tms c)) = [] := List.length_eq_zero_iff.1 (by omega)
  rw [this]; rfl
theorem zpn (s : TSign) (hg : gS s.1 = true) (c d : List TLit) (hc : clOK s.1 c = true) (hd : clOK s.1 d = true) : zgz M s c d = some (if (apartC c d).all (litOK s.1) = true then ((apartC c d, true, ()), ()) else (([], false, ()), ())) := by
 obtain ⟨c1, c2⟩ := ziP hc
 obtain ⟨d1, _⟩ := ziP hd
 have d2 := zqs hg hd
 have hf := zpu (L := upTo (inV (tms c))) (fun v hv => ⟨(zdg.1 hv).1, (zdg.1 hv).2.1⟩)
 have hloop := zsg s (far (upTo (inV (tms c)))) hf.1 (by omega) d (by omega) d2 d.length 0 (by omega) [] rfl
 rw [show ((0 : Nat) : Int) = 0 from rfl] at hloop
 simp only [List.nil_append, List.drop_zero] at hloop
 have hsm : ∀ x ∈ d.map (shl (far (upTo (inV (tms c))))), smL x := by
  intro x hx
  obtain ⟨y, hy, rfl⟩ := List.mem_map.1 hx
  obtain ⟨e1, e2, _, _⟩ := d2 y hy
  exact ⟨by simp [shl]; omega, by simp [shl]; omega⟩
 apply zr8
 simp only [zj4, zxf c (by omega) c2, Option.bind_some, zg, hloop, Sum.elim_inl]
 have hm : ziD M s (d.map (shl (far (upTo (inV (tms c)))))) = some (if (apartC c d).all (litOK s.1) = true then ((apartC c d, true, ()), ()) else (([], false, ()), ())) := by
  apply ztd
  simp only [zk1, zg, zcP s hg _ (by simp; omega) hsm, Option.bind_some]
  have : clOK s.1 (d.map (shl (far (upTo (inV (tms c)))))) = (apartC c d).all (litOK s.1) := by
   simp only [clOK, List.length_map, decide_eq_true d1, Bool.true_and]; rfl
  rw [this]
  cases (apartC c d).all (litOK s.1) <;> rfl
 rw [hm]
 cases (apartC c d).all (litOK s.1) <;> rfl
end Go.Proofs.YtenknihdnkiplaaGreatSs.Ev
namespace Go.Proofs.YtenknihdnkiplaaGreatSs.Ev
open Go
set_option autoImplicit false
set_option linter.unusedVariables false
set_option linter.unusedSimpArgs false
def apC (σ : Int → List Int) (c : List TLit) : List TLit := c.map fun x => (x.1, apS σ x.2.1, apS σ x.2.2.1, ())
theorem zr5 (σ : Int → List Int) (hb : ∀ v, (σ v).length ≤ 100000) (c : List TLit) (hl : c.length ≤ 1000) (hc : ∀ x ∈ c, x.2.1.length ≤ 100 ∧ x.2.2.1.length ≤ 100 ∧ (∀ n ∈ x.2.1, -12 ≤ n) ∧ ∀ n ∈ x.2.2.1, -12 ≤ n) : ∀ k i : Nat, i + k = c.length → ∀ o : List TLit, o.length = i → zep M (tabS σ) o c c.length i = some (.inl (o ++ apC σ (c.drop i), ())) := by
 intro k
 induction k with
 | zero =>
  intro i hi o ho
  obtain rfl : i = c.length := by omega
  apply zkO
  simp [zfZ, apC]
 | succ k ih =>
  intro i hi o ho
  have h1 : i < c.length := by omega
  obtain ⟨c1, c2, c3, c4⟩ := hc _ (List.getElem_mem h1)
  apply zkO
  simp only [zfZ]
  rw [if_pos (by simpa using h1), ze h1]
  simp only [Option.bind_some, zf5 _ _ (ze4 σ) hb _ c1 c3, zf5 _ _ (ze4 σ) hb _ c2 c4]
  rw [if_pos (by simp; omega), za (by omega), ih (i + 1) (by omega) _ (by simp [ho]), List.drop_eq_getElem_cons h1]
  simp only [apC, List.map_cons, List.append_assoc, List.cons_append, List.nil_append]
theorem zsE (σ : Int → List Int) (hb : ∀ v, (σ v).length ≤ 100000) (c : List TLit) (hl : c.length ≤ 1000) (hc : ∀ x ∈ c, x.2.1.length ≤ 100 ∧ x.2.2.1.length ≤ 100 ∧ (∀ n ∈ x.2.1, -12 ≤ n) ∧ ∀ n ∈ x.2.2.1, -12 ≤ n) : zgu M (tabS σ) c = some ((apC σ c, ()), ()) := by
 apply zsm
 have := zr5 σ hb c hl hc c.length 0 (by omega) [] rfl
 rw [show ((0 : Nat) : Int) = 0 from rfl, List.drop_zero, List.nil_append] at this
 simp only [zkd, this, Option.bind_some, Sum.elim_inl]
def fitT (σ : Int → List Int) (ts : List (List Int)) : Bool := ts.all fun t => decide ((apS σ t).length ≤ 40)
theorem zsY (σ : Int → List Int) (hb : ∀ v, (σ v).length ≤ 100000) (d : List TLit) (ts : List (List Int)) (hl : ts.length ≤ 1000) (ht : ∀ t ∈ ts, t.length ≤ 100 ∧ ∀ n ∈ t, -12 ≤ n) : ∀ k i : Nat, i + k = ts.length →
  zcr M (tabS σ) d ((ts.take i).map (fun t => (some (true, apS σ t) : Option (Bool × List Int))) ++ (ts.drop i).map (fun t => some (false, t))) ts.length i = some (if fitT σ (ts.drop i) = true then .inl (d, ts.map (fun t => some (true, apS σ t)), ()) else .inr (([], false, ()), ())) := by
 intro k
 induction k with
 | zero =>
  intro i hi
  obtain rfl : i = ts.length := by omega
  apply ziw
  simp [zdv, fitT]
 | succ k ih =>
  intro i hi
  have h2 : i < ts.length := by omega
  obtain ⟨t1, t2⟩ := ht _ (List.getElem_mem h2)
  have hlen : ((ts.take i).map (fun t => (some (true, apS σ t) : Option (Bool × List Int))) ++ (ts.drop i).map (fun t => some (false, t))).length = ts.length := by simp; omega
  have hget : ((ts.take i).map (fun t => (some (true, apS σ t) : Option (Bool × List Int))) ++ (ts.drop i).map (fun t => some (false, t)))[i]? = some (some (false, ts[i])) := by
   rw [List.getElem?_append_right (by simp; omega)]
   simp [Nat.min_eq_left (Nat.le_of_lt h2), h2]
  have hsee : seeO ((ts.take i).map (fun t => (some (true, apS σ t) : Option (Bool × List Int))) ++ (ts.drop i).map (fun t => some (false, t))) i = some ts[i] := by
   unfold seeO; rw [hget]
  have hnext : (ts.take (i + 1)).map (fun t => (some (true, apS σ t) : Option (Bool × List Int))) ++ (ts.drop (i + 1)).map (fun t => some (false, t)) = ((ts.take i).map (fun t => (some (true, apS σ t) : Option (Bool × List Int))) ++ (ts.drop i).map (fun t => some (false, t))).set i (some (true, apS σ ts[i])) := by
   rw [List.take_succ_eq_append_getElem h2, List.map_append, List.set_append_right _ _ (by simp; omega)]
   have e : i - ((ts.take i).map (fun t => (some (true, apS σ t) : Option (Bool × List Int)))).length = 0 := by simp; omega
   rw [e, List.drop_eq_getElem_cons h2]
   simp only [List.map_cons, List.map_nil, List.set_cons_zero, List.append_assoc, List.cons_append, List.nil_append]
  have ih' := ih (i + 1) (by omega)
  rw [hnext] at ih'
  have hf : fitT σ (ts.drop i) = (decide ((apS σ ts[i]).length ≤ 40) && fitT σ (ts.drop (i + 1))) := by
   rw [List.drop_eq_getElem_cons h2, fitT, List.all_cons, fitT]
  have ha := zmi _ _ (ze4 σ) hb ts[i] t1 t2
  apply ziw
  simp only [zdv]
  rw [if_pos (by simpa using h2), if_pos (by rw [hlen]; omega), Int.toNat_natCast, hsee]
  simp only [Option.bind_some, ha]
  rw [if_pos (by rw [hlen]; omega), hget]
  simp only [Option.bind_some]
  rw [hf]
  by_cases h : (apS σ ts[i]).length ≤ 40
  ·rw [if_pos h, decide_eq_true h, Bool.true_and]
   simp only [Bool.not_true, Bool.false_eq_true, if_false]
   rw [za (by omega)]
   exact ih'
  ·rw [if_neg h, decide_eq_false h, Bool.false_and]
   rfl
theorem zn8 (σ : Int → List Int) (hb : ∀ v, (σ v).length ≤ 100000) (c : List TLit) (hl : c.length ≤ 100) (hc : ∀ x ∈ c, x.2.1.length ≤ 100 ∧ x.2.2.1.length ≤ 100 ∧ (∀ n ∈ x.2.1, -12 ≤ n) ∧ ∀ n ∈ x.2.2.1, -12 ≤ n) : zdM M (tabS σ) c = some (if fitT σ (tms c) = true then ((apC σ c, true, ()), ()) else (([], false, ()), ())) := by
 have hloop := zsY σ hb c (tms c) (by rw [zhY]; omega) (by
  intro t ht
  obtain ⟨x, hx, h⟩ := zbh.1 ht
  obtain ⟨e1, e2, e3, e4⟩ := hc x hx
  rcases h with rfl | rfl
  ·exact ⟨e1, e3⟩
  ·exact ⟨e2, e4⟩) (tms c).length 0 (by omega)
 rw [show ((0 : Nat) : Int) = 0 from rfl] at hloop
 simp only [List.take_zero, List.map_nil, List.nil_append, List.drop_zero] at hloop
 apply zo2
 simp only [zhG, zkK c (by omega), Option.bind_some, hloop]
 cases fitT σ (tms c) with
 | false => rfl
 | true =>
  simp only [if_true, Sum.elim_inl]
  rw [if_pos (zsH _ _), zq4, zmW c _ (by omega) (by simp only [List.length_map, zhY]; omega), zr0]
  rfl
def sameL (x y : TLit) : Bool := x.1 == y.1 && ((decide (x.2.1 = y.2.1) && decide (x.2.2.1 = y.2.2.1)) || (decide (x.2.1 = y.2.2.1) && decide (x.2.2.1 = y.2.1)))
def sameT (x y : TLit) : Bool := (decide (x.2.1 = y.2.1) && decide (x.2.2.1 = y.2.2.1)) || (decide (x.2.1 = y.2.2.1) && decide (x.2.2.1 = y.2.1))
theorem zp0 (x y : TLit) (hx : smL x) : zgH M x y = some ((sameT x y, ()), ()) ∧ zfU M x y = some ((sameT x y, ()), ()) := by
 have h1 := hx.1
 have h2 := hx.2
 refine ⟨zqe _ _ ?_, zoQ _ _ ?_⟩
 ·simp only [ziM, zkc x.2.1 y.2.1 (by omega), zkc x.2.2.1 y.2.2.1 (by omega), zkc x.2.1 y.2.2.1 (by omega), zkc x.2.2.1 y.2.1 (by omega), Option.bind_some, sameT]
  cases decide (x.2.1 = y.2.1) <;> cases decide (x.2.2.1 = y.2.2.1) <;> cases decide (x.2.1 = y.2.2.1) <;> rfl
 ·simp only [zhL, zky x.2.1 y.2.1 (by omega), zky x.2.2.1 y.2.2.1 (by omega), zky x.2.1 y.2.2.1 (by omega), zky x.2.2.1 y.2.1 (by omega), Option.bind_some, sameT]
  cases decide (x.2.1 = y.2.1) <;> cases decide (x.2.2.1 = y.2.2.1) <;> cases decide (x.2.1 = y.2.2.1) <;> rfl
theorem zy7 (m l : TLit) (hl : smL l) : ziB M m l = some ((sameL l m, ()), ()) := by
 apply zs0
 simp only [zlb, zK, (zp0 l m hl).1, Option.bind_some]
 have : sameL l m = (l.1 == m.1 && sameT l m) := rfl
 rw [this]
 cases l.1 == m.1 <;> rfl
theorem zyQ (l : TLit) (hl : smL l) (a : List TLit) (ha : a.length ≤ 1048576) : ∀ k i : Nat, i + k = a.length → ∃ r, zw M a (l, ()) a.length i = some r ∧ (match r with | .inl _ => ((a.drop i).any (sameL l)) = false | .inr r => 0 ≤ r.1.1 ∧ ((a.drop i).any (sameL l)) = true) := by
 intro k
 induction k with
 | zero =>
  intro i hi
  obtain rfl : i = a.length := by omega
  refine ⟨.inl (), zas _ _ _ _ (by simp [zt]), by simp⟩
 | succ k ih =>
  intro i hi
  have h1 : i < a.length := by omega
  have hg := zy7 a[i] l hl
  obtain ⟨r, hr, hm⟩ := ih (i + 1) (by omega)
  rw [List.drop_eq_getElem_cons h1, List.any_cons]
  cases hp : sameL l a[i] with
  | false =>
   refine ⟨r, zas _ _ _ _ ?_, by simpa using hm⟩
   simp only [zt]
   rw [if_pos (by simpa using h1), ze h1, za (by omega)]
   simp only [Option.bind_some, zK, hg, hp, Bool.false_eq_true, if_false]
   exact hr
  | true =>
   refine ⟨.inr (((i : Int), ()), ()), zas _ _ _ _ ?_, Int.natCast_nonneg i, by simp⟩
   simp only [zt]
   rw [if_pos (by simpa using h1), ze h1]
   simp only [Option.bind_some, zK, hg, hp, if_true]
theorem ztM (l : TLit) (hl : smL l) (a : List TLit) (ha : a.length ≤ 1048576) : zu M a (l, ()) = some ((a.any (sameL l), ()), ()) := by
 apply zea
 simp only [zat]
 obtain ⟨r, hr, hm⟩ := zyQ l hl a ha a.length 0 (by omega)
 rw [show ((0 : Nat) : Int) = 0 from rfl] at hr
 rw [List.drop_zero] at hm
 cases r with
 | inl r =>
  rw [zbA a (l, ()) (r := ((-1, ()), ())) (by simp only [zZ, hr, Option.bind_some, Sum.elim_inl])]
  simp only at hm
  rw [hm]; rfl
 | inr r =>
  rw [zbA a (l, ()) (r := r) (by simp only [zZ, hr, Option.bind_some, Sum.elim_inr])]
  simp only at hm
  simp [hm]
def td : List TLit → List TLit → List TLit
 | out, [] => out
 | out, x :: c => if (x.1 = false ∧ x.2.1 = x.2.2.1) ∨ out.any (sameL x) = true then td out c else td (out ++ [x]) c
theorem zuY (c : List TLit) (hl : c.length ≤ 1000) (hc : ∀ x ∈ c, smL x) : ∀ (k i : Nat) (o : List TLit), i + k = c.length → o.length ≤ i → zdh M o c c.length i = some (.inl (td o (c.drop i), ())) := by
 intro k
 induction k with
 | zero =>
  intro i o hi ho
  obtain rfl : i = c.length := by omega
  apply zmC
  simp [zhA, td]
 | succ k ih =>
  intro i o hi ho
  have h1 : i < c.length := by omega
  have hx := hc _ (List.getElem_mem h1)
  have hx1 := hx.1
  have hx2 := hx.2
  have hcp : zgp M c[i] = some ((c[i], ()), ()) := by
   apply zrY
   simp only [zkl]
   rw [if_pos (by omega), if_pos (by omega)]
  rw [List.drop_eq_getElem_cons h1]
  have skip : ((c[i].1 = false ∧ c[i].2.1 = c[i].2.2.1) ∨ o.any (sameL c[i]) = true) → zdh M o c c.length ((i + 1 : Nat) : Int) = some (.inl (td o (c[i] :: c.drop (i + 1)), ())) := by
   intro h
   rw [ih (i + 1) o (by omega) (by omega), td, if_pos h]
  have take : ¬ ((c[i].1 = false ∧ c[i].2.1 = c[i].2.2.1) ∨ o.any (sameL c[i]) = true) → zdh M (o ++ [c[i]]) c c.length ((i + 1 : Nat) : Int) = some (.inl (td o (c[i] :: c.drop (i + 1)), ())) := by
   intro h
   rw [ih (i + 1) _ (by omega) (by simp; omega), td, if_neg h]
  apply zmC
  simp only [zhA]
  rw [if_pos (by simpa using h1), ze h1]
  simp only [Option.bind_some, zK, zkc c[i].2.1 c[i].2.2.1 (by omega), ztM c[i] hx o (by omega), hcp]
  cases hp : c[i].1 with
  | true =>
   simp only [Bool.not_true, Bool.false_eq_true, if_false]
   cases ha : o.any (sameL c[i]) with
   | true =>
    simp only [Bool.not_true, Bool.false_eq_true, if_false, Option.bind_some, Sum.elim_inl]
    rw [za (by omega)]
    exact skip (.inr ha)
   | false =>
    simp only [Bool.not_false, if_true, zK]
    rw [if_pos (by simp; omega)]
    simp only [Option.bind_some, Sum.elim_inl]
    rw [za (by omega)]
    exact take (fun h => by rcases h with h | h; exact absurd h.1 (by simp [hp]); exact absurd h (by simp [ha]))
  | false =>
   simp only [Bool.not_false, if_true]
   by_cases he : c[i].2.1 = c[i].2.2.1
   ·simp only [decide_eq_true he, if_true, Option.bind_some, Sum.elim_inl]
    rw [za (by omega)]
    exact skip (.inl ⟨hp, he⟩)
   ·simp only [decide_eq_false he, Bool.false_eq_true, if_false]
    cases ha : o.any (sameL c[i]) with
    | true =>
     simp only [Bool.not_true, Bool.false_eq_true, if_false, Option.bind_some, Sum.elim_inl]
     rw [za (by omega)]
     exact skip (.inr ha)
    | false =>
     simp only [Bool.not_false, if_true, zK]
     rw [if_pos (by simp; omega)]
     simp only [Option.bind_some, Sum.elim_inl]
     rw [za (by omega)]
     exact take (fun h => by rcases h with h | h; exact he h.2; exact absurd h (by simp [ha]))
theorem zz4 (c : List TLit) (hl : c.length ≤ 1000) (hc : ∀ x ∈ c, smL x) : zkt M c = some ((td [] c, ()), ()) := by
 apply zu7
 have := zuY c hl hc c.length 0 [] (by omega) (by simp)
 rw [show ((0 : Nat) : Int) = 0 from rfl, List.drop_zero] at this
 simp only [zmO, this, Option.bind_some, Sum.elim_inl]
theorem zzx (o : List TLit) (x : TLit) (c : List TLit) (N I : Int) (hx : smL x) (ho : o.length ≤ 100000) : ∀ (k i : Nat) (b : Bool), i + k = o.length → zaU M o x b c N I o.length i = some (.inl (o, x, (b || (o.drop i).any (sameL x)), c, N, I, ())) := by
 intro k
 induction k with
 | zero =>
  intro i b hi
  obtain rfl : i = o.length := by omega
  apply zi6
  simp only [zdW, zK]
  rw [if_neg (by simp)]
  simp
 | succ k ih =>
  intro i b hi
  have h1 : i < o.length := by omega
  apply zi6
  simp only [zdW]
  rw [if_pos (by simpa using h1), if_pos (by omega), Int.toNat_natCast, List.getElem?_eq_getElem h1, za (by omega)]
  simp only [Option.bind_some, zK, (zp0 x o[i] hx).2, ih (i + 1) _ (by omega)]
  rw [List.drop_eq_getElem_cons h1, List.any_cons]
  have : sameL x o[i] = (x.1 == o[i].1 && sameT x o[i]) := rfl
  rw [this]
  cases b with
  | true => simp
  | false =>
   simp only [Bool.false_eq_true, if_false, Bool.false_or]
   cases x.1 == o[i].1 <;> simp
theorem zs3 (c : List TLit) (hl : c.length ≤ 1000) (hc : ∀ x ∈ c, smL x) : ∀ (k i : Nat) (o : List TLit), i + k = c.length → o.length ≤ i → zcf M o c c.length i = some (.inl (td o (c.drop i), ())) := by
 intro k
 induction k with
 | zero =>
  intro i o hi ho
  obtain rfl : i = c.length := by omega
  apply zlv
  simp [zgg, td]
 | succ k ih =>
  intro i o hi ho
  have h1 : i < c.length := by omega
  have hx := hc _ (List.getElem_mem h1)
  have hx1 := hx.1
  have hx2 := hx.2
  have hin := zzx o c[i] c c.length i hx (by omega) o.length 0 false (by omega)
  rw [show ((0 : Nat) : Int) = 0 from rfl, List.drop_zero, Bool.false_or] at hin
  rw [List.drop_eq_getElem_cons h1]
  have skip : ((c[i].1 = false ∧ c[i].2.1 = c[i].2.2.1) ∨ o.any (sameL c[i]) = true) → zcf M o c c.length ((i + 1 : Nat) : Int) = some (.inl (td o (c[i] :: c.drop (i + 1)), ())) := by
   intro h
   rw [ih (i + 1) o (by omega) (by omega), td, if_pos h]
  have take : ¬ ((c[i].1 = false ∧ c[i].2.1 = c[i].2.2.1) ∨ o.any (sameL c[i]) = true) → zcf M (o ++ [c[i]]) c c.length ((i + 1 : Nat) : Int) = some (.inl (td o (c[i] :: c.drop (i + 1)), ())) := by
   intro h
   rw [ih (i + 1) _ (by omega) (by simp; omega), td, if_neg h]
  apply zlv
  simp only [zgg]
  rw [if_pos (by simpa using h1), ze h1]
  simp only [Option.bind_some, zK, zky c[i].2.1 c[i].2.2.1 (by omega), hin, Sum.elim_inl]
  cases hp : c[i].1 with
  | true =>
   simp only [Bool.not_true, Bool.false_eq_true, if_false]
   cases ha : o.any (sameL c[i]) with
   | true =>
    simp only [Bool.not_true, Bool.false_eq_true, if_false, Option.bind_some, Sum.elim_inl]
    rw [za (by omega)]
    exact skip (.inr ha)
   | false =>
    simp only [Bool.not_false, if_true, zK]
    rw [if_pos (by simp; omega)]
    simp only [Option.bind_some, Sum.elim_inl]
    rw [za (by omega)]
    have := take (fun h => by rcases h with h | h; exact absurd h.1 (by simp [hp]); exact absurd h (by simp [ha]))
    exact this
  | false =>
   simp only [Bool.not_false, if_true]
   by_cases he : c[i].2.1 = c[i].2.2.1
   ·simp only [decide_eq_true he, if_true, Option.bind_some, Sum.elim_inl]
    rw [za (by omega)]
    exact skip (.inl ⟨hp, he⟩)
   ·simp only [decide_eq_false he, Bool.false_eq_true, if_false]
    cases ha : o.any (sameL c[i]) with
    | true =>
     simp only [Bool.not_true, Bool.false_eq_true, if_false, Option.bind_some, Sum.elim_inl]
     rw [za (by omega)]
     exact skip (.inr ha)
    | false =>
     simp only [Bool.not_false, if_true, zK]
     rw [if_pos (by simp; omega)]
     simp only [Option.bind_some, Sum.elim_inl]
     rw [za (by omega)]
     have := take (fun h => by rcases h with h | h; exact he h.2; exact absurd h (by simp [ha]))
     exact this
theorem zs8 (c : List TLit) (hl : c.length ≤ 1000) (hc : ∀ x ∈ c, smL x) : ∀ k i : Nat, i + k = c.length → ∀ o : List TLit, o.length = i → zfK M o c c.length i = some (.inl (o ++ c.drop i, ())) := by
 intro k
 induction k with
 | zero =>
  intro i hi o ho
  obtain rfl : i = c.length := by omega
  apply zl1
  simp [zgN]
 | succ k ih =>
  intro i hi o ho
  have h1 : i < c.length := by omega
  have h2 := hc _ (List.getElem_mem h1)
  apply zl1
  simp only [zgN]
  rw [if_pos (by simpa using h1), ze h1, za (by omega)]
  simp only [Option.bind_some, zkD c[i].2.1 h2.1, zkD c[i].2.2.1 h2.2]
  rw [if_pos (by simp; omega), zK, ih (i + 1) (by omega) _ (by simp [ho]), List.drop_eq_getElem_cons h1, List.append_assoc]
  rfl
theorem zl4 : ∀ (c o : List TLit), ∀ x ∈ td o c, x ∈ o ∨ x ∈ c
 | [], o, x, h => .inl h
 | y :: c, o, x, h => by
  simp only [td] at h
  split at h
  ·rcases zl4 c o x h with q | q
   ·exact .inl q
   ·exact .inr (List.mem_cons_of_mem _ q)
  ·rcases zl4 c _ x h with q | q
   ·rcases List.mem_append.1 q with q | q
    ·exact .inl q
    ·exact .inr (by rw [List.mem_singleton.1 q]; exact List.mem_cons_self ..)
   ·exact .inr (List.mem_cons_of_mem _ q)
theorem zm8 : ∀ (c o : List TLit), (td o c).length ≤ o.length + c.length
 | [], o => by simp [td]
 | y :: c, o => by
  simp only [td]
  split
  ·have := zm8 c o; simp; omega
  ·have := zm8 c (o ++ [y]); simp at this ⊢; omega
theorem zxU (c : List TLit) (hl : c.length ≤ 1000) (hc : ∀ x ∈ c, smL x) : ziF M c = some ((td [] c, ()), ()) := by
 apply ztt
 have := zs3 c hl hc c.length 0 [] (by omega) (by simp)
 rw [show ((0 : Nat) : Int) = 0 from rfl, List.drop_zero] at this
 have h2 := zm8 c []
 have ow := zs8 (td [] c) (by simp at h2; omega) (fun x hx => by rcases zl4 c [] x hx with q | q; cases q; exact hc x q) (td [] c).length 0 (by omega) [] rfl
 rw [show ((0 : Nat) : Int) = 0 from rfl, List.drop_zero, List.nil_append] at ow
 have ow' : zjz M (td [] c) = some ((td [] c, ()), ()) := by
  apply zuc
  simp only [zlU, ow, Option.bind_some, Sum.elim_inl]
 simp only [zlg, this, Option.bind_some, Sum.elim_inl, ow']
end Go.Proofs.YtenknihdnkiplaaGreatSs.Ev
namespace Go.Proofs.YtenknihdnkiplaaGreatSs.Ev
open Go
set_option autoImplicit false
set_option linter.unusedVariables false
set_option linter.unusedSimpArgs false
theorem zu1 (v : Int) (a : List Int) (ha : a.length ≤ 100000) : ∀ k i : Nat, i + k = a.length → zdU M v a a.length i = some (if v ∈ a.drop i then .inr ((true, ()), ()) else .inl ()) := by
 intro k
 induction k with
 | zero =>
  intro i hi
  obtain rfl : i = a.length := by omega
  exact zgJ _ _ _ _ (by simp [zdn])
 | succ k ih =>
  intro i hi
  have h1 : i < a.length := by omega
  rw [List.drop_eq_getElem_cons h1]
  apply zgJ
  simp only [zdn]
  rw [if_pos (by simpa using h1), ze h1, za (by omega)]
  simp only [Option.bind_some]
  by_cases h : a[i] = v
  ·rw [if_pos (by simpa using h), if_pos (by rw [h]; exact List.mem_cons_self ..)]
  ·rw [if_neg (by simpa using h), ih (i + 1) (by omega)]
   by_cases h2 : v ∈ a.drop (i + 1)
   ·rw [if_pos h2, if_pos (List.mem_cons_of_mem _ h2)]
   ·rw [if_neg h2, if_neg (fun h3 => by rcases List.mem_cons.1 h3 with e | e; exact h e.symm; exact h2 e)]
theorem zz0 (a : List Int) (v : Int) (ha : a.length ≤ 100000) : zdQ M a v = some ((decide (v ∈ a), ()), ()) := by
 apply zpa
 have := zu1 v a ha a.length 0 (by omega)
 rw [show ((0 : Nat) : Int) = 0 from rfl, List.drop_zero] at this
 simp only [zju, this, Option.bind_some]
 by_cases h : v ∈ a
 ·rw [if_pos h, decide_eq_true h]; rfl
 ·rw [if_neg h, decide_eq_false h]; rfl
def mkM : Nat → List Int → List (Int × Int)
 | _, [] => []
 | i, n :: r => (n, -1 - (i : Int)) :: mkM (i + 1) r
theorem zvn : ∀ (m : List Int) (i : Nat), (mkM i m).length = m.length
 | [], _ => rfl
 | n :: r, i => by simp [mkM, zvn r]
theorem zuH (n : Int) : ∀ (m : List Int) (i : Nat), mhas (mkM i m) n = decide (n ∈ m)
 | [], i => by simp [mkM, mhas]
 | a :: r, i => by
  simp only [mkM, mhas, zuH n r]
  by_cases h : a = n
  ·simp [h]
  ·rw [if_neg h]
   have : ¬ n = a := fun e => h e.symm
   simp [this]
theorem zuK (n : Int) : ∀ (m : List Int) (i : Nat), n ∉ m → mput (mkM i m) n (-1 - ((i + m.length : Nat) : Int)) = mkM i (m ++ [n])
 | [], i, _ => by simp [mkM, mput]
 | a :: r, i, h => by
  have h1 : ¬ a = n := fun e => h (by simp [e])
  simp only [mkM, mput, if_neg h1, List.cons_append]
  rw [← zuK n r (i + 1) (fun q => h (List.mem_cons_of_mem _ q))]
  congr 2
  simp; omega
def addN (m : List Int) (n : Int) : List Int := if n < 0 ∧ n ∉ m then m ++ [n] else m
theorem zso (m : List Int) {n : Int} (hn : n < 0) : nmb (mkM 0 m) n = mkM 0 (addN m n) := by
 unfold nmb addN
 rw [zuH, zvn]
 by_cases h : n ∈ m
 ·rw [if_pos (by simpa using h), if_neg (fun q => q.2 h)]
 ·rw [if_neg (by simpa using h), if_pos ⟨hn, h⟩]
  have := zuK n m 0 h
  rw [Nat.zero_add] at this
  exact this
theorem zxK {m : List Int} (h : ∀ x ∈ m, x < 0) (n : Int) : ∀ x ∈ addN m n, x < 0 := by
 intro x hx
 unfold addN at hx
 split at hx
 ·rename_i q
  rcases List.mem_append.1 hx with hx | hx
  ·exact h x hx
  ·rw [List.mem_singleton.1 hx]; exact q.1
 ·exact h x hx
theorem zx8 (m : List Int) (n : Int) : (addN m n).length ≤ m.length + 1 := by
 unfold addN; split <;> simp
theorem zqn (m : List Int) {n : Int} (hn : n < 0) : n ∈ addN m n := by
 unfold addN
 by_cases h : n ∈ m
 ·rw [if_neg (fun q => q.2 h)]; exact h
 ·rw [if_pos ⟨hn, h⟩]; simp
theorem zxN (met : List Int) (outs : List (List Int)) (x : List Int) (n : Int) (l : List (List Int)) (N I : Int) (t : List Int) (T j : Int) (hm : met.length ≤ 100000) : ∀ k i : Nat, i + k = met.length → zaB M met outs x n l N I t T j met.length i = some (.inl (met, outs, x, (if n ∈ met.drop i then mget (mkM i (met.drop i)) n 0 else n), l, N, I, t, T, j, ())) := by
 intro k
 induction k with
 | zero =>
  intro i hi
  obtain rfl : i = met.length := by omega
  apply zg5
  simp only [zb8]
  rw [if_neg (by simp), List.drop_length, if_neg (by simp)]
 | succ k ih =>
  intro i hi
  have h1 : i < met.length := by omega
  apply zg5
  simp only [zb8]
  rw [if_pos (by simpa using h1), if_pos (by omega), Int.toNat_natCast, List.getElem?_eq_getElem h1]
  simp only [Option.bind_some]
  rw [List.drop_eq_getElem_cons h1]
  by_cases h : met[i] = n
  ·rw [if_pos (by simpa using h), if_pos (by rw [h]; exact List.mem_cons_self ..), mkM, mget, if_pos h, w64 (by omega) (by omega)]
  ·rw [if_neg (by simpa using h), za (by omega), ih (i + 1) (by omega), mkM, mget, if_neg h]
   by_cases h2 : n ∈ met.drop (i + 1)
   ·rw [if_pos h2, if_pos (List.mem_cons_of_mem _ h2)]
   ·rw [if_neg h2, if_neg (fun q => by rcases List.mem_cons.1 q with e | e; exact h e.symm; exact h2 e)]
theorem zyf (outs : List (List Int)) (l : List (List Int)) (N I : Int) (t : List Int) (ht : t.length ≤ 1000) : ∀ (k j : Nat) (met x : List Int), j + k = t.length → met.length ≤ 40000 + j → x.length ≤ 40000 + j → (∀ y ∈ met, y < 0) → ∃ met' : List Int, zbq M met outs x l N I t t.length j = some (.inl (met', outs, x ++ (rnm (mkM 0 met) (t.drop j)).1, l, N, I, ())) ∧ (rnm (mkM 0 met) (t.drop j)).2 = mkM 0 met' ∧ (∀ y ∈ met', y < 0) ∧ met'.length ≤ met.length + k := by
 intro k
 induction k with
 | zero =>
  intro j met x hj hm hx hneg
  obtain rfl : j = t.length := by omega
  refine ⟨met, zfv _ _ _ _ _ _ _ _ _ ?_, by simp [rnm], hneg, by omega⟩
  simp only [zbQ]
  rw [if_neg (by simp), List.drop_length]
  simp [rnm]
 | succ k ih =>
  intro j met x hj hm hx hneg
  have h1 : j < t.length := by omega
  rw [List.drop_eq_getElem_cons h1]
  have name : ∀ met2 : List Int, met2.length ≤ 40000 + (j + 1) → ∀ T : Int, zaB M met2 outs x t[j] l N I t T j met2.length 0 = some (.inl (met2, outs, x, (if t[j] ∈ met2 then mget (mkM 0 met2) t[j] 0 else t[j]), l, N, I, t, T, j, ())) := by
   intro met2 h T
   have := zxN met2 outs x t[j] l N I t T j (by omega) met2.length 0 (by omega)
   rw [show ((0 : Nat) : Int) = 0 from rfl, List.drop_zero] at this
   exact this
  by_cases hn : t[j] < 0
  ·have hl := zx8 met t[j]
   obtain ⟨met', e1, e2, e3, e4⟩ := ih (j + 1) (addN met t[j]) (x ++ [mget (mkM 0 (addN met t[j])) t[j] 0]) (by omega) (by omega) (by simp; omega) (zxK hneg _)
   have hr : rnm (mkM 0 met) (t[j] :: t.drop (j + 1)) = (mget (mkM 0 (addN met t[j])) t[j] 0 :: (rnm (mkM 0 (addN met t[j])) (t.drop (j + 1))).1, (rnm (mkM 0 (addN met t[j])) (t.drop (j + 1))).2) := by
    simp only [rnm]
    rw [if_neg (by omega), zso met hn]
   refine ⟨met', zfv _ _ _ _ _ _ _ _ _ ?_, by rw [hr]; exact e2, e3, by omega⟩
   simp only [zbQ]
   rw [if_pos (by simpa using h1), ze h1]
   simp only [Option.bind_some]
   rw [if_pos (by simpa using hn)]
   have hh := zz0 met t[j] (by omega)
   have fin : ∀ met2 : List Int, met2 = addN met t[j] → (zaB M met2 outs x t[j] l N I t (t.length : Int) j met2.length 0).bind (Sum.elim (fun y4 => if (y4.2.2.1.length + [y4.2.2.2.1].length) * 8 ≤ 140737488355328 then zbq M y4.1 y4.2.1 (y4.2.2.1 ++ [y4.2.2.2.1]) y4.2.2.2.2.1 y4.2.2.2.2.2.1 y4.2.2.2.2.2.2.1 y4.2.2.2.2.2.2.2.1 y4.2.2.2.2.2.2.2.2.1 (IntKind.i64.wrap (y4.2.2.2.2.2.2.2.2.2.1 + 1)) else none) fun r5 => some (.inr r5)) = some (.inl (met', outs, x ++ (rnm (mkM 0 met) (t[j] :: t.drop (j + 1))).1, l, N, I, ())) := by
    intro met2 e
    subst e
    rw [name _ (by omega)]
    simp only [Option.bind_some, Sum.elim_inl]
    rw [if_pos (zqn met hn), if_pos (by simp only [List.length_cons, List.length_nil]; omega), za (by omega), e1, hr]
    simp
   rw [hh]
   simp only [Option.bind_some]
   by_cases hmem : t[j] ∈ met
   ·rw [if_neg (by simp [hmem])]
    simp only [Option.bind_some, Sum.elim_inl]
    exact fin met (by unfold addN; rw [if_neg (fun q => q.2 hmem)])
   ·rw [if_pos (by simp [hmem]), if_pos (by simp only [List.length_cons, List.length_nil]; omega)]
    simp only [Option.bind_some, Sum.elim_inl]
    exact fin (met ++ [t[j]]) (by unfold addN; rw [if_pos ⟨hn, hmem⟩])
  ·have hnm : t[j] ∉ met := fun q => hn (hneg _ q)
   obtain ⟨met', e1, e2, e3, e4⟩ := ih (j + 1) met (x ++ [t[j]]) (by omega) (by omega) (by simp; omega) hneg
   have hr : rnm (mkM 0 met) (t[j] :: t.drop (j + 1)) = (t[j] :: (rnm (mkM 0 met) (t.drop (j + 1))).1, (rnm (mkM 0 met) (t.drop (j + 1))).2) := by
    simp only [rnm]
    rw [if_pos (by omega)]
   refine ⟨met', zfv _ _ _ _ _ _ _ _ _ ?_, by rw [hr]; exact e2, e3, by omega⟩
   simp only [zbQ]
   rw [if_pos (by simpa using h1), ze h1]
   simp only [Option.bind_some]
   rw [if_neg (by simpa using hn)]
   simp only [Option.bind_some, Sum.elim_inl]
   rw [name met (by omega)]
   simp only [Option.bind_some, Sum.elim_inl]
   rw [if_neg hnm, if_pos (by simp only [List.length_cons, List.length_nil]; omega), za (by omega), e1, hr]
   simp
theorem zyo (l : List (List Int)) (hl : l.length ≤ 40) (hx : ∀ t ∈ l, t.length ≤ 1000) : ∀ (k i : Nat) (met : List Int) (outs : List (List Int)), i + k = l.length → met.length ≤ 1000 * i → outs.length = i → (∀ y ∈ met, y < 0) → zc1 M met outs l l.length i = some (.inl (outs ++ rnL (mkM 0 met) (l.drop i), ())) := by
 intro k
 induction k with
 | zero =>
  intro i met outs hi hm ho hneg
  obtain rfl : i = l.length := by omega
  apply zjJ
  simp only [zeK]
  rw [if_neg (by simp), List.drop_length]
  simp [rnL]
 | succ k ih =>
  intro i met outs hi hm ho hneg
  have h1 : i < l.length := by omega
  have ht := hx _ (List.getElem_mem h1)
  obtain ⟨met', e1, e2, e3, e4⟩ := zyf outs l l.length i l[i] ht l[i].length 0 met [] (by omega) (by omega) (by simp) hneg
  rw [show ((0 : Nat) : Int) = 0 from rfl] at e1
  rw [List.drop_zero] at e1 e2
  apply zjJ
  simp only [zeK]
  rw [if_pos (by simpa using h1), ze h1]
  simp only [Option.bind_some, e1, Sum.elim_inl, List.nil_append]
  rw [if_pos (by simp only [List.length_cons, List.length_nil]; omega), za (by omega), ih (i + 1) met' _ (by omega) (by omega) (by simp [ho]) e3, List.drop_eq_getElem_cons h1, rnL, e2, List.append_assoc]
  rfl
theorem zv4 (l : List (List Int)) (hl : l.length ≤ 40) (hx : ∀ t ∈ l, t.length ≤ 1000) : zhx M l = some ((rnL [] l, ()), ()) := by
 apply zrz
 have := zyo l hl hx l.length 0 [] [] (by omega) (by simp) rfl (by simp)
 rw [show ((0 : Nat) : Int) = 0 from rfl, List.drop_zero, List.nil_append] at this
 simp only [zjk, this, Option.bind_some, Sum.elim_inl]
 rfl
theorem zrO (c : List TLit) (hc : c.length ≤ 1048576) : ∀ k i : Nat, i + k = c.length → ∀ o : List (List Int), o.length ≤ 2 * i → zer M o c c.length i = some (.inl (o ++ tms (c.drop i), ())) := by
 intro k
 induction k with
 | zero =>
  intro i hi o ho
  obtain rfl : i = c.length := by omega
  exact zkx _ _ _ _ (by simp [zfX, tms])
 | succ k ih =>
  intro i hi o ho
  have h1 : i < c.length := by omega
  apply zkx
  simp only [zfX]
  rw [if_pos (by simpa using h1), ze h1]
  simp only [Option.bind_some]
  rw [if_pos (by simp; omega), za (by omega), ih (i + 1) (by omega) _ (by simp; omega), List.drop_eq_getElem_cons h1]
  have : tms (c[i] :: c.drop (i + 1)) = [c[i].2.1, c[i].2.2.1] ++ tms (c.drop (i + 1)) := rfl
  rw [this, List.append_assoc]
theorem zxk (c : List TLit) (hc : c.length ≤ 1048576) : zh2 M c = some ((tms c, ()), ()) := by
 apply zrH
 have := zrO c hc c.length 0 (by omega) [] (by simp)
 rw [show ((0 : Nat) : Int) = 0 from rfl] at this
 simp only [zj0, this, Option.bind_some, Sum.elim_inl, List.nil_append, List.drop_zero]
theorem zpy : ∀ (l : List (List Int)) (m : List (Int × Int)), (rnL m l).length = l.length
 | [], _ => rfl
 | t :: r, m => by simp [rnL, zpy r]
theorem zrg (ts : List (List Int)) (c : List TLit) (hl : c.length ≤ 1000) (ht : ts.length = 2 * c.length) : ∀ k i : Nat, i + k = c.length → ∀ o : List TLit, o.length = i → zc9 M ts o c c.length i = some (.inl (o ++ wtZ (c.drop i) (ts.drop (2 * i)), ())) := by
 intro k
 induction k with
 | zero =>
  intro i hi o ho
  obtain rfl : i = c.length := by omega
  apply zjD
  simp only [zeF]
  rw [if_neg (by simp), List.drop_length]
  simp [wtZ]
 | succ k ih =>
  intro i hi o ho
  have h1 : i < c.length := by omega
  have h2 : 2 * i < ts.length := by omega
  have h3 : 2 * i + 1 < ts.length := by omega
  have e1 : IntKind.i64.wrap ((2 : Int) * (i : Int)) = ((2 * i : Nat) : Int) := by rw [w64 (by omega) (by omega)]; omega
  have e2 : IntKind.i64.wrap (((2 * i : Nat) : Int) + 1) = ((2 * i + 1 : Nat) : Int) := by rw [w64 (by omega) (by omega)]; omega
  apply zjD
  simp only [zeF]
  rw [if_pos (by simpa using h1), ze h1, e1, e2]
  simp only [Option.bind_some]
  rw [if_pos (by omega), Int.toNat_natCast, List.getElem?_eq_getElem h2]
  simp only [Option.bind_some]
  rw [if_pos (by omega), Int.toNat_natCast, List.getElem?_eq_getElem h3]
  simp only [Option.bind_some]
  rw [if_pos (by simp; omega), za (by omega), ih (i + 1) (by omega) _ (by simp [ho]), List.drop_eq_getElem_cons h1, List.drop_eq_getElem_cons h2, List.drop_eq_getElem_cons h3]
  simp only [wtZ, List.append_assoc, List.singleton_append]
  rw [show 2 * (i + 1) = 2 * i + 1 + 1 by omega]
def rnC (c : List TLit) : List TLit := wtZ c (rnL [] (tms c))
theorem zxl (c : List TLit) (hl : c.length ≤ 20) (hc : ∀ x ∈ c, x.2.1.length ≤ 1000 ∧ x.2.2.1.length ≤ 1000) : zfc M c = some ((rnC c, ()), ()) ∧ zhB M c = some ((rnC c, ()), ()) := by
 have ht : ∀ t ∈ tms c, t.length ≤ 1000 := by
  intro t ht
  obtain ⟨x, hx, h⟩ := zbh.1 ht
  rcases h with rfl | rfl
  ·exact (hc x hx).1
  ·exact (hc x hx).2
 have hL := zhY c
 refine ⟨zoi _ ?_, zq6 _ ?_⟩
 ·simp only [zhe, zkK c (by omega), zyd (tms c) (by omega) ht, Option.bind_some]
  rw [zmW c _ (by omega) (by rw [zpy]; omega)]
  rfl
 ·have := zrg (rnL [] (tms c)) c (by omega) (by rw [zpy]; omega) c.length 0 (by omega) [] rfl
  rw [show ((0 : Nat) : Int) = 0 from rfl] at this
  simp only [Nat.mul_zero, List.drop_zero, List.nil_append] at this
  simp only [zjg, zxk c (by omega), zv4 (tms c) (by omega) ht, Option.bind_some, this, Sum.elim_inl]
  rfl
def outC (c : List TLit) : List TLit := rnC (td [] c)
theorem zp3 (c : List TLit) (hl : c.length ≤ 20) (hc : ∀ x ∈ c, x.2.1.length ≤ 1000 ∧ x.2.2.1.length ≤ 1000) : ze3 M c = some ((outC c, ()), ()) ∧ zdB M c = some ((outC c, ()), ()) := by
 have hs : ∀ x ∈ c, smL x := fun x hx => ⟨by have := (hc x hx).1; omega, by have := (hc x hx).2; omega⟩
 have h2 := zm8 c []
 have hr := zxl (td [] c) (by simp at h2; omega) (fun x hx => by rcases zl4 c [] x hx with q | q; cases q; exact hc x q)
 refine ⟨zqy _ ?_, zuv _ ?_⟩
 ·simp only [ziI, zz4 c (by omega) hs, Option.bind_some, hr.1]; rfl
 ·simp only [zl9, zxU c (by omega) hs, Option.bind_some, hr.2]; rfl
end Go.Proofs.YtenknihdnkiplaaGreatSs.Ev
namespace Go.Proofs.YtenknihdnkiplaaGreatSs.Ev
open Go
set_option autoImplicit false
set_option linter.unusedVariables false
set_option linter.unusedSimpArgs false
theorem zo3 {left : List (List Int)} {j : Nat} (hj : j < left.length) (s : List Int) : left.count s = (left.take j ++ left.drop (j + 1)).count s + (if left[j] = s then 1 else 0) := by
 have e : left = left.take j ++ left[j] :: left.drop (j + 1) := by rw [List.getElem_cons_drop, List.take_append_drop]
 have h := congrArg (List.count s) e
 rw [h, List.count_append, List.count_append, List.count_cons]
 by_cases q : left[j] = s <;> simp [q] <;> omega
def smR (l : List (List Int)) : Prop := l.length ≤ 100 ∧ ∀ t ∈ l, smT t
theorem zym (left o a : List (List Int)) (t : List Int) (N I : Int) (hl : smR left) (ht : smT t) : ∀ (k i : Nat) (at' : Int), i + k = left.length → ∃ z : Int, zcO M left o t at' a N I left.length i = some (.inl (left, o, t, z, a, N, I, ())) ∧ ((z = at' ∧ ∀ s ∈ left.drop i, s ≠ t) ∨ ∃ j : Nat, ∃ h : j < left.length, z = j ∧ left[j] = t) := by
 intro k
 induction k with
 | zero =>
  intro i at' hi
  obtain rfl : i = left.length := by omega
  refine ⟨at', zgt _ _ _ _ _ _ _ _ _ ?_, .inl ⟨rfl, by simp⟩⟩
  simp only [zcl]
  rw [if_neg (by simp)]
 | succ k ih =>
  intro i at' hi
  have h1 : i < left.length := by omega
  have h2 := (hl.2 _ (List.getElem_mem h1)).1
  have h3 := ht.1
  have h4 := hl.1
  by_cases h : t = left[i]
  ·obtain ⟨z, hz, hd⟩ := ih (i + 1) i (by omega)
   refine ⟨z, zgt _ _ _ _ _ _ _ _ _ ?_, ?_⟩
   ·simp only [zcl]
    rw [if_pos (by simpa using h1), if_pos (by omega), Int.toNat_natCast, List.getElem?_eq_getElem h1]
    simp only [Option.bind_some, zky t left[i] (by omega), decide_eq_true h, if_true, Sum.elim_inl]
    rw [za (by omega)]
    exact hz
   ·rcases hd with ⟨rfl, _⟩ | h'
    ·exact .inr ⟨i, h1, rfl, h.symm⟩
    ·exact .inr h'
  ·obtain ⟨z, hz, hd⟩ := ih (i + 1) at' (by omega)
   refine ⟨z, zgt _ _ _ _ _ _ _ _ _ ?_, ?_⟩
   ·simp only [zcl]
    rw [if_pos (by simpa using h1), if_pos (by omega), Int.toNat_natCast, List.getElem?_eq_getElem h1]
    simp only [Option.bind_some, zky t left[i] (by omega), decide_eq_false h, Bool.false_eq_true, if_false, Sum.elim_inl]
    rw [za (by omega)]
    exact hz
   ·rcases hd with ⟨rfl, h'⟩ | h'
    ·refine .inl ⟨rfl, ?_⟩
     rw [List.drop_eq_getElem_cons h1]
     intro s hs
     rcases List.mem_cons.1 hs with rfl | hs
     ·exact fun e => h e.symm
     ·exact h' s hs
    ·exact .inr h'
theorem smR.cut {left : List (List Int)} (h : smR left) (j : Nat) : smR (left.take j ++ left.drop (j + 1)) := by
 refine ⟨by have := h.1; simp; omega, fun t ht => h.2 t ?_⟩
 rcases List.mem_append.1 ht with q | q
 ·exact List.mem_of_mem_take q
 ·exact List.mem_of_mem_drop q
theorem smR.tail {a : List (List Int)} (h : smR a) (i : Nat) : smR (a.drop i) := ⟨by have := h.1; simp; omega, fun t ht => h.2 t (List.mem_of_mem_drop ht)⟩
theorem zz5 (a : List (List Int)) (ha : smR a) : ∀ (k i : Nat) (left o : List (List Int)), i + k = a.length → smR left → o.length ≤ i → ∃ x : List (List Int), zef M left o a a.length i = some (.inl (o ++ x, ())) ∧ ∀ s, x.count s = (a.drop i).count s - left.count s := by
 intro k
 induction k with
 | zero =>
  intro i left o hi hl ho
  obtain rfl : i = a.length := by omega
  refine ⟨[], zhF _ _ _ _ _ ?_, by simp⟩
  simp only [zdF]
  rw [if_neg (by simp), List.append_nil]
 | succ k ih =>
  intro i left o hi hl ho
  have h1 : i < a.length := by omega
  have h4 := ha.1
  have h5 := hl.1
  obtain ⟨z, hz, hd⟩ := zym left o a a[i] a.length i hl (ha.2 _ (List.getElem_mem h1)) left.length 0 (-1) (by omega)
  rw [show ((0 : Nat) : Int) = 0 from rfl] at hz
  rw [List.drop_zero] at hd
  by_cases hneg : z < 0
  ·have hn : ∀ s ∈ left, s ≠ a[i] := by
    rcases hd with ⟨_, h⟩ | ⟨j, h, rfl, _⟩
    ·exact h
    ·omega
   obtain ⟨x, hx, hc⟩ := ih (i + 1) left (o ++ [a[i]]) (by omega) hl (by simp; omega)
   refine ⟨a[i] :: x, zhF _ _ _ _ _ ?_, fun s => ?_⟩
   ·simp only [zdF]
    rw [if_pos (by simpa using h1), ze h1]
    simp only [Option.bind_some, hz, Sum.elim_inl]
    rw [if_pos (by simpa using hneg), if_pos (by simp only [List.length_cons, List.length_nil]; omega)]
    simp only [Option.bind_some, Sum.elim_inl]
    rw [za (by omega), hx]
    simp
   ·rw [List.drop_eq_getElem_cons h1, List.count_cons, List.count_cons, hc s]
    by_cases e : a[i] = s
    ·subst e
     rw [List.count_eq_zero_of_not_mem (fun h => hn _ h rfl)]
     simp
    ·simp [e]
  ·obtain ⟨j, hj, rfl, hjt⟩ : ∃ j : Nat, ∃ h : j < left.length, z = j ∧ left[j] = a[i] := by
    rcases hd with ⟨rfl, _⟩ | h
    ·omega
    ·exact h
   obtain ⟨x, hx, hc⟩ := ih (i + 1) (left.take j ++ left.drop (j + 1)) o (by omega) (hl.cut j) (by omega)
   refine ⟨x, zhF _ _ _ _ _ ?_, fun s => ?_⟩
   ·simp only [zdF]
    rw [if_pos (by simpa using h1), ze h1]
    simp only [Option.bind_some, hz, Sum.elim_inl]
    rw [if_neg (by simp), if_pos (by omega), za (by omega)]
    simp only [Int.toNat_natCast, Int.toNat_zero, List.drop_zero, List.nil_append, List.take_length, List.length_nil, Nat.zero_add]
    rw [if_pos (by simp; omega), if_pos (by omega), if_pos (by simp; omega)]
    simp only [Option.bind_some, Sum.elim_inl]
    rw [za (by omega), hx]
   ·have hcut := zo3 hj s
    rw [hjt] at hcut
    rw [List.drop_eq_getElem_cons h1, List.count_cons, hc s, hcut]
    by_cases e : a[i] = s <;> simp [e] <;> omega
theorem ztw (a b : List (List Int)) (ha : smR a) (hb : smR b) : ∃ x : List (List Int), zg8 M a b = some ((x, ()), ()) ∧ ∀ s, x.count s = a.count s - b.count s := by
 obtain ⟨x, hx, hc⟩ := zz5 a ha a.length 0 b [] (by omega) hb (by simp)
 rw [show ((0 : Nat) : Int) = 0 from rfl] at hx
 refine ⟨x, ztf _ _ ?_, fun s => by rw [hc s, List.drop_zero]⟩
 simp only [zkY]
 rw [if_pos (by have := hb.1; simp; omega)]
 simp only [List.nil_append] at hx ⊢
 rw [hx]
 rfl
theorem zyy (u t : List Int) (ht : smT t) (hu : smT u) : zd1 M u t = some ((decide (t = u), ()), ()) := by
 apply znp
 simp only [zgx, zkc t u (by have := ht.1; omega), Option.bind_some]
theorem zzN (t : List Int) (ht : smT t) (y : List (List Int)) (hy : smR y) : ∀ k i : Nat, i + k = y.length → (zf M y (t, ()) y.length i = some (.inl ()) ∧ ∀ s ∈ y.drop i, s ≠ t) ∨ ∃ j : Nat, ∃ h : j < y.length, zf M y (t, ()) y.length i = some (.inr (((j : Int), ()), ())) ∧ y[j] = t := by
 intro k
 induction k with
 | zero =>
  intro i hi
  obtain rfl : i = y.length := by omega
  refine .inl ⟨zaq _ _ _ _ ?_, by simp⟩
  simp only [zo]
  rw [if_neg (by simp)]
 | succ k ih =>
  intro i hi
  have h1 : i < y.length := by omega
  have h2 := hy.2 _ (List.getElem_mem h1)
  have h4 := hy.1
  by_cases h : t = y[i]
  ·refine .inr ⟨i, h1, zaq _ _ _ _ ?_, h.symm⟩
   simp only [zo]
   rw [if_pos (by simpa using h1), ze h1]
   simp only [Option.bind_some, zyy y[i] t ht h2, decide_eq_true h, if_true]
  ·have step : ∀ r, zf M y (t, ()) y.length ((i + 1 : Nat) : Int) = some r → zf M y (t, ()) y.length i = some r := by
    intro r hr
    apply zaq
    simp only [zo]
    rw [if_pos (by simpa using h1), ze h1, za (by omega)]
    simp only [Option.bind_some, zyy y[i] t ht h2, decide_eq_false h, Bool.false_eq_true, if_false]
    exact hr
   rcases ih (i + 1) (by omega) with ⟨q, hq⟩ | ⟨j, hj, q, hq⟩
   ·refine .inl ⟨step _ q, ?_⟩
    rw [List.drop_eq_getElem_cons h1]
    intro s hs
    rcases List.mem_cons.1 hs with rfl | hs
    ·exact fun e => h e.symm
    ·exact hq s hs
   ·exact .inr ⟨j, hj, step _ q, hq⟩
theorem zy2 (t : List Int) (ht : smT t) (y : List (List Int)) (hy : smR y) : (zC M y (t, ()) = some ((-1, ()), ()) ∧ ∀ s ∈ y, s ≠ t) ∨ ∃ j : Nat, ∃ h : j < y.length, zC M y (t, ()) = some (((j : Int), ()), ()) ∧ y[j] = t := by
 rcases zzN t ht y hy y.length 0 (by omega) with ⟨q, hq⟩ | ⟨j, hj, q, hq⟩
 ·rw [show ((0 : Nat) : Int) = 0 from rfl] at q
  exact .inl ⟨zbv _ _ (by simp only [zW, q, Option.bind_some, Sum.elim_inl]), by simpa using hq⟩
 ·rw [show ((0 : Nat) : Int) = 0 from rfl] at q
  exact .inr ⟨j, hj, zbv _ _ (by simp only [zW, q, Option.bind_some, Sum.elim_inr]), hq⟩
theorem zxr (a : List (List Int)) (ha : smR a) : ∀ (k i : Nat) (left o : List (List Int)), i + k = a.length → smR left → o.length ≤ i → ∃ x y : List (List Int), zbO M o left a a.length i = some (.inl (o ++ x, y, ())) ∧ (∀ s, x.count s = (a.drop i).count s - left.count s) ∧ ∀ s, y.count s = left.count s - (a.drop i).count s := by
 intro k
 induction k with
 | zero =>
  intro i left o hi hl ho
  obtain rfl : i = a.length := by omega
  refine ⟨[], left, zeW _ _ _ _ _ ?_, by simp, by simp⟩
  simp only [zbF]
  rw [if_neg (by simp), List.append_nil]
 | succ k ih =>
  intro i left o hi hl ho
  have h1 : i < a.length := by omega
  have h4 := ha.1
  have h5 := hl.1
  rcases zy2 a[i] (ha.2 _ (List.getElem_mem h1)) left hl with ⟨hz, hn⟩ | ⟨j, hj, hz, hjt⟩
  ·obtain ⟨x, y, hx, hc, hc'⟩ := ih (i + 1) left (o ++ [a[i]]) (by omega) hl (by simp; omega)
   refine ⟨a[i] :: x, y, zeW _ _ _ _ _ ?_, fun s => ?_, fun s => ?_⟩
   ·simp only [zbF]
    rw [if_pos (by simpa using h1), ze h1]
    simp only [Option.bind_some, hz]
    rw [if_neg (by simp), if_pos (by simp only [List.length_cons, List.length_nil]; omega)]
    simp only [Option.bind_some, Sum.elim_inl]
    rw [za (by omega), hx]
    simp
   ·rw [List.drop_eq_getElem_cons h1, List.count_cons, List.count_cons, hc s]
    by_cases e : a[i] = s
    ·subst e
     rw [List.count_eq_zero_of_not_mem (fun h => hn _ h rfl)]
     simp
    ·simp [e]
   ·rw [List.drop_eq_getElem_cons h1, List.count_cons, hc' s]
    by_cases e : a[i] = s
    ·subst e
     rw [List.count_eq_zero_of_not_mem (fun h => hn _ h rfl)]
     simp
    ·simp [e]
  ·obtain ⟨x, y, hx, hc, hc'⟩ := ih (i + 1) (left.take j ++ left.drop (j + 1)) o (by omega) (hl.cut j) (by omega)
   have hdel : zb9 M left (j : Int) (IntKind.i64.wrap ((j : Int) + 1)) = some ((left.take j ++ left.drop (j + 1), ()), ()) := by
    apply zlf
    rw [za (by omega)]
    simp only [zd9]
    rw [if_pos ⟨by omega, by omega, by omega⟩, Int.toNat_natCast, Int.toNat_natCast]
   refine ⟨x, y, zeW _ _ _ _ _ ?_, fun s => ?_, fun s => ?_⟩
   ·simp only [zbF]
    rw [if_pos (by simpa using h1), ze h1]
    simp only [Option.bind_some, hz]
    rw [if_pos (by simp), hdel]
    simp only [Option.bind_some, Sum.elim_inl]
    rw [za (by omega), hx]
   ·have hcut := zo3 hj s
    rw [hjt] at hcut
    rw [List.drop_eq_getElem_cons h1, List.count_cons, hc s, hcut]
    by_cases e : a[i] = s <;> simp [e] <;> omega
   ·have hcut := zo3 hj s
    rw [hjt] at hcut
    rw [List.drop_eq_getElem_cons h1, List.count_cons, hc' s, hcut]
    by_cases e : a[i] = s <;> simp [e] <;> omega
def cov (a b : List (List Int)) : Bool := b.all (fun t => a.any fun u => gtT u t) && decide (0 < a.length)
theorem zya (a b : List (List Int)) (t : List Int) (N I : Int) (ha : smR a) (ht : smT t) : ∀ (k i : Nat) (o : Bool), i + k = a.length → zb0 M a t o b N I a a.length i = some (.inl (a, (o || (a.drop i).any fun u => gtT u t), b, N, I, ())) := by
 intro k
 induction k with
 | zero =>
  intro i o hi
  obtain rfl : i = a.length := by omega
  apply zjn
  simp only [zey]
  rw [if_neg (by simp)]
  simp
 | succ k ih =>
  intro i o hi
  have h1 : i < a.length := by omega
  have h4 := ha.1
  apply zjn
  simp only [zey]
  rw [if_pos (by simpa using h1), ze h1, za (by omega)]
  rw [List.drop_eq_getElem_cons h1, List.any_cons]
  cases o with
  | true =>
   simp only [Option.bind_some, if_true]
   rw [ih (i + 1) true (by omega)]
   simp
  | false =>
   simp only [Option.bind_some, Bool.false_eq_true, if_false, zmS a[i] t (ha.2 _ (List.getElem_mem h1)) ht]
   rw [ih (i + 1) _ (by omega)]
   simp
theorem zvT (a b : List (List Int)) (ha : smR a) (hb : smR b) : ∀ (k i : Nat), i + k = b.length → zeU M a b b.length i = some (if (b.drop i).all (fun t => a.any fun u => gtT u t) = true then .inl (a, ()) else .inr ((false, ()), ())) := by
 intro k
 induction k with
 | zero =>
  intro i hi
  obtain rfl : i = b.length := by omega
  apply zlu
  simp only [zgc]
  rw [if_neg (by simp)]
  simp
 | succ k ih =>
  intro i hi
  have h1 : i < b.length := by omega
  have h4 := hb.1
  have hin := zya a b b[i] b.length i ha (hb.2 _ (List.getElem_mem h1)) a.length 0 false (by omega)
  rw [show ((0 : Nat) : Int) = 0 from rfl, List.drop_zero, Bool.false_or] at hin
  apply zlu
  simp only [zgc]
  rw [if_pos (by simpa using h1), ze h1]
  simp only [Option.bind_some, hin, Sum.elim_inl]
  rw [List.drop_eq_getElem_cons h1, List.all_cons]
  cases a.any fun u => gtT u b[i] with
  | false => rfl
  | true =>
   rw [if_neg (by simp), za (by omega), ih (i + 1) (by omega), Bool.true_and]
theorem zuG (a b : List (List Int)) (ha : smR a) (hb : smR b) : zee M a b = some ((cov a b, ()), ()) := by
 apply zs5
 have := zvT a b ha hb b.length 0 (by omega)
 rw [show ((0 : Nat) : Int) = 0 from rfl, List.drop_zero] at this
 simp only [zk8, this, Option.bind_some, cov]
 cases b.all fun t => a.any fun u => gtT u t with
 | false => rfl
 | true => simp
theorem zAg (u t : List Int) (hu : smT u) (ht : smT t) : zfF M u t = some ((gtT u t, ()), ()) := by
 apply zpm
 simp only [zhN, zmX u t hu ht, Option.bind_some]
theorem zzh (t : List Int) (ht : smT t) (a : List (List Int)) (ha : smR a) : ∀ k i : Nat, i + k = a.length → ∃ r, zD M a (t, ()) a.length i = some r ∧ (match r with | .inl _ => ((a.drop i).any fun u => gtT u t) = false | .inr r => 0 ≤ r.1.1 ∧ ((a.drop i).any fun u => gtT u t) = true) := by
 intro k
 induction k with
 | zero =>
  intro i hi
  obtain rfl : i = a.length := by omega
  refine ⟨.inl (), zaz _ _ _ _ (by simp [zz]), by simp⟩
 | succ k ih =>
  intro i hi
  have h1 : i < a.length := by omega
  have h4 := ha.1
  have hg := zAg a[i] t (ha.2 _ (List.getElem_mem h1)) ht
  obtain ⟨r, hr, hm⟩ := ih (i + 1) (by omega)
  rw [List.drop_eq_getElem_cons h1, List.any_cons]
  cases hp : gtT a[i] t with
  | false =>
   refine ⟨r, zaz _ _ _ _ ?_, by simpa using hm⟩
   simp only [zz]
   rw [if_pos (by simpa using h1), ze h1, za (by omega)]
   simp only [Option.bind_some, hg, hp, Bool.false_eq_true, if_false]
   exact hr
  | true =>
   refine ⟨.inr (((i : Int), ()), ()), zaz _ _ _ _ ?_, Int.natCast_nonneg i, by simp⟩
   simp only [zz]
   rw [if_pos (by simpa using h1), ze h1]
   simp only [Option.bind_some, hg, hp, if_true]
theorem zuT (t : List Int) (ht : smT t) (a : List (List Int)) (ha : smR a) : zX M a (t, ()) = some ((a.any fun u => gtT u t, ()), ()) := by
 apply zew
 simp only [zaA]
 obtain ⟨r, hr, hm⟩ := zzh t ht a ha a.length 0 (by omega)
 rw [show ((0 : Nat) : Int) = 0 from rfl] at hr
 rw [List.drop_zero] at hm
 cases r with
 | inl r =>
  rw [zbJ a (t, ()) (r := ((-1, ()), ())) (by simp only [zab, hr, Option.bind_some, Sum.elim_inl])]
  simp only at hm
  rw [hm]; rfl
 | inr r =>
  rw [zbJ a (t, ()) (r := r) (by simp only [zab, hr, Option.bind_some, Sum.elim_inr])]
  simp only at hm
  simp [hm]
theorem zrj (a b : List (List Int)) (ha : smR a) (hb : smR b) : ∀ (k i : Nat), i + k = b.length → zda M a b b.length i = some (if (b.drop i).all (fun t => a.any fun u => gtT u t) = true then .inl (a, ()) else .inr ((false, ()), ())) := by
 intro k
 induction k with
 | zero =>
  intro i hi
  obtain rfl : i = b.length := by omega
  apply zjr
  simp only [zeC]
  rw [if_neg (by simp)]
  simp
 | succ k ih =>
  intro i hi
  have h1 : i < b.length := by omega
  have h4 := hb.1
  apply zjr
  simp only [zeC]
  rw [if_pos (by simpa using h1), ze h1]
  simp only [Option.bind_some, zuT b[i] (hb.2 _ (List.getElem_mem h1)) a ha]
  rw [List.drop_eq_getElem_cons h1, List.all_cons]
  cases a.any fun u => gtT u b[i] with
  | false => rfl
  | true =>
   rw [if_neg (by simp), za (by omega), ih (i + 1) (by omega), Bool.true_and]
theorem zqd (a b : List (List Int)) (ha : smR a) (hb : smR b) : zch M a b = some ((cov a b, ()), ()) := by
 apply zqI
 have := zrj a b ha hb b.length 0 (by omega)
 rw [show ((0 : Nat) : Int) = 0 from rfl, List.drop_zero] at this
 simp only [ziJ, this, Option.bind_some, cov]
 cases b.all fun t => a.any fun u => gtT u t with
 | false => rfl
 | true => simp
theorem zuJ {a a' b b' : List (List Int)} (ha : a.Perm a') (hb : b.Perm b') : cov a b = cov a' b' := by
 have h1 : ∀ t, (a.any fun u => gtT u t) = a'.any fun u => gtT u t := by
  intro t
  rw [Bool.eq_iff_iff]
  simp only [List.any_eq_true]
  exact ⟨fun ⟨u, h, k⟩ => ⟨u, ha.mem_iff.1 h, k⟩, fun ⟨u, h, k⟩ => ⟨u, ha.mem_iff.2 h, k⟩⟩
 have h2 : (b.all fun t => a.any fun u => gtT u t) = b'.all fun t => a'.any fun u => gtT u t := by
  rw [Bool.eq_iff_iff]
  simp only [List.all_eq_true, h1]
  exact ⟨fun h t k => h t (hb.mem_iff.2 k), fun h t k => h t (hb.mem_iff.1 k)⟩
 unfold cov
 rw [h2, ha.length_eq]
theorem smR.of_count {a x : List (List Int)} (ha : smR a) (h : ∀ s, x.count s ≤ a.count s) : smR x := by
 have hm : ∀ t ∈ x, t ∈ a := fun t ht => List.count_pos_iff.1 (by have := List.count_pos_iff.2 ht; have := h t; omega)
 refine ⟨?_, fun t ht => ha.2 t (hm t ht)⟩
 have : ∀ (x a : List (List Int)), (∀ s, x.count s ≤ a.count s) → x.length ≤ a.length := by
  intro x
  induction x with
  | nil => intro a _; simp
  | cons t x ih =>
   intro a h
   have ht : t ∈ a := List.count_pos_iff.1 (by have := h t; rw [List.count_cons_self] at this; omega)
   have := ih (a.erase t) (fun s => by
    have := h s
    rw [List.count_erase]
    rw [List.count_cons] at this
    by_cases e : t = s
    ·subst e; simp at this ⊢; omega
    ·simp [e] at this ⊢; exact this)
   rw [List.length_erase_of_mem ht] at this
   have := List.length_pos_of_mem ht
   simp; omega
 have := this x a h
 have := ha.1
 omega
theorem zyM (a b : List (List Int)) (ha : smR a) (hb : smR b) : ∃ n : Int, zfi M a b = some ((n, ()), ()) ∧ zh1 M a b = some ((n, ()), ()) := by
 obtain ⟨x, y, hx, hc, hc'⟩ := zxr a ha a.length 0 b [] (by omega) hb (by simp)
 rw [show ((0 : Nat) : Int) = 0 from rfl, List.nil_append] at hx
 simp only [List.drop_zero] at hc hc'
 obtain ⟨x', e1, d1⟩ := ztw a b ha hb
 obtain ⟨y', e2, d2⟩ := ztw b a hb ha
 have sx : smR x := ha.of_count (fun s => by rw [hc s]; omega)
 have sy : smR y := hb.of_count (fun s => by rw [hc' s]; omega)
 have sx' : smR x' := ha.of_count (fun s => by rw [d1 s]; omega)
 have sy' : smR y' := hb.of_count (fun s => by rw [d2 s]; omega)
 have px : x'.Perm x := List.perm_iff_count.2 fun s => by rw [hc s, d1 s]
 have py : y'.Perm y := List.perm_iff_count.2 fun s => by rw [hc' s, d2 s]
 refine ⟨if x.length = 0 ∧ y.length = 0 then 0 else if cov x y = true then 1 else if cov y x = true then -1 else 2, zoz _ _ ?_, zsu _ _ ?_⟩
 ·simp only [zhi]
  rw [if_pos (by have := hb.1; omega), hx]
  simp only [Option.bind_some, Sum.elim_inl, zqd x y sx sy, zqd y x sy sx]
  by_cases h1 : x.length = 0
  ·rw [if_pos (by simp [h1])]
   by_cases h2 : y.length = 0
   ·rw [if_pos (by simp [h2]), if_pos ⟨h1, h2⟩]
   ·rw [if_neg (by simpa using h2), if_neg (show ¬ (x.length = 0 ∧ y.length = 0) from fun q => h2 q.2)]
    cases cov x y <;> cases cov y x <;> rfl
  ·rw [if_neg (by simpa using h1), if_neg (show ¬ (x.length = 0 ∧ y.length = 0) from fun q => h1 q.1)]
   cases cov x y <;> cases cov y x <;> rfl
 ·simp only [zkh, e1, e2, Option.bind_some, zuG x' y' sx' sy', zuG y' x' sy' sx', zuJ px py, zuJ py px, px.length_eq, py.length_eq]
  by_cases h1 : x.length = 0
  ·rw [if_pos (by simp [h1])]
   by_cases h2 : y.length = 0
   ·rw [if_pos (by simp [h2]), if_pos ⟨h1, h2⟩]
   ·rw [if_neg (by simpa using h2), if_neg (show ¬ (x.length = 0 ∧ y.length = 0) from fun q => h2 q.2)]
    cases cov x y <;> cases cov y x <;> rfl
  ·rw [if_neg (by simpa using h1), if_neg (show ¬ (x.length = 0 ∧ y.length = 0) from fun q => h1 q.1)]
   cases cov x y <;> cases cov y x <;> rfl
def lsL (x : TLit) : List (List Int) := if x.1 = true then [x.2.1, x.2.2.1] else [x.2.1, x.2.2.1, x.2.1, x.2.2.1]
theorem znQ (x : TLit) : zet M x = some ((lsL x, ()), ()) ∧ zg6 M x = some ((lsL x, ()), ()) := by
 refine ⟨zpB _ ?_, ztm _ ?_⟩
 ·simp only [zie, lsL]; split <;> rfl
 ·simp only [zk5, lsL]; split <;> rfl
def smTL (x : TLit) : Prop := smT x.2.1 ∧ smT x.2.2.1
theorem zwB {x : TLit} (h : smTL x) : smR (lsL x) := by
 unfold lsL
 split
 ·refine ⟨by simp, fun t ht => ?_⟩
  simp only [List.mem_cons, List.not_mem_nil, or_false] at ht
  rcases ht with rfl | rfl
  ·exact h.1
  ·exact h.2
 ·refine ⟨by simp, fun t ht => ?_⟩
  simp only [List.mem_cons, List.not_mem_nil, or_false] at ht
  rcases ht with rfl | rfl | rfl | rfl
  ·exact h.1
  ·exact h.2
  ·exact h.1
  ·exact h.2
theorem zwH (c : List TLit) (hl : c.length ≤ 1000) (hc : ∀ x ∈ c, smTL x) (m : Nat) (hm : m < c.length) : ∀ (k i : Nat), i + k = c.length → ∃ r, zbX M c m c c.length i = some r ∧ zb1 M c m c c.length i = some r ∧ (r = .inl () ∨ r = .inr ((false, ()), ())) := by
 intro k
 induction k with
 | zero =>
  intro i hi
  obtain rfl : i = c.length := by omega
  refine ⟨.inl (), zgP _ _ _ _ _ ?_, zgW _ _ _ _ _ ?_, .inl rfl⟩
  ·simp [zcJ]
  ·simp [zcC]
 | succ k ih =>
  intro i hi
  have h1 : i < c.length := by omega
  obtain ⟨r, r1, r2, r3⟩ := ih (i + 1) (by omega)
  by_cases e : i = m
  ·refine ⟨r, zgP _ _ _ _ _ ?_, zgW _ _ _ _ _ ?_, r3⟩
   ·simp only [zcJ]
    rw [if_pos (by simpa using h1), ze h1, za (by omega)]
    simp only [Option.bind_some]
    rw [if_neg (by simp [e])]
    exact r1
   ·simp only [zcC]
    rw [if_pos (by simpa using h1), ze h1, za (by omega)]
    simp only [Option.bind_some]
    rw [if_neg (by simp [e])]
    exact r2
  ·obtain ⟨n, n1, n2⟩ := zyM (lsL c[i]) (lsL c[m]) (zwB (hc _ (List.getElem_mem h1))) (zwB (hc _ (List.getElem_mem hm)))
   have hcl : zfJ M c[i] c[m] = some ((n, ()), ()) := by
    apply zpc
    simp only [zhQ, zK, (znQ c[i]).1, (znQ c[m]).1, n1, Option.bind_some]
   refine ⟨if n = 1 then .inr ((false, ()), ()) else r, zgP _ _ _ _ _ ?_, zgW _ _ _ _ _ ?_, ?_⟩
   ·simp only [zcJ]
    rw [if_pos (by simpa using h1), ze h1, za (by omega), ze hm]
    simp only [Option.bind_some]
    rw [if_pos (by simp; omega)]
    simp only [zK, hcl, Option.bind_some]
    by_cases h : n = 1
    ·rw [if_pos (by simpa using h), if_pos h]
    ·rw [if_neg (by simpa using h), if_neg h]; exact r1
   ·simp only [zcC]
    rw [if_pos (by simpa using h1), ze h1, za (by omega), ze hm]
    simp only [Option.bind_some]
    rw [if_pos (by simp; omega)]
    simp only [zK, (znQ c[i]).2, (znQ c[m]).2, n2, Option.bind_some]
    by_cases h : n = 1
    ·rw [if_pos (by simpa using h), if_pos h]
    ·rw [if_neg (by simpa using h), if_neg h]; exact r2
   ·split
    ·exact .inr rfl
    ·exact r3
theorem zsI (c : List TLit) (hl : c.length ≤ 1000) (hc : ∀ x ∈ c, smTL x) (m : Nat) (hm : m < c.length) : ∃ b : Bool, zci M c m = some ((b, ()), ()) ∧ zeX M c m = some ((b, ()), ()) := by
 obtain ⟨r, r1, r2, r3⟩ := zwH c hl hc m hm c.length 0 (by omega)
 rw [show ((0 : Nat) : Int) = 0 from rfl] at r1 r2
 rcases r3 with rfl | rfl
 ·exact ⟨true, zmh _ _ (by simp only [zgS, r1, Option.bind_some, Sum.elim_inl]), zlR _ _ (by simp only [zgV, r2, Option.bind_some, Sum.elim_inl])⟩
 ·exact ⟨false, zmh _ _ (by simp only [zgS, r1, Option.bind_some, Sum.elim_inr]), zlR _ _ (by simp only [zgV, r2, Option.bind_some, Sum.elim_inr])⟩
end Go.Proofs.YtenknihdnkiplaaGreatSs.Ev
namespace Go.Proofs.YtenknihdnkiplaaGreatSs.Ev
open Go
set_option autoImplicit false
set_option linter.unusedVariables false
set_option linter.unusedSimpArgs false
theorem zAd (Ls : List (List Int)) (hx : ∀ x ∈ Ls, x.length ≤ 1000000) (hl : Ls.length ≤ 1000) : ∀ (k i n : Nat), i + k = Ls.length → n ≤ 1000000 * i → zbk M Ls n Ls Ls.length i = some (.inl (Ls, ((n + ((Ls.drop i).flatten).length : Nat) : Int), ())) := by
 intro k
 induction k with
 | zero =>
  intro i n hi hn
  obtain rfl : i = Ls.length := by omega
  apply zgA
  simp only [zbV]
  rw [if_neg (by simp), List.drop_length]
  simp
 | succ k ih =>
  intro i n hi hn
  have h1 : i < Ls.length := by omega
  have h2 := hx _ (List.getElem_mem h1)
  have e : IntKind.i64.wrap ((n : Int) + (Ls[i].length : Int)) = ((n + Ls[i].length : Nat) : Int) := by rw [w64 (by omega) (by omega)]; omega
  apply zgA
  simp only [zbV]
  rw [if_pos (by simpa using h1), ze h1, za (by omega)]
  simp only [Option.bind_some, e]
  rw [if_neg (by simp; omega), ih (i + 1) _ (by omega) (by omega), List.drop_eq_getElem_cons h1, List.flatten_cons, List.length_append]
  congr 4
  omega
theorem zAb (Ls : List (List Int)) (hx : ∀ x ∈ Ls, x.length ≤ 1000000) (hl : Ls.length ≤ 1000) : ∀ (k i : Nat) (o : List Int), i + k = Ls.length → o.length ≤ 1000000 * i → zbg M o Ls Ls.length i = some (.inl (o ++ (Ls.drop i).flatten, ())) := by
 intro k
 induction k with
 | zero =>
  intro i o hi ho
  obtain rfl : i = Ls.length := by omega
  apply zgv
  simp only [zbL]
  rw [if_neg (by simp), List.drop_length]
  simp
 | succ k ih =>
  intro i o hi ho
  have h1 : i < Ls.length := by omega
  have h2 := hx _ (List.getElem_mem h1)
  apply zgv
  simp only [zbL]
  rw [if_pos (by simpa using h1), ze h1, za (by omega)]
  simp only [Option.bind_some]
  rw [if_pos (by omega), ih (i + 1) _ (by omega) (by simp; omega), List.drop_eq_getElem_cons h1, List.flatten_cons, List.append_assoc]
theorem p_cI (Ls : List (List Int)) (hx : ∀ x ∈ Ls, x.length ≤ 1000000) (hl : Ls.length ≤ 1000) (ht : Ls.flatten.length ≤ 1000000000) : zc0 M Ls = some ((Ls.flatten, ()), ()) := by
 apply zmz
 have a := zAd Ls hx hl Ls.length 0 0 (by omega) (by omega)
 have b := zAb Ls hx hl Ls.length 0 [] (by omega) (by simp)
 rw [show ((0 : Nat) : Int) = 0 from rfl] at a b
 rw [List.drop_zero, Nat.zero_add] at a
 rw [List.drop_zero, List.nil_append] at b
 simp only [zfz, a, Option.bind_some, Sum.elim_inl]
 rw [if_pos (by omega), b]
 rfl
theorem zAe (Ls : List (List TLit)) (hx : ∀ x ∈ Ls, x.length ≤ 1000000) (hl : Ls.length ≤ 1000) : ∀ (k i n : Nat), i + k = Ls.length → n ≤ 1000000 * i → zap M Ls n Ls Ls.length i = some (.inl (Ls, ((n + ((Ls.drop i).flatten).length : Nat) : Int), ())) := by
 intro k
 induction k with
 | zero =>
  intro i n hi hn
  obtain rfl : i = Ls.length := by omega
  apply zdo
  simp only [zaP]
  rw [if_neg (by simp), List.drop_length]
  simp
 | succ k ih =>
  intro i n hi hn
  have h1 : i < Ls.length := by omega
  have h2 := hx _ (List.getElem_mem h1)
  have e : IntKind.i64.wrap ((n : Int) + (Ls[i].length : Int)) = ((n + Ls[i].length : Nat) : Int) := by rw [w64 (by omega) (by omega)]; omega
  apply zdo
  simp only [zaP]
  rw [if_pos (by simpa using h1), ze h1, za (by omega)]
  simp only [Option.bind_some, e]
  rw [if_neg (by simp; omega), ih (i + 1) _ (by omega) (by omega), List.drop_eq_getElem_cons h1, List.flatten_cons, List.length_append]
  congr 4
  omega
theorem zAi (Ls : List (List TLit)) (hx : ∀ x ∈ Ls, x.length ≤ 1000000) (hl : Ls.length ≤ 1000) : ∀ (k i : Nat) (o : List TLit), i + k = Ls.length → o.length ≤ 1000000 * i → zaj M o Ls Ls.length i = some (.inl (o ++ (Ls.drop i).flatten, ())) := by
 intro k
 induction k with
 | zero =>
  intro i o hi ho
  obtain rfl : i = Ls.length := by omega
  apply zdf
  simp only [zaK]
  rw [if_neg (by simp), List.drop_length]
  simp
 | succ k ih =>
  intro i o hi ho
  have h1 : i < Ls.length := by omega
  have h2 := hx _ (List.getElem_mem h1)
  apply zdf
  simp only [zaK]
  rw [if_pos (by simpa using h1), ze h1, za (by omega)]
  simp only [Option.bind_some]
  rw [if_pos (by omega), ih (i + 1) _ (by omega) (by simp; omega), List.drop_eq_getElem_cons h1, List.flatten_cons, List.append_assoc]
theorem p_cL (Ls : List (List TLit)) (hx : ∀ x ∈ Ls, x.length ≤ 1000000) (hl : Ls.length ≤ 1000) (ht : Ls.flatten.length ≤ 1000000000) : zbf M Ls = some ((Ls.flatten, ()), ()) := by
 apply zio
 have a := zAe Ls hx hl Ls.length 0 0 (by omega) (by omega)
 have b := zAi Ls hx hl Ls.length 0 [] (by omega) (by simp)
 rw [show ((0 : Nat) : Int) = 0 from rfl] at a b
 rw [List.drop_zero, Nat.zero_add] at a
 rw [List.drop_zero, List.nil_append] at b
 simp only [zb2, a, Option.bind_some, Sum.elim_inl]
 rw [if_pos (by omega), b]
 rfl
theorem zwq (s : TSign) (hg : gS s.1 = true) (t r : List Int) (ht : t.length ≤ 10000) (hr : r.length ≤ 10000) {i : Nat} {u x : List Int} (h : t.drop i = u ++ x) (hu : Tm s.1 u) : zff M s t i r = some ((t.take i ++ r ++ x, ()), ()) ∧ zeV M s t i r = some ((t.take i ++ r ++ x, ()), ()) := by
 obtain ⟨c1, c2⟩ := znE h (Tm.pos hu)
 have hp := Tm.pos hu
 have he := zsL s hg t (by omega) u x i 1 h (by omega) (by omega) (by omega) hu
 have he' : zd0 M s t i = some ((((i + u.length : Nat) : Int), ()), ()) := by
  apply zmH
  simp only [zhy, zb, he, Option.bind_some, Sum.elim_inl]
 have hs := zr9 s hg t i (by omega) (by omega)
 rw [h, Tm.rest hg hu x] at hs
 have hd : t.drop (i + u.length) = x := by rw [← List.drop_drop, h, List.drop_left]
 refine ⟨zoc _ _ _ _ ?_, zqk _ _ _ _ ?_⟩
 ·simp only [zhp, zb]
  rw [if_pos (by omega), he']
  simp only [Option.bind_some]
  rw [if_pos (by omega)]
  simp only [Int.toNat_natCast, Int.toNat_zero, List.drop_zero, List.take_length, hd]
  rw [p_cI [t.take i, r, x] (by
   intro y hy
   simp only [List.mem_cons, List.not_mem_nil, or_false] at hy
   rcases hy with rfl | rfl | rfl
   ·simp; omega
   ·omega
   ·omega) (by simp) (by simp; omega)]
  simp
 ·simp only [ziR, zb]
  rw [if_pos (by omega)]
  simp only [Int.toNat_natCast, Int.toNat_zero, List.drop_zero, List.take_length]
  rw [zkD (t.take i) (by simp; omega)]
  simp only [Option.bind_some]
  rw [if_pos (by simp; omega), hs]
  simp only [Option.bind_some]
  rw [if_pos (by omega), show ((t.length : Int) - x.length).toNat = i + u.length by omega, hd, if_pos (by simp; omega)]
def sd (x : TLit) (k : Int) : List Int × List Int := if k = 0 then (x.2.1, x.2.2.1) else (x.2.2.1, x.2.1)
theorem zlK (x : TLit) (k : Int) : zaY M x k = some (((sd x k).1, (sd x k).2, ()), ()) ∧ zcq M x k = some (((sd x k).1, (sd x k).2, ()), ()) := by
 refine ⟨zq3 _ _ ?_, zsc _ _ ?_⟩
 ·simp only [zjx, sd]
  by_cases h : k = 0
  ·rw [if_pos (by simpa using h), if_pos h]
  ·rw [if_neg (by simpa using h), if_neg h]
 ·simp only [zko, sd]
  by_cases h : k = 0
  ·rw [if_pos (by simpa using h), if_pos h]
  ·rw [if_neg (by simpa using h), if_neg h]
def is01 (k : Int) : Bool := decide (0 ≤ k) && decide (k ≤ 1)
theorem zul (k : Int) : zg2 M k = some ((is01 k, ()), ()) := by
 apply zsW
 simp only [zk4, is01]
 by_cases h : k = 0
 ·subst h; rfl
 ·rw [if_neg (by simpa using h)]
  by_cases h1 : k = 1
  ·subst h1; rfl
  ·have : (k == (1 : Int)) = false := by simpa using h1
   rw [this]
   have : (decide (0 ≤ k) && decide (k ≤ 1)) = false := by
    rw [Bool.and_eq_false_iff]
    simp only [decide_eq_false_iff_not]
    omega
   rw [this]
theorem zvB (c : List TLit) (hc : c.length ≤ 1000) (i k : Int) : zhP M c i k = some ((decide (0 ≤ i) && decide (i < (c.length : Int)) && is01 k, ()), ()) := by
 apply ztT
 rw [zl6, w64 (by omega) (by omega), zkB, zkB]
 simp only [Option.bind_some, is01]
 have : decide (i ≤ (c.length : Int) - 1) = decide (i < (c.length : Int)) := by rw [decide_eq_decide]; omega
 rw [this]
 cases (decide (0 ≤ i) && decide (i < (c.length : Int))) <;> rfl
theorem zxW (a b : List Int) : cmpK a b = 0 ∨ cmpK a b = 1 ∨ cmpK a b = -1 ∨ cmpK a b = 2 := by
 unfold cmpK
 split
 ·exact .inl rfl
 ·split
  ·exact .inr (.inl rfl)
  ·split
   ·exact .inr (.inr (.inl rfl))
   ·exact .inr (.inr (.inr rfl))
def ovr (a b : List Int) : Bool := decide (0 < cmpK a b)
theorem zvH (a b : List Int) (ha : smT a) (hb : smT b) : zdi M a b = some ((!ovr a b, ()), ()) ∧ zg1 M a b = some ((ovr a b, ()), ()) := by
 have h := zst a b ha hb
 have hv := zxW a b
 refine ⟨zrS _ _ ?_, ztl _ _ ?_⟩
 ·simp only [zjZ, h.1, Option.bind_some, ovr]
  rcases hv with e | e | e | e <;> rw [e] <;> rfl
 ·simp only [zlm, h.2, Option.bind_some, ovr]
  rcases hv with e | e | e | e <;> rw [e] <;> rfl
theorem zxe (c : List TLit) (hl : c.length ≤ 20) (hc : ∀ x ∈ c, x.2.1.length ≤ 1000 ∧ x.2.2.1.length ≤ 1000) (b : Bool) : zbe M c b = some ((outC c, (if b = true then 0 else 5), ()), ()) := by
 apply zsr
 simp only [zj3, (zp3 c hl hc).1, Option.bind_some]
 cases b <;> rfl
abbrev TWay := Int × Int × Int × Int × Int × Unit
theorem zz9 (s : TSign) (w : TWay) (u l r v : List Int) (f : List (List Int)) (cb eb : List TLit) (hl : cb.length ≤ 1000) : ∀ (k i : Nat) (o : List TLit), i + k = cb.length → o.length ≤ i → zck M s w u l r v f cb eb o cb.length i = some (.inl (s, w, u, l, r, v, f, cb, eb, o ++ ((cb.drop i).zipIdx i).filterMap (fun p => if (p.2 : Int) = w.1 then none else some p.1), ())) := by
 intro k
 induction k with
 | zero =>
  intro i o hi ho
  obtain rfl : i = cb.length := by omega
  apply zir
  simp only [zdy]
  rw [if_neg (by simp), List.drop_length]
  simp
 | succ k ih =>
  intro i o hi ho
  have h1 : i < cb.length := by omega
  apply zir
  simp only [zdy]
  rw [if_pos (by simpa using h1), if_pos (by omega), Int.toNat_natCast, List.getElem?_eq_getElem h1]
  simp only [Option.bind_some]
  rw [List.drop_eq_getElem_cons h1, List.zipIdx_cons, List.filterMap_cons]
  by_cases h : (i : Int) = w.1
  ·rw [if_neg (by simpa using h), if_pos h]
   simp only [Option.bind_some, Sum.elim_inl]
   rw [za (by omega)]
   exact ih (i + 1) o (by omega) (by omega)
  ·rw [if_pos (by simpa using h), if_neg h, if_pos (by simp; omega)]
   simp only [Option.bind_some, Sum.elim_inl]
   rw [za (by omega)]
   have := ih (i + 1) (o ++ [cb[i]]) (by omega) (by simp; omega)
   rw [List.append_assoc] at this
   exact this
end Go.Proofs.YtenknihdnkiplaaGreatSs.Ev
namespace Go.Proofs.YtenknihdnkiplaaGreatSs.Ev
open Go
set_option autoImplicit false
set_option linter.unusedVariables false
set_option linter.unusedSimpArgs false
theorem zoE : ∀ (l : List TLit) (i n : Nat), i ≤ n → (l.zipIdx i).filterMap (fun p => if (p.2 : Int) = (n : Int) then none else some p.1) = l.eraseIdx (n - i)
 | [], i, n, _ => by simp
 | x :: l, i, n, h => by
  rw [List.zipIdx_cons, List.filterMap_cons]
  by_cases e : i = n
  ·subst e
   rw [if_pos rfl, Nat.sub_self, List.eraseIdx_cons_zero]
   have : ∀ (l : List TLit) (k : Nat), i < k → (l.zipIdx k).filterMap (fun p => if (p.2 : Int) = (i : Int) then none else some p.1) = l := by
    intro l
    induction l with
    | nil => intro k _; simp
    | cons y l ih =>
     intro k hk
     rw [List.zipIdx_cons, List.filterMap_cons, if_neg (by simp; omega), ih (k + 1) (by omega)]
   exact this l (i + 1) (by omega)
  ·rw [if_neg (by simp; omega), zoE l (i + 1) n (by omega), show n - i = (n - (i + 1)) + 1 by omega, List.eraseIdx_cons_succ]
def newL (ot : Int) (z : TLit) (y : List Int) : TLit := if ot = 0 then (z.1, y, z.2.2.1, ()) else (z.1, z.2.1, y, ())
theorem zzG (s : TSign) (i sc ot p0 : Int) (m : Nat) (u l r v V Y : List Int) (f : List (List Int)) (cb eb : List TLit) (hl : eb.length ≤ 1000) (hm : m < eb.length) (hot : ot = 0 ∨ ot = 1)
  (hr : ∃ R, zeV M s u p0 r = some ((R, ()), ()) ∧ zF M f R = some ((Y, ()), ())) (hv : zF M f v = some ((V, ()), ())) (hz : (ot = 0 → V = eb[m].2.2.1) ∧ (ot = 1 → V = eb[m].2.1)) :
  ∀ (k q : Nat) (o : List TLit), q + k = eb.length → o.length ≤ 1000 + q → zct M s (i, sc, (m : Int), ot, p0, ()) u l r v f cb eb o eb.length q = some (.inl (s, (i, sc, (m : Int), ot, p0, ()), u, l, r, v, f, cb, eb, o ++ (eb.set m (newL ot eb[m] Y)).drop q, ())) := by
 obtain ⟨R, hr1, hr2⟩ := hr
 have hsl : (eb.set m (newL ot eb[m] Y)).length = eb.length := by simp
 intro k
 induction k with
 | zero =>
  intro q o hq ho
  obtain rfl : q = eb.length := by omega
  apply ziu
  simp only [zdu]
  rw [if_neg (by simp), List.drop_eq_nil_of_le (by omega), List.append_nil]
 | succ k ih =>
  intro q o hq ho
  have h1 : q < eb.length := by omega
  have h2 : q < (eb.set m (newL ot eb[m] Y)).length := by omega
  have hd : ∀ x : TLit, (eb.set m (newL ot eb[m] Y))[q] = x → o ++ (eb.set m (newL ot eb[m] Y)).drop q = (o ++ [x]) ++ (eb.set m (newL ot eb[m] Y)).drop (q + 1) := by
   intro x hx
   rw [List.drop_eq_getElem_cons h2, hx, List.append_assoc]
   rfl
  apply ziu
  simp only [zdu]
  rw [if_pos (by simpa using h1), if_pos (by omega), Int.toNat_natCast, List.getElem?_eq_getElem h1]
  simp only [Option.bind_some, zb]
  by_cases h : q = m
  ·subst h
   rw [if_pos (by simp), hr1]
   simp only [Option.bind_some]
   rw [hr2]
   simp only [Option.bind_some]
   rw [hv]
   simp only [Option.bind_some]
   rcases hot with rfl | rfl
   ·rw [if_neg (by decide)]
    simp only [Option.bind_some, Sum.elim_inl, zb]
    rw [if_pos (by simp; omega), za (by omega), ih (q + 1) _ (by omega) (by simp; omega), hd (eb[q].1, Y, V, ()) (by rw [List.getElem_set_self, newL, if_pos rfl, hz.1 rfl])]
   ·rw [if_pos (by decide)]
    simp only [Option.bind_some, Sum.elim_inl, zb]
    rw [if_pos (by simp; omega), za (by omega), ih (q + 1) _ (by omega) (by simp; omega), hd (eb[q].1, V, Y, ()) (by rw [List.getElem_set_self, newL, if_neg (by decide), hz.2 rfl])]
  ·rw [if_neg (by simp; omega)]
   simp only [Option.bind_some, Sum.elim_inl, zb]
   rw [if_pos (by simp; omega), za (by omega), ih (q + 1) _ (by omega) (by simp; omega), hd eb[q] (by rw [List.getElem_set_ne (Ne.symm h)])]
def SupOK (a : List Int) (c d : List TLit) (w : TWay) (out : List TLit) : Prop :=
 ∃ (I J at' : Nat) (hI : I < c.length) (hJ : J < (apartC c d).length) (τ : Int → List Int) (p z : List Int), w.1 = I ∧ w.2.2.1 = J ∧ c[I].1 = true ∧ (w.2.2.2.1 = 0 ∨ w.2.2.2.1 = 1) ∧ okU a τ ∧ (apartC c d).all (litOK a) = true ∧ (sd (apartC c d)[J] w.2.2.2.1).1.drop at' = p ++ z ∧ Tm a p ∧
  apS τ (sd c[I] w.2.1).1 = apS τ p ∧ out = (apC τ c).eraseIdx I ++ (apC τ (apartC c d)).set J (newL w.2.2.2.1 ((apC τ (apartC c d))[J]'(by simpa [apC] using hJ)) (apS τ ((sd (apartC c d)[J] w.2.2.2.1).1.take at' ++ (sd c[I] w.2.1).2 ++ z))) ∧ out.length ≤ 8 ∧ ∀ x ∈ out, litOK a x = true
theorem zaL {a : List Int} {x : TLit} : litOK a x = true ↔ isT a x.2.1 = true ∧ isT a x.2.2.1 = true := by simp [litOK]
theorem zw1 {a : List Int} (hg : gS a = true) {τ : Int → List Int} (hτ : okU a τ) {x : TLit} (hx : litOK a x = true) : litOK a (x.1, apS τ x.2.1, apS τ x.2.2.1, ()) = (decide ((apS τ x.2.1).length ≤ 40) && decide ((apS τ x.2.2.1).length ≤ 40)) := by
 have hT : ∀ v, τ v ≠ [] → Tm a (τ v) := fun v h => (zi.1 (hτ.1 v h).1).2
 obtain ⟨h1, h2⟩ := zaL.1 hx
 have t1 := zg7 hg hT (zi.1 h1).2
 have t2 := zg7 hg hT (zi.1 h2).2
 simp only [litOK, isT, decide_eq_true t1, decide_eq_true t2, Bool.and_true]
theorem zuz {a : List Int} (hg : gS a = true) {τ : Int → List Int} (hτ : okU a τ) {c : List TLit} (hl : c.length ≤ 8) (hc : ∀ x ∈ c, litOK a x = true) : clOK a (apC τ c) = fitT τ (tms c) := by
 have : ∀ c : List TLit, (∀ x ∈ c, litOK a x = true) → (apC τ c).all (litOK a) = fitT τ (tms c) := by
  intro c
  induction c with
  | nil => intro _; rfl
  | cons x r ih =>
   intro h
   have e : tms (x :: r) = [x.2.1, x.2.2.1] ++ tms r := rfl
   rw [e, apC, List.map_cons, List.all_cons, zw1 hg hτ (h x (by simp)), fitT, List.all_append]
   have := ih (fun y hy => h y (by simp [hy]))
   rw [apC] at this
   rw [this, fitT]
   simp
 rw [clOK, this c hc]
 simp [apC, hl]
theorem zkC {a : List Int} {x : TLit} (h : litOK a x = true) (k : Int) : isT a (sd x k).1 = true ∧ isT a (sd x k).2 = true := by
 obtain ⟨h1, h2⟩ := zaL.1 h
 unfold sd; split
 ·exact ⟨h1, h2⟩
 ·exact ⟨h2, h1⟩
theorem zq0 (τ : Int → List Int) (c : List TLit) {i : Nat} (hi : i < c.length) (hi' : i < (apC τ c).length) (k : Int) : sd (apC τ c)[i] k = (apS τ (sd c[i] k).1, apS τ (sd c[i] k).2) := by
 simp only [apC, List.getElem_map]
 unfold sd
 split <;> rfl
theorem zbj {a : List Int} {c : List TLit} : clOK a c = true ↔ c.length ≤ 8 ∧ ∀ x ∈ c, litOK a x = true := by simp [clOK]
theorem zj6 {a : List Int} {x : TLit} (h : litOK a x = true) : x.2.1.length ≤ 100 ∧ x.2.2.1.length ≤ 100 ∧ (∀ n ∈ x.2.1, -12 ≤ n) ∧ ∀ n ∈ x.2.2.1, -12 ≤ n := by
 obtain ⟨h1, h2⟩ := zaL.1 h
 have a1 := (zi.1 h1).1
 have a2 := (zi.1 h2).1
 exact ⟨by omega, by omega, (zco h1).2, (zco h2).2⟩
theorem zys (c : List TLit) (i : Int) (n : Nat) (hn : n < c.length) (hi : i = n) : zg4 M c i true = some ((c[n].1, ()), ()) := by
 subst hi
 apply zoa
 simp only [ziz]
 rw [if_pos (by simp), if_pos (by simpa using hn), ze hn]
 simp
theorem zwY (c : List TLit) (i : Int) (h : ¬ (0 ≤ i ∧ i < (c.length : Int))) : zg4 M c i true = some ((false, ()), ()) := by
 apply zoa
 simp only [ziz]
 by_cases h0 : 0 ≤ i
 ·rw [if_pos (by simpa using h0), if_neg (by simp; omega)]
 ·rw [if_neg (by simpa using h0)]
theorem ztR (l : List TLit) (i : Nat) : l.take i ++ l.drop (i + 1) = l.eraseIdx i := (List.eraseIdx_eq_take_drop_succ l i).symm
end Go.Proofs.YtenknihdnkiplaaGreatSs.Ev
