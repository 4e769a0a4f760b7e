/- Texts laid together: RFa, RFd, XAkz, XAmz, PQz, PQlz, PQ, PQl, RFh, XAn, XAo; no condition but those that each theorem names. -/
import Derived.Test.YtkgpnekonnopgaaGreatMsWAd
import Derived.Test.YtkgpnekonnopgaaGreatMsXAe
namespace Go.Proofs.YtkgpnekonnopgaaGreatMs.Ev
open Go
set_option autoImplicit false
set_option linter.unusedVariables false
set_option linter.unusedSimpArgs false
def inC (a : List Int) (o : List (List TLit)) : Bool := decide (o.length ≤ 12) && o.all (clOK a)
def smC (c : List TLit) : Prop := c.length ≤ 1048576 ∧ ∀ x ∈ c, smL x
theorem zAH (s : TSign) (hg : gS s.1 = true) (c : List TLit) (hc : c.length ≤ 1048576) : zcj M c s = some ((!clOK s.1 c, ()), ()) := by
 apply zjj
 simp only [zdG, za, zpe s hg c hc, Option.bind_some]
theorem zwI (s : TSign) (hg : gS s.1 = true) (o : List (List TLit)) (ho : o.length ≤ 1048576) (hx : ∀ c ∈ o, smC c) : ∀ k i : Nat, i + k = o.length → ∃ r, zh M o (s, ()) o.length i = some r ∧ (match r with | .inl _ => (o.drop i).all (clOK s.1) = true | .inr r => 0 ≤ r.1.1 ∧ (o.drop i).all (clOK s.1) = false) := by
 intro k
 induction k with
 | zero =>
  intro i hi
  obtain rfl : i = o.length := by omega
  refine ⟨.inl (), zg _ _ _ _ (by simp [ze]), by simp⟩
 | succ k ih =>
  intro i hi
  have h1 : i < o.length := by omega
  have hc : o[i].length ≤ 1048576 := by exact (hx _ (List.getElem_mem h1)).1
  obtain ⟨r, hr, hm⟩ := ih (i + 1) (by omega)
  rw [List.drop_eq_getElem_cons h1, List.all_cons]
  by_cases hp : clOK s.1 o[i] = true
  ·refine ⟨r, zg _ _ _ _ ?_, by rw [hp, Bool.true_and]; exact hm⟩
   simp only [ze]
   rw [if_pos (by simpa using h1), zd h1, zb (by omega)]
   simp only [Option.bind_some, zAH s hg _ hc, hp, Bool.not_true, Bool.false_eq_true, if_false]
   exact hr
  ·rw [Bool.not_eq_true] at hp
   refine ⟨.inr (((i : Int), ()), ()), zg _ _ _ _ ?_, Int.natCast_nonneg i, by rw [hp, Bool.false_and]⟩
   simp only [ze]
   rw [if_pos (by simpa using h1), zd h1]
   simp only [Option.bind_some, zAH s hg _ hc, hp, Bool.not_false, if_true]
theorem zvT (s : TSign) (hg : gS s.1 = true) (o : List (List TLit)) (ho : o.length ≤ 1048576) (hx : ∀ c ∈ o, smC c) : zk M o (s, ()) = some ((!(o.all (clOK s.1)), ()), ()) := by
 apply za7
 simp only [zw]
 obtain ⟨r, hr, hm⟩ := zwI s hg o ho hx o.length 0 (by omega)
 rw [show ((0 : Nat) : Int) = 0 from rfl] at hr
 rw [List.drop_zero] at hm
 cases r with
 | inl r =>
  rw [zI o (s, ()) (r := ((-1, ()), ())) (by simp only [zi, hr, Option.bind_some, Sum.elim_inl])]
  simp only at hm
  simp [hm]
 | inr r =>
  rw [zI o (s, ()) (r := r) (by simp only [zi, hr, Option.bind_some, Sum.elim_inr])]
  simp only at hm
  simp [hm]
theorem zBD (s : TSign) (hg : gS s.1 = true) (o : List (List TLit)) (ho : o.length ≤ 1048576) (hx : ∀ c ∈ o, smC c) : zcZ M s o = some ((inC s.1 o, ()), ()) := by
 apply zkk
 simp only [zeJ, za, zvT s hg o ho hx, Option.bind_some, inC]
 by_cases h : o.length ≤ 12
 ·rw [if_pos (by simp; omega)]; simp [h]
 ·rw [if_neg (by simp; omega)]; simp [h]
theorem zs2 (s : TSign) (hg : gS s.1 = true) (o : List (List TLit)) (ho : o.length ≤ 1048576) (hx : ∀ c ∈ o, smC c) : ∀ k i : Nat, i + k = o.length → zaI M o s o o.length i = some (if (o.drop i).all (clOK s.1) = true then .inl (o, s, ()) else .inr ((false, ()), ())) := by
 intro k
 induction k with
 | zero =>
  intro i hi
  obtain rfl : i = o.length := by omega
  apply zaj
  simp [zai]
 | succ k ih =>
  intro i hi
  apply zaj
  have h1 : i < o.length := by omega
  have hk := hx _ (List.getElem_mem h1)
  simp only [zai]
  rw [if_pos (by simpa using h1), zd h1, zb (by omega)]
  simp only [Option.bind_some, za, zfu s hg o[i] hk.1 hk.2, ih (i + 1) (by omega)]
  rw [List.drop_eq_getElem_cons h1, List.all_cons]
  generalize clOK s.1 o[i] = b
  cases b <;> rfl
theorem zBR (s : TSign) (hs : s.1.length ≤ 17592186044416) (hg : gS s.1 = true) (o : List (List TLit)) (ho : o.length ≤ 1048576) (hx : ∀ c ∈ o, smC c) : zeT M s o = some ((inC s.1 o, ()), ()) := by
 apply zis
 have := zs2 s hg o ho hx o.length 0 (by omega)
 rw [show ((0 : Nat) : Int) = 0 from rfl, List.drop_zero] at this
 simp only [zcm, za, this, Option.bind_some, inC]
 cases o.all (clOK s.1) with
 | false => simp
 | true =>
  rw [if_pos rfl]
  simp only [Sum.elim_inl, za, zgu s hs, hg, Option.bind_some, if_true]
  simp
  omega
theorem zxb (s : TSign) (hs : s.1.length ≤ 1048576) (t : List Int) (ht : t.length ≤ 40) : ∀ (k i : Nat) (n : Int), i + k = t.length → ∃ r, zdi M t i s n = some r ∧ (match r with | .inl y => y.2 = () | .inr _ => True) := by
 intro k
 induction k with
 | zero =>
  intro i n hi
  by_cases hn : n > 0
  ·refine ⟨.inr ((-1, ()), ()), zam _ _ _ _ ?_, trivial⟩
   simp only [zY]
   rw [if_pos (by simpa using hn), if_pos (by simp; omega)]
  ·refine ⟨.inl (i, ()), zam _ _ _ _ ?_, rfl⟩
   simp only [zY]
   rw [if_neg (by simpa using hn)]
 | succ k ih =>
  intro i n hi
  have h1 : i < t.length := by omega
  by_cases hn : n > 0
  ·have hw : IntKind.i64.wrap ((s.1.length : Int) - 1) = (s.1.length : Int) - 1 := w64 (by omega) (by omega)
   by_cases hin : -12 ≤ t[i] ∧ t[i] ≤ (s.1.length : Int) - 1
   ·by_cases hx : t[i] ≥ 0
    ·have h2 : t[i].toNat < s.1.length := by omega
     have e2 : idx s.1 t[i] = some s.1[t[i].toNat] := by
      have := zd (xs := s.1) h2
      rwa [show ((t[i].toNat : Nat) : Int) = t[i] by omega] at this
     obtain ⟨r, hr, hm⟩ := ih (i + 1) (IntKind.i64.wrap (IntKind.i64.wrap (n - 1) + s.1[t[i].toNat])) (by omega)
     refine ⟨r, zam _ _ _ _ ?_, hm⟩
     simp only [zY]
     rw [if_pos (by simpa using hn), if_neg (by simp; omega), zd h1]
     simp only [Option.bind_some, zc3, hw]
     rw [if_neg (by simp; omega), if_pos (by simpa using hx), e2]
     simp only [Option.bind_some, Sum.elim_inl, za, zb (show i < 4611686018427387904 by omega)]
     exact hr
    ·obtain ⟨r, hr, hm⟩ := ih (i + 1) (IntKind.i64.wrap (n - 1)) (by omega)
     refine ⟨r, zam _ _ _ _ ?_, hm⟩
     simp only [zY]
     rw [if_pos (by simpa using hn), if_neg (by simp; omega), zd h1]
     simp only [Option.bind_some, zc3, hw]
     rw [if_neg (by simp; omega), if_neg (by simpa using hx)]
     simp only [Option.bind_some, Sum.elim_inl, za, zb (show i < 4611686018427387904 by omega)]
     exact hr
   ·refine ⟨.inr ((-1, ()), ()), zam _ _ _ _ ?_, trivial⟩
    simp only [zY]
    rw [if_pos (by simpa using hn), if_neg (by simp; omega), zd h1]
    simp only [Option.bind_some, zc3, hw]
    rw [if_pos (by simp; omega)]
  ·refine ⟨.inl (i, ()), zam _ _ _ _ ?_, rfl⟩
   simp only [zY]
   rw [if_neg (by simpa using hn)]
theorem zq7 (s : TSign) (hs : s.1.length ≤ 1048576) (t : List Int) : ∃ b : Bool, zcb M s t = some ((b, ()), ()) := by
 by_cases h : 1 ≤ t.length ∧ t.length ≤ 40
 ·obtain ⟨r, hr, _⟩ := zxb s hs t h.2 t.length 0 1 (by omega)
  rw [show ((0 : Nat) : Int) = 0 from rfl] at hr
  have : ∃ n : Int, zep M s t 0 = some ((n, ()), ()) := by
   cases r with
   | inl y => exact ⟨y.1, ziW _ _ _ (by simp only [zfY, za, hr, Option.bind_some, Sum.elim_inl])⟩
   | inr y => exact ⟨y.1.1, ziW _ _ _ (by simp only [zfY, za, hr, Option.bind_some, Sum.elim_inr])⟩
  obtain ⟨n, hn⟩ := this
  refine ⟨n == (t.length : Int), zhZ _ _ ?_⟩
  simp only [ze1, zc3, Option.bind_some, za, hn]
  rw [if_pos (by simp; omega)]
 ·refine ⟨false, zhZ _ _ ?_⟩
  simp only [ze1, zc3, Option.bind_some]
  rw [if_neg (by simp; omega)]
theorem zxg (s : TSign) (hs : s.1.length ≤ 1048576) (x : TLit) : ∃ b : Bool, zhu M s x = some ((b, ()), ()) := by
 obtain ⟨b1, e1⟩ := zq7 s hs x.2.1
 obtain ⟨b2, e2⟩ := zq7 s hs x.2.2.1
 cases b1 with
 | false => exact ⟨false, zkQ _ _ (by simp only [zht, za, e1, Option.bind_some]; rfl)⟩
 | true => exact ⟨b2, zkQ _ _ (by simp only [zht, za, e1, e2, Option.bind_some]; rfl)⟩
theorem ztR (s : TSign) (hs : s.1.length ≤ 1048576) (c : List TLit) (hc : c.length ≤ 1048576) : ∃ b : Bool, zaO M s c = some ((b, ()), ()) := by
 have key : ∀ k i : Nat, i + k = c.length → za3 M c s c c.length i = some (.inl (c, ())) ∨ za3 M c s c c.length i = some (.inr ((false, ()), ())) := by
  intro k
  induction k with
  | zero =>
   intro i hi
   refine .inl (zaR _ _ _ _ _ ?_)
   simp only [zaQ]
   rw [if_neg (by simp; omega)]
  | succ k ih =>
   intro i hi
   have h1 : i < c.length := by omega
   obtain ⟨b, e⟩ := zxg s hs c[i]
   cases b with
   | false =>
    refine .inr (zaR _ _ _ _ _ ?_)
    simp only [zaQ]
    rw [if_pos (by simpa using h1), zd h1]
    simp only [Option.bind_some, za, zj, e, Bool.not_false, if_true]
   | true =>
    refine (ih (i + 1) (by omega)).imp (fun h => zaR _ _ _ _ _ ?_) (fun h => zaR _ _ _ _ _ ?_)
    all_goals
     simp only [zaQ]
     rw [if_pos (by simpa using h1), zd h1, zb (by omega)]
     simp only [Option.bind_some, za, zj, e, Bool.not_true, Bool.false_eq_true, if_false]
     exact h
 rcases key c.length 0 (by omega) with h | h
 ·rw [show ((0 : Nat) : Int) = 0 from rfl] at h
  exact ⟨decide ((c.length : Int) ≤ 8), zgR _ _ (by simp only [zdn, za, h, Option.bind_some, Sum.elim_inl])⟩
 ·rw [show ((0 : Nat) : Int) = 0 from rfl] at h
  exact ⟨false, zgR _ _ (by simp only [zdn, za, h, Option.bind_some, Sum.elim_inr])⟩
theorem zAT (s : TSign) (hs : s.1.length ≤ 1048576) (hg : gS s.1 = false) (o : List (List TLit)) (ho : o.length ≤ 1048576) (hx : ∀ c ∈ o, smC c) : zeT M s o = some ((false, ()), ()) := by
 have key : ∀ k i : Nat, i + k = o.length → zaI M o s o o.length i = some (.inl (o, s, ())) ∨ zaI M o s o o.length i = some (.inr ((false, ()), ())) := by
  intro k
  induction k with
  | zero =>
   intro i hi
   refine .inl (zaj _ _ _ _ _ ?_)
   simp only [zai, za]
   rw [if_neg (by simp; omega)]
  | succ k ih =>
   intro i hi
   have h1 : i < o.length := by omega
   obtain ⟨b, e⟩ := ztR s hs o[i] (hx _ (List.getElem_mem h1)).1
   cases b with
   | false =>
    refine .inr (zaj _ _ _ _ _ ?_)
    simp only [zai]
    rw [if_pos (by simpa using h1), zd h1]
    simp only [Option.bind_some, za, e, Bool.not_false, if_true]
   | true =>
    refine (ih (i + 1) (by omega)).imp (fun h => zaj _ _ _ _ _ ?_) (fun h => zaj _ _ _ _ _ ?_)
    all_goals
     simp only [zai]
     rw [if_pos (by simpa using h1), zd h1, zb (by omega)]
     simp only [Option.bind_some, za, e, Bool.not_true, Bool.false_eq_true, if_false]
     exact h
 apply zis
 rcases key o.length 0 (by omega) with h | h
 ·rw [show ((0 : Nat) : Int) = 0 from rfl] at h
  simp only [zcm, za, h, Option.bind_some, Sum.elim_inl, zgu s (by omega), hg, Bool.false_eq_true, if_false]
 ·rw [show ((0 : Nat) : Int) = 0 from rfl] at h
  simp only [zcm, za, h, Option.bind_some, Sum.elim_inr]
end Go.Proofs.YtkgpnekonnopgaaGreatMs.Ev
namespace Go.Proofs.YtkgpnekonnopgaaGreatMs.Ev
open Go
set_option autoImplicit false
set_option linter.unusedVariables false
set_option linter.unusedSimpArgs false
def wlC (c : List TLit) : Prop := c.length ≤ 9223372036854775807 ∧ ∀ x ∈ c, wlL x
theorem zt6 (a : List (List TLit)) (ha : a.length ≤ 1048576) (hx : ∀ x ∈ a, smC x) : ∀ k i : Nat, i + k = a.length → ∀ o : List (List TLit), o.length = a.length → zfi M a o i = some (.inl (o.take i ++ a.drop i, ())) := by
 intro k
 induction k with
 | zero =>
  intro i hi o ho
  obtain rfl : i = a.length := by omega
  apply zmj
  simp only [zgx, Int.lt_irrefl, decide_false, Bool.false_eq_true, if_false, List.drop_length, List.append_nil]
  rw [← ho, List.take_length]
 | succ k ih =>
  intro i hi o ho
  apply zmj
  have h1 : i < a.length := by omega
  have h2 : i < o.length := by omega
  simp only [zgx]
  rw [if_pos (by simpa using h1), zd h1, zb (by omega)]
  simp only [Option.bind_some, zwa a[i] (hx _ (List.getElem_mem h1)).1 (hx _ (List.getElem_mem h1)).2]
  rw [if_pos (by omega)]
  simp only [Option.bind_some, Int.toNat_natCast, List.getElem?_eq_getElem h2]
  rw [ih (i + 1) (by omega) _ (by simpa using ho)]
  rw [List.take_set, List.take_succ_eq_append_getElem h2, List.set_append_right _ _ (by simp; omega), List.drop_eq_getElem_cons h1]
  simp [Nat.min_eq_left (Nat.le_of_lt h2)]
theorem zyA (a : List (List TLit)) (ha : a.length ≤ 1048576) (hx : ∀ x ∈ a, smC x) : zdZ M a = some ((a, ()), ()) := by
 apply zud
 simp only [zlj]
 rw [if_pos (by refine ⟨by omega, by omega, trivial⟩)]
 have := zt6 a ha hx a.length 0 (by omega) (List.replicate a.length []) (by simp)
 simp only [Int.toNat_natCast]
 rw [show ((0 : Nat) : Int) = 0 from rfl] at this
 rw [this]
 simp
theorem zs6 (a : List (List TLit)) (ha : a.length ≤ 1048576) (hx : ∀ x ∈ a, smC x) : ∀ k i : Nat, i + k = a.length → zfp M a a i = some (.inl ()) := by
 intro k
 induction k with
 | zero =>
  intro i hi
  obtain rfl : i = a.length := by omega
  apply zme
  simp only [zgI, Int.lt_irrefl, decide_false, Bool.false_eq_true, if_false]
 | succ k ih =>
  intro i hi
  apply zme
  have h1 : i < a.length := by omega
  simp only [zgI]
  rw [if_pos (by simpa using h1), zd h1, zb (by omega)]
  simp only [Option.bind_some, zww a[i] (hx _ (List.getElem_mem h1)).1 (hx _ (List.getElem_mem h1)).2, Bool.not_true, Bool.false_eq_true, if_false]
  exact ih (i + 1) (by omega)
theorem zyb (a : List (List TLit)) (ha : a.length ≤ 1048576) (hx : ∀ x ∈ a, smC x) : zi8 M a a = some ((true, ()), ()) := by
 apply zt7
 simp only [zlt, bne_self_eq_false, Bool.false_eq_true, if_false]
 have := zs6 a ha hx a.length 0 (by omega)
 rw [show ((0 : Nat) : Int) = 0 from rfl] at this
 rw [this]
 rfl
def wlS (x : List Int) : Prop := x.length ≤ 9223372036854775807
theorem zun (a : List (List TLit)) (ha : a.length ≤ 1048576) (hx : ∀ x ∈ a, wlC x) : ∀ (k i : Nat) (n : Int), i + k = a.length → 0 ≤ n → n ≤ 1048576 → (∀ x ∈ a.take i, smC x) →
  ∃ r, zeo M a n i = some r ∧ (match r with | .inl y => 0 ≤ y.1 ∧ y.1 ≤ n ∧ ∀ x ∈ a, smC x | .inr y => y.1.1 = -1) := by
 intro k
 induction k with
 | zero =>
  intro i n hi h0 hn hs
  obtain rfl : i = a.length := by omega
  refine ⟨.inl (n, ()), zir _ _ _ (by simp [zdO]), h0, Int.le_refl _, by simpa using hs⟩
 | succ k ih =>
  intro i n hi h0 hn hs
  have h1 : i < a.length := by omega
  obtain ⟨m, hm, hm1, hm2⟩ := zwb a[i] n h0 hn (hx _ (List.getElem_mem h1)).1 (hx _ (List.getElem_mem h1)).2
  by_cases hneg : m < 0
  ·refine ⟨.inr ((-1, ()), ()), zir _ _ _ ?_, rfl⟩
   simp only [zdO]
   rw [if_pos (by simpa using h1), zd h1]
   simp only [Option.bind_some, hm]
   rw [if_pos (by simpa using hneg)]
  ·obtain ⟨r, hr, hp⟩ := ih (i + 1) m (by omega) (by omega) (by omega) (by
    intro x hx'
    rw [List.take_succ_eq_append_getElem h1] at hx'
    rcases List.mem_append.1 hx' with h | h
    ·exact hs x h
    ·rw [List.mem_singleton.1 h]; exact hm2 (by omega))
   refine ⟨r, zir _ _ _ ?_, ?_⟩
   ·simp only [zdO]
    rw [if_pos (by simpa using h1), zd h1, zb (by omega)]
    simp only [Option.bind_some, hm]
    rw [if_neg (by simpa using hneg)]
    exact hr
   ·cases r with
    | inl y => exact ⟨hp.1, by have := hp.2.1; omega, hp.2.2⟩
    | inr y => exact hp
theorem zy6 (a : List (List TLit)) (n : Int) (hn : 0 ≤ n) (hn' : n ≤ 1048576) (ha : a.length ≤ 9223372036854775807) (hx : ∀ x ∈ a, wlC x) : ∃ r : Int, zi4 M a n = some ((r, ()), ()) ∧ r ≤ n ∧ (0 ≤ r → a.length ≤ 1048576 ∧ ∀ x ∈ a, smC x) := by
 have hw : IntKind.i64.wrap (n - a.length) = n - a.length := w64 (by omega) (by omega)
 by_cases h1 : n - a.length < 0
 ·refine ⟨-1, zlK _ _ ?_, by omega, by omega⟩
  simp only [zhn, hw]
  rw [if_pos (by simpa using h1)]
 ·obtain ⟨r, hr, hp⟩ := zun a (by omega) hx a.length 0 (n - a.length) (by omega) (by omega) (by omega) (by simp)
  rw [show ((0 : Nat) : Int) = 0 from rfl] at hr
  cases r with
  | inl y =>
   refine ⟨y.1, zlK _ _ ?_, by have := hp.2.1; omega, fun _ => ⟨by omega, hp.2.2⟩⟩
   simp only [zhn, hw]
   rw [if_neg (by simpa using h1), hr]
   rfl
  | inr y =>
   obtain ⟨⟨y, _⟩, _⟩ := y
   simp only at hp
   subst hp
   refine ⟨-1, zlK _ _ ?_, by omega, by omega⟩
   simp only [zhn, hw]
   rw [if_neg (by simpa using h1), hr]
   rfl
end Go.Proofs.YtkgpnekonnopgaaGreatMs.Ev
namespace Go.Proofs.YtkgpnekonnopgaaGreatMs.Ev
open Go
set_option autoImplicit false
set_option linter.unusedVariables false
set_option linter.unusedSimpArgs false
def inOK (a : List Int) (l : List (List TLit)) : Bool := decide (l.length ≤ 12) && l.all (clOK a)
theorem zAG (s : TSign) (hg : gS s.1 = true) (c : List TLit) (hc : c.length ≤ 1048576) : zcj M c s = some ((!clOK s.1 c, ()), ()) := by
 apply zjj
 simp only [zdG, zb5, zpe s hg c hc, Option.bind_some]
theorem zz1 (s : TSign) (hg : gS s.1 = true) (a : List (List TLit)) (ha : a.length ≤ 1048576) (hx : ∀ c ∈ a, smC c) : ∀ k i : Nat, i + k = a.length → ∃ r, zh M a (s, ()) a.length i = some r ∧ (match r with | .inl _ => (a.drop i).all (clOK s.1) = true | .inr r => 0 ≤ r.1.1 ∧ (a.drop i).all (clOK s.1) = false) := by
 intro k
 induction k with
 | zero =>
  intro i hi
  obtain rfl : i = a.length := by omega
  refine ⟨.inl (), zg _ _ _ _ (by simp [ze]), by simp⟩
 | succ k ih =>
  intro i hi
  have h1 : i < a.length := by omega
  obtain ⟨r, hr, hm⟩ := ih (i + 1) (by omega)
  have hc := (hx _ (List.getElem_mem h1)).1
  rw [List.drop_eq_getElem_cons h1, List.all_cons]
  by_cases hp : clOK s.1 a[i] = true
  ·refine ⟨r, zg _ _ _ _ ?_, by rw [hp, Bool.true_and]; exact hm⟩
   simp only [ze]
   rw [if_pos (by simpa using h1), zd h1, zb (by omega)]
   simp only [Option.bind_some, zAG s hg _ hc, hp, Bool.not_true, Bool.false_eq_true, if_false]
   exact hr
  ·rw [Bool.not_eq_true] at hp
   refine ⟨.inr (((i : Int), ()), ()), zg _ _ _ _ ?_, Int.natCast_nonneg i, by rw [hp, Bool.false_and]⟩
   simp only [ze]
   rw [if_pos (by simpa using h1), zd h1]
   simp only [Option.bind_some, zAG s hg _ hc, hp, Bool.not_false, if_true]
theorem zxf (s : TSign) (hg : gS s.1 = true) (a : List (List TLit)) (ha : a.length ≤ 1048576) (hx : ∀ c ∈ a, smC c) : zcZ M s a = some ((inOK s.1 a, ()), ()) := by
 obtain ⟨r, hr, hm⟩ := zz1 s hg a ha hx a.length 0 (by omega)
 rw [show ((0 : Nat) : Int) = 0 from rfl] at hr
 rw [List.drop_zero] at hm
 have key : zk M a (s, ()) = some ((!(a.all (clOK s.1)), ()), ()) := by
  apply za7
  simp only [zw]
  cases r with
  | inl r =>
   rw [zI a (s, ()) (r := ((-1, ()), ())) (by simp only [zi, hr, Option.bind_some, Sum.elim_inl])]
   simp only at hm
   simp [hm]
  | inr r =>
   rw [zI a (s, ()) (r := r) (by simp only [zi, hr, Option.bind_some, Sum.elim_inr])]
   simp only at hm
   simp [hm]
 apply zkk
 simp only [zeJ, zb5, key, Option.bind_some, Bool.not_not, inOK]
 by_cases h : a.length ≤ 12
 ·rw [if_pos (by simp; omega), decide_eq_true h, Bool.true_and]
 ·rw [if_neg (by simp; omega), decide_eq_false h, Bool.false_and]
theorem zxT (s : TSign) (hs : s.1.length ≤ 1048576) (a : List (List TLit)) (ha : a.length ≤ 1048576) (hx : ∀ c ∈ a, smC c) : zeT M s a = some ((gS s.1 && inOK s.1 a, ()), ()) := by
 cases hg : gS s.1 with
 | false =>
  have h : ∀ k i : Nat, i + k = a.length → zaI M a s a a.length i = some (.inl (a, s, ())) ∨ zaI M a s a a.length i = some (.inr ((false, ()), ())) := by
   intro k
   induction k with
   | zero =>
    intro i hi
    obtain rfl : i = a.length := by omega
    refine .inl (zaj _ _ _ _ _ ?_)
    simp only [zai, za]
    rw [if_neg (by simp)]
   | succ k ih =>
    intro i hi
    have h1 : i < a.length := by omega
    obtain ⟨c1, c2⟩ := hx _ (List.getElem_mem h1)
    obtain ⟨b, hb⟩ := zxe s hs a[i] c1 c2
    have hq : zai M a s a a.length i = if b = true then zaI M a s a a.length ((i + 1 : Nat) : Int) else some (.inr ((false, ()), ())) := by
     simp only [zai, za]
     rw [if_pos (by simpa using h1), zd h1, zb (by omega)]
     simp only [Option.bind_some, hb]
     cases b <;> rfl
    cases b with
    | false => exact .inr (zaj _ _ _ _ _ hq)
    | true =>
     rcases ih (i + 1) (by omega) with h | h
     ·exact .inl (zaj _ _ _ _ _ (hq.trans h))
     ·exact .inr (zaj _ _ _ _ _ (hq.trans h))
  have h0 := h a.length 0 (by omega)
  rw [show ((0 : Nat) : Int) = 0 from rfl] at h0
  apply zis
  rcases h0 with h0 | h0
  ·simp only [zcm, za, h0, Option.bind_some, Sum.elim_inl, zgu s (by omega), hg]; rfl
  ·simp only [zcm, za, h0, Option.bind_some, Sum.elim_inr]; rfl
 | true =>
  have h : ∀ k i : Nat, i + k = a.length → zaI M a s a a.length i = some (if (a.drop i).all (clOK s.1) = true then .inl (a, s, ()) else .inr ((false, ()), ())) := by
   intro k
   induction k with
   | zero =>
    intro i hi
    obtain rfl : i = a.length := by omega
    apply zaj
    simp only [zai, za]
    rw [if_neg (by simp), List.drop_length]
    rfl
   | succ k ih =>
    intro i hi
    have h1 : i < a.length := by omega
    obtain ⟨c1, c2⟩ := hx _ (List.getElem_mem h1)
    apply zaj
    simp only [zai, za]
    rw [if_pos (by simpa using h1), zd h1, zb (by omega), List.drop_eq_getElem_cons h1, List.all_cons]
    simp only [Option.bind_some, zfu s hg a[i] c1 c2]
    cases clOK s.1 a[i] with
    | false => rfl
    | true => exact ih (i + 1) (by omega)
  have h0 := h a.length 0 (by omega)
  rw [show ((0 : Nat) : Int) = 0 from rfl, List.drop_zero] at h0
  apply zis
  simp only [zcm, za, h0, Option.bind_some, inOK, Bool.true_and]
  cases a.all (clOK s.1) with
  | false => simp
  | true =>
   simp only [if_true, Sum.elim_inl, zgu s (show s.1.length ≤ 17592186044416 by omega), hg, Option.bind_some, Bool.and_true]
   congr 3
   rw [decide_eq_decide]; omega
def ofN (n : Nat) (l : List Int) : Bool := l.all fun k => decide (0 ≤ k) && decide (k < (n : Int))
theorem zAK (steps : List TStep) (k : Int) : zi9 M k steps = some ((!(decide (0 ≤ k) && decide (k < (steps.length : Int))), ()), ()) := by
 apply zuk
 simp only [zlA]
 by_cases h0 : 0 ≤ k
 ·rw [if_neg (by simp; omega), decide_eq_true h0, Bool.true_and]
  congr 3
  by_cases h1 : k < (steps.length : Int)
  ·rw [decide_eq_true h1, decide_eq_false (by omega)]; rfl
  ·rw [decide_eq_false h1, decide_eq_true (by omega)]; rfl
 ·rw [if_pos (by simp; omega), decide_eq_false h0]; rfl
theorem zAx (steps : List TStep) (a : List Int) (ha : a.length ≤ 1048576) : ∀ k i : Nat, i + k = a.length → ∃ r, z9 M a (steps, ()) a.length i = some r ∧ (match r with | .inl _ => ofN steps.length (a.drop i) = true | .inr r => 0 ≤ r.1.1 ∧ ofN steps.length (a.drop i) = false) := by
 intro k
 induction k with
 | zero =>
  intro i hi
  obtain rfl : i = a.length := by omega
  refine ⟨.inl (), zbr _ _ _ _ (by simp [z7]), by simp [ofN]⟩
 | succ k ih =>
  intro i hi
  have h1 : i < a.length := by omega
  obtain ⟨r, hr, hm⟩ := ih (i + 1) (by omega)
  have e : ofN steps.length (a.drop i) = ((decide (0 ≤ a[i]) && decide (a[i] < (steps.length : Int))) && ofN steps.length (a.drop (i + 1))) := by
   rw [List.drop_eq_getElem_cons h1]; rfl
  rw [e]
  cases hp : (decide (0 ≤ a[i]) && decide (a[i] < (steps.length : Int))) with
  | true =>
   refine ⟨r, zbr _ _ _ _ ?_, by rw [Bool.true_and]; exact hm⟩
   simp only [z7]
   rw [if_pos (by simpa using h1), zd h1, zb (by omega)]
   simp only [Option.bind_some, zAK, hp, Bool.not_true, Bool.false_eq_true, if_false]
   exact hr
  | false =>
   refine ⟨.inr (((i : Int), ()), ()), zbr _ _ _ _ ?_, Int.natCast_nonneg i, by rw [Bool.false_and]⟩
   simp only [z7]
   rw [if_pos (by simpa using h1), zd h1]
   simp only [Option.bind_some, zAK, hp, Bool.not_false, if_true]
theorem zBo (steps : List TStep) (a : List Int) (ha : a.length ≤ 1048576) : zkx M steps a = some ((ofN steps.length a, ()), ()) := by
 obtain ⟨r, hr, hm⟩ := zAx steps a ha a.length 0 (by omega)
 rw [show ((0 : Nat) : Int) = 0 from rfl] at hr
 rw [List.drop_zero] at hm
 have key : zaL M a (steps, ()) = some ((!(ofN steps.length a), ()), ()) := by
  apply zg5
  simp only [zbu]
  cases r with
  | inl r =>
   rw [zdq a (steps, ()) (r := ((-1, ()), ())) (by simp only [za2, hr, Option.bind_some, Sum.elim_inl])]
   simp only at hm
   simp [hm]
  | inr r =>
   rw [zdq a (steps, ()) (r := r) (by simp only [za2, hr, Option.bind_some, Sum.elim_inr])]
   simp only at hm
   simp [hm]
 apply zvB
 simp only [zns, key, Option.bind_some, Bool.not_not]
end Go.Proofs.YtkgpnekonnopgaaGreatMs.Ev
namespace Go.Proofs.YtkgpnekonnopgaaGreatMs.Ev
open Go
set_option autoImplicit false
set_option linter.unusedVariables false
set_option linter.unusedSimpArgs false
def clS (a : List Int) (l : List TStep) : Bool := l.all fun x => clOK a x.2.2.2.1
theorem zAF (s : TSign) (hg : gS s.1 = true) (x : TStep) (hx : smP x) : zd9 M x s = some ((!clOK s.1 x.2.2.2.1, ()), ()) := by
 apply zoE
 simp only [zgY, zb5, zpe s hg x.2.2.2.1 hx.2.2.1, Option.bind_some]
theorem zzX (s : TSign) (hg : gS s.1 = true) (a : List TStep) (ha : a.length ≤ 1048576) (hx : ∀ x ∈ a, smP x) : ∀ k i : Nat, i + k = a.length → ∃ r, zn M a (s, ()) a.length i = some r ∧ (match r with | .inl _ => clS s.1 (a.drop i) = true | .inr r => 0 ≤ r.1.1 ∧ clS s.1 (a.drop i) = false) := by
 intro k
 induction k with
 | zero =>
  intro i hi
  obtain rfl : i = a.length := by omega
  refine ⟨.inl (), zaa _ _ _ _ (by simp [zm]), by simp [clS]⟩
 | succ k ih =>
  intro i hi
  have h1 : i < a.length := by omega
  obtain ⟨r, hr, hm⟩ := ih (i + 1) (by omega)
  have hc := hx _ (List.getElem_mem h1)
  have e : clS s.1 (a.drop i) = (clOK s.1 a[i].2.2.2.1 && clS s.1 (a.drop (i + 1))) := by
   rw [List.drop_eq_getElem_cons h1]; rfl
  rw [e]
  by_cases hp : clOK s.1 a[i].2.2.2.1 = true
  ·refine ⟨r, zaa _ _ _ _ ?_, by rw [hp, Bool.true_and]; exact hm⟩
   simp only [zm]
   rw [if_pos (by simpa using h1), zd h1, zb (by omega)]
   simp only [Option.bind_some, zj7, zAF s hg _ hc, hp, Bool.not_true, Bool.false_eq_true, if_false]
   exact hr
  ·rw [Bool.not_eq_true] at hp
   refine ⟨.inr (((i : Int), ()), ()), zaa _ _ _ _ ?_, Int.natCast_nonneg i, by rw [hp, Bool.false_and]⟩
   simp only [zm]
   rw [if_pos (by simpa using h1), zd h1]
   simp only [Option.bind_some, zj7, zAF s hg _ hc, hp, Bool.not_false, if_true]
theorem zyp (s : TSign) (hg : gS s.1 = true) (a : List TStep) (ha : a.length ≤ 1048576) (hx : ∀ x ∈ a, smP x) : zfG M s a = some ((decide (a.length ≤ 200) && clS s.1 a, ()), ()) := by
 obtain ⟨r, hr, hm⟩ := zzX s hg a ha hx a.length 0 (by omega)
 rw [show ((0 : Nat) : Int) = 0 from rfl] at hr
 rw [List.drop_zero] at hm
 have key : zF M a (s, ()) = some ((!(clS s.1 a), ()), ()) := by
  apply zc1
  simp only [zad]
  cases r with
  | inl r =>
   rw [zbo a (s, ()) (r := ((-1, ()), ())) (by simp only [zN, hr, Option.bind_some, Sum.elim_inl])]
   simp only at hm
   simp [hm]
  | inr r =>
   rw [zbo a (s, ()) (r := r) (by simp only [zN, hr, Option.bind_some, Sum.elim_inr])]
   simp only at hm
   simp [hm]
 apply zpN
 simp only [zhP, zb5, key, Option.bind_some, Bool.not_not]
 by_cases h : a.length ≤ 200
 ·rw [if_pos (by simp; omega), decide_eq_true h, Bool.true_and]
 ·rw [if_neg (by simp; omega), decide_eq_false h, Bool.false_and]
theorem zzf (s : TSign) (hs : s.1.length ≤ 1048576) (hg : gS s.1 = true) (a : List TStep) (ha : a.length ≤ 1048576) (hx : ∀ x ∈ a, smP x) : zjh M s a = some ((decide (a.length ≤ 200) && clS s.1 a, ()), ()) := by
 have h : ∀ k i : Nat, i + k = a.length → zfe M a s a a.length i = some (if clS s.1 (a.drop i) = true then .inl (a, s, ()) else .inr ((false, ()), ())) := by
  intro k
  induction k with
  | zero =>
   intro i hi
   obtain rfl : i = a.length := by omega
   apply zmk
   simp only [zgT, za]
   rw [if_neg (by simp), List.drop_length]
   rfl
  | succ k ih =>
   intro i hi
   have h1 : i < a.length := by omega
   obtain ⟨_, _, c1, c2⟩ := hx _ (List.getElem_mem h1)
   have e : clS s.1 (a.drop i) = (clOK s.1 a[i].2.2.2.1 && clS s.1 (a.drop (i + 1))) := by
    rw [List.drop_eq_getElem_cons h1]; rfl
   apply zmk
   simp only [zgT, za]
   rw [if_pos (by simpa using h1), zd h1, zb (by omega), e]
   simp only [Option.bind_some, zfu s hg a[i].2.2.2.1 c1 c2]
   cases clOK s.1 a[i].2.2.2.1 with
   | false => rfl
   | true => exact ih (i + 1) (by omega)
 have h0 := h a.length 0 (by omega)
 rw [show ((0 : Nat) : Int) = 0 from rfl, List.drop_zero] at h0
 apply zur
 simp only [zlC, za, h0, Option.bind_some]
 cases clS s.1 a with
 | false => simp
 | true =>
  simp only [if_true, Sum.elim_inl, zgu s (show s.1.length ≤ 17592186044416 by omega), hg, Option.bind_some, Bool.and_true]
  congr 3
  rw [decide_eq_decide]; omega
end Go.Proofs.YtkgpnekonnopgaaGreatMs.Ev
namespace Go.Proofs.YtkgpnekonnopgaaGreatMs.Ev
open Go
set_option autoImplicit false
set_option linter.unusedVariables false
set_option linter.unusedSimpArgs false
theorem znm {i : Nat} (h : i < 9223372036854775807) : IntKind.i64.wrap ((i : Int) + 1) = ((i + 1 : Nat) : Int) := by
 rw [w64 (by omega) (by omega)]; rfl
def mkS (k : Int) : Nat → List Int
 | 0 => []
 | n + 1 => k :: mkS (k + 1) n
theorem zxF : ∀ (n : Nat) (k : Int), (mkS k n).length = n
 | 0, _ => rfl
 | n + 1, k => by simp [mkS, zxF n]
theorem zjf {α : Type} (P R : List α) (x y : α) : (P ++ x :: R).set P.length y = P ++ y :: R := by
 rw [List.set_append_right _ _ (Nat.le_refl _)]; simp
theorem zi6 {α : Type} (P R : List α) (x : α) : (P ++ x :: R)[P.length]? = some x := by simp
theorem zvL {α : Type} (P R : List α) (x : α) : idx (P ++ x :: R) (P.length : Int) = some x := by rw [zxI]; simp
theorem zts : ∀ (R P : List Int) (k : Int), 0 ≤ k → k + R.length ≤ 9000000000000000000 → P.length + R.length ≤ 9000000000000000000 → zeA M (P ++ R) k P.length = some (.inl (P ++ mkS k R.length, k + R.length, ())) := by
 intro R
 induction R with
 | nil =>
  intro P k _ _ _
  apply zlb
  simp [zf3, mkS]
 | cons x R ih =>
  intro P k h0 hk hp
  simp only [List.length_cons] at hk hp
  apply zlb
  simp only [zf3]
  rw [if_pos (by simp; omega), if_pos (by simp; omega), Int.toNat_natCast, zi6, zjf, w64 (x := k + 1) (by omega) (by omega), znm (by omega)]
  simp only [Option.bind_some]
  have := ih (P ++ [k]) (k + 1) (by omega) (by omega) (by simp; omega)
  rw [List.append_assoc, List.length_append] at this
  simp only [List.cons_append, List.nil_append, List.length_cons, List.length_nil, Nat.zero_add] at this
  rw [this]
  simp only [List.length_cons, mkS, List.append_assoc, List.cons_append, List.nil_append]
  rw [show k + 1 + (R.length : Int) = k + ((R.length + 1 : Nat) : Int) by omega]
theorem zfC (a : List Int) (k : Int) (h0 : 0 ≤ k) (hk : k + a.length ≤ 9000000000000000000) : za8 M a k = some ((k + a.length, ()), (mkS k a.length, ())) := by
 apply ztF
 have := zts a [] k h0 hk (by simp; omega)
 simp only [List.nil_append, List.length_nil] at this
 rw [show ((0 : Nat) : Int) = 0 from rfl] at this
 simp only [zkK, this, Option.bind_some, Sum.elim_inl]
theorem zxR (s : TSign) (k : Int) (h0 : 0 ≤ k) (hk : k + s.1.length ≤ 9000000000000000000) : ziD M s k = some ((k + s.1.length, ()), ((mkS k s.1.length, ()), ())) := by
 apply zsY
 simp only [zkX, zfC s.1 k h0 hk, Option.bind_some]
end Go.Proofs.YtkgpnekonnopgaaGreatMs.Ev
namespace Go.Proofs.YtkgpnekonnopgaaGreatMs.Ev
open Go
set_option autoImplicit false
set_option linter.unusedVariables false
set_option linter.unusedSimpArgs false
def totL : List TLit → Nat
 | [] => 0
 | x :: r => 1 + x.2.1.length + x.2.2.1.length + totL r
def mkL (k : Int) : List TLit → List TLit
 | [] => []
 | x :: r => (((Int.tmod k 3) == 0), mkS (k + 1) x.2.1.length, mkS (k + 1 + x.2.1.length) x.2.2.1.length, ()) :: mkL (k + 1 + x.2.1.length + x.2.2.1.length) r
theorem zxv : ∀ (r : List TLit) (k : Int), (mkL k r).length = r.length
 | [], _ => rfl
 | x :: r, k => by simp [mkL, zxv r]
theorem zux : ∀ (r : List TLit), (∀ x ∈ r, smL x) → totL r ≤ 2097153 * r.length
 | [], _ => by simp [totL]
 | x :: r, h => by
  have h1 := h x (by simp)
  have h2 := zux r (fun y hy => h y (by simp [hy]))
  have h3 := h1.1
  have h4 := h1.2
  simp only [totL, List.length_cons]
  omega
theorem ztH : ∀ (R P : List TLit) (k : Int), 0 ≤ k → k + totL R ≤ 9000000000000000000 → P.length + R.length ≤ 9000000000000000000 → zeD M (P ++ R) k P.length = some (.inl (P ++ mkL k R, k + totL R, ())) := by
 intro R
 induction R with
 | nil =>
  intro P k _ _ _
  apply zk8
  simp [zf8, mkL, totL]
 | cons x R ih =>
  intro P k h0 hk hp
  simp only [List.length_cons, totL] at hk hp
  apply zk8
  simp only [zf8]
  rw [if_pos (by simp; omega), if_neg (by omega), if_pos (by simp; omega), Int.toNat_natCast, zi6, znm (by omega), w64 (x := k + 1) (by omega) (by omega)]
  simp only [Option.bind_some]
  rw [zjf, if_pos (by simp; omega), zi6]
  simp only [Option.bind_some]
  rw [zfC x.2.1 (k + 1) (by omega) (by omega)]
  simp only [Option.bind_some]
  rw [zjf, if_pos (by simp; omega), zi6]
  simp only [Option.bind_some]
  rw [zfC x.2.2.1 (k + 1 + x.2.1.length) (by omega) (by omega)]
  simp only [Option.bind_some]
  rw [zjf]
  have := ih (P ++ [(((Int.tmod k 3) == 0), mkS (k + 1) x.2.1.length, mkS (k + 1 + x.2.1.length) x.2.2.1.length, ())]) (k + 1 + x.2.1.length + x.2.2.1.length) (by omega) (by omega) (by simp; omega)
  rw [List.append_assoc, List.length_append] at this
  simp only [List.cons_append, List.nil_append, List.length_cons, List.length_nil, Nat.zero_add] at this
  rw [this]
  simp only [mkL, totL, List.append_assoc, List.cons_append, List.nil_append]
  rw [show k + 1 + (x.2.1.length : Int) + (x.2.2.1.length : Int) + (totL R : Int) = k + ((1 + x.2.1.length + x.2.2.1.length + totL R : Nat) : Int) by omega]
theorem zpI (a : List TLit) (k : Int) (h0 : 0 ≤ k) (hk : k + totL a ≤ 9000000000000000000) (hl : a.length ≤ 9000000000000000000) : zeX M a k = some ((k + totL a, ()), (mkL k a, ())) := by
 apply zs8
 have := ztH a [] k h0 hk (by simp; omega)
 simp only [List.nil_append, List.length_nil] at this
 rw [show ((0 : Nat) : Int) = 0 from rfl] at this
 simp only [zkr, this, Option.bind_some, Sum.elim_inl]
end Go.Proofs.YtkgpnekonnopgaaGreatMs.Ev
namespace Go.Proofs.YtkgpnekonnopgaaGreatMs.Ev
open Go
set_option autoImplicit false
set_option linter.unusedVariables false
set_option linter.unusedSimpArgs false
theorem ztE : ∀ (n : Nat) (P : List Int) (k : Int), 0 ≤ k → k + n ≤ 9000000000000000000 → P.length + n ≤ 9000000000000000000 → zez M (P ++ mkS k n) k P.length = some (.inl (k + n, ())) := by
 intro n
 induction n with
 | zero =>
  intro P k _ _ _
  apply zla
  simp [zgf, mkS]
 | succ n ih =>
  intro P k h0 hk hp
  rw [show mkS k (n + 1) = k :: mkS (k + 1) n from rfl]
  apply zla
  simp only [zgf]
  rw [if_pos (by simp [zxF]; omega), zvL, w64 (x := k + 1) (by omega) (by omega), znm (by omega)]
  simp only [Option.bind_some]
  rw [if_neg (by simp)]
  have := ih (P ++ [k]) (k + 1) (by omega) (by omega) (by simp; omega)
  rw [List.append_assoc, List.length_append] at this
  simp only [List.cons_append, List.nil_append, List.length_cons, List.length_nil, Nat.zero_add] at this
  rw [this, show k + 1 + (n : Int) = k + ((n + 1 : Nat) : Int) by omega]
theorem znh (k : Int) (n : Nat) (h0 : 0 ≤ k) (hk : k + n ≤ 9000000000000000000) : zdy M (mkS k n) k = some ((k + n, ()), ()) := by
 apply ztg
 have := ztE n [] k h0 hk (by simp; omega)
 simp only [List.nil_append, List.length_nil] at this
 rw [show ((0 : Nat) : Int) = 0 from rfl] at this
 simp only [zkJ, this, Option.bind_some, Sum.elim_inl]
end Go.Proofs.YtkgpnekonnopgaaGreatMs.Ev
namespace Go.Proofs.YtkgpnekonnopgaaGreatMs.Ev
open Go
set_option autoImplicit false
set_option linter.unusedVariables false
set_option linter.unusedSimpArgs false
theorem ztq : ∀ (R P : List TLit) (k : Int), 0 ≤ k → k + totL R ≤ 9000000000000000000 → P.length + R.length ≤ 9000000000000000000 → zeC M (P ++ mkL k R) k P.length = some (.inl (k + totL R, ())) := by
 intro R
 induction R with
 | nil =>
  intro P k _ _ _
  apply zlg
  simp [zf5, mkL, totL]
 | cons x R ih =>
  intro P k h0 hk hp
  simp only [List.length_cons, totL] at hk hp
  rw [show mkL k (x :: R) = (((Int.tmod k 3) == 0), mkS (k + 1) x.2.1.length, mkS (k + 1 + x.2.1.length) x.2.2.1.length, ()) :: mkL (k + 1 + x.2.1.length + x.2.2.1.length) R from rfl]
  apply zlg
  simp only [zf5]
  rw [if_pos (by simp [zxv]; omega), zvL, znm (by omega), w64 (x := k + 1) (by omega) (by omega)]
  simp only [Option.bind_some]
  rw [if_neg (by omega), if_neg (by simp), znh (k + 1) x.2.1.length (by omega) (by omega)]
  simp only [Option.bind_some]
  rw [if_neg (by simp; omega), znh (k + 1 + x.2.1.length) x.2.2.1.length (by omega) (by omega)]
  simp only [Option.bind_some]
  rw [if_neg (by simp; omega)]
  have := ih (P ++ [(((Int.tmod k 3) == 0), mkS (k + 1) x.2.1.length, mkS (k + 1 + x.2.1.length) x.2.2.1.length, ())]) (k + 1 + x.2.1.length + x.2.2.1.length) (by omega) (by omega) (by simp; omega)
  rw [List.append_assoc, List.length_append] at this
  simp only [List.cons_append, List.nil_append, List.length_cons, List.length_nil, Nat.zero_add] at this
  rw [this]
  simp only [totL]
  rw [show k + 1 + (x.2.1.length : Int) + (x.2.2.1.length : Int) + (totL R : Int) = k + ((1 + x.2.1.length + x.2.2.1.length + totL R : Nat) : Int) by omega]
theorem zxW (a : List TLit) (k : Int) (h0 : 0 ≤ k) (hk : k + totL a ≤ 9000000000000000000) (hl : a.length ≤ 9000000000000000000) : ziw M (mkL k a) k = some ((k + totL a, ()), ()) := by
 apply zsV
 have := ztq a [] k h0 hk (by simp; omega)
 simp only [List.nil_append, List.length_nil] at this
 rw [show ((0 : Nat) : Int) = 0 from rfl] at this
 simp only [zkS, this, Option.bind_some, Sum.elim_inl]
end Go.Proofs.YtkgpnekonnopgaaGreatMs.Ev
namespace Go.Proofs.YtkgpnekonnopgaaGreatMs.Ev
open Go
set_option autoImplicit false
set_option linter.unusedVariables false
set_option linter.unusedSimpArgs false
theorem ztQ (a : List TStep) (ha : a.length ≤ 1048576) (hx : ∀ x ∈ a, smP x) : ∀ k i : Nat, i + k = a.length → ∀ o : List TStep, o.length = a.length → zfk M a o i = some (.inl (o.take i ++ a.drop i, ())) := by
 intro k
 induction k with
 | zero =>
  intro i hi o ho
  obtain rfl : i = a.length := by omega
  apply zl9
  simp only [zgN, Int.lt_irrefl, decide_false, Bool.false_eq_true, if_false, List.drop_length, List.append_nil]
  rw [← ho, List.take_length]
 | succ k ih =>
  intro i hi o ho
  apply zl9
  have h1 : i < a.length := by omega
  have h2 : i < o.length := by omega
  simp only [zgN]
  rw [if_pos (by simpa using h1), zd h1, zb (by omega)]
  simp only [Option.bind_some, zj7, zAr a[i] (hx _ (List.getElem_mem h1))]
  rw [if_pos (by omega)]
  simp only [Option.bind_some, Int.toNat_natCast, List.getElem?_eq_getElem h2]
  rw [ih (i + 1) (by omega) _ (by simpa using ho)]
  rw [List.take_set, List.take_succ_eq_append_getElem h2, List.set_append_right _ _ (by simp; omega), List.drop_eq_getElem_cons h1]
  simp [Nat.min_eq_left (Nat.le_of_lt h2)]
theorem zzj (a : List TStep) (ha : a.length ≤ 1048576) (hx : ∀ x ∈ a, smP x) : zd2 M a = some ((a, ()), ()) := by
 apply zup
 simp only [zlO]
 rw [if_pos (by refine ⟨by omega, by omega, trivial⟩)]
 have := ztQ a ha hx a.length 0 (by omega) (List.replicate a.length (0, [], [], [], ())) (by simp)
 simp only [Int.toNat_natCast]
 rw [show ((0 : Nat) : Int) = 0 from rfl] at this
 rw [this]
 simp
theorem zuz (a : List TStep) (ha : a.length ≤ 1048576) (hx : ∀ x ∈ a, smP x) : ∀ k i : Nat, i + k = a.length → ze8 M a a i = some (.inl ()) := by
 intro k
 induction k with
 | zero =>
  intro i hi
  obtain rfl : i = a.length := by omega
  apply zl4
  simp only [zgF, Int.lt_irrefl, decide_false, Bool.false_eq_true, if_false]
 | succ k ih =>
  intro i hi
  apply zl4
  have h1 : i < a.length := by omega
  simp only [zgF]
  rw [if_pos (by simpa using h1), zd h1, zb (by omega)]
  simp only [Option.bind_some, zj7, zwA a[i] (hx _ (List.getElem_mem h1)), Bool.not_true, Bool.false_eq_true, if_false]
  exact ih (i + 1) (by omega)
theorem zyK (a : List TStep) (ha : a.length ≤ 1048576) (hx : ∀ x ∈ a, smP x) : zje M a a = some ((true, ()), ()) := by
 apply zug
 simp only [zlB, bne_self_eq_false, Bool.false_eq_true, if_false]
 have := zuz a ha hx a.length 0 (by omega)
 rw [show ((0 : Nat) : Int) = 0 from rfl] at this
 rw [this]
 rfl
theorem ztL (a : List TStep) (ha : a.length ≤ 1048576) (hx : ∀ x ∈ a, wlP x) : ∀ (k i : Nat) (n : Int), i + k = a.length → 0 ≤ n → n ≤ 1048576 → (∀ x ∈ a.take i, smP x) →
  ∃ r, zet M a n i = some r ∧ (match r with | .inl y => 0 ≤ y.1 ∧ y.1 ≤ n ∧ ∀ x ∈ a, smP x | .inr y => y.1.1 = -1) := by
 intro k
 induction k with
 | zero =>
  intro i n hi h0 hn hs
  obtain rfl : i = a.length := by omega
  refine ⟨.inl (n, ()), zil _ _ _ (by simp [zdV]), h0, Int.le_refl _, by simpa using hs⟩
 | succ k ih =>
  intro i n hi h0 hn hs
  have h1 : i < a.length := by omega
  obtain ⟨m, hm, hm1, hm2⟩ := zAu a[i] n h0 hn (hx _ (List.getElem_mem h1))
  by_cases hneg : m < 0
  ·refine ⟨.inr ((-1, ()), ()), zil _ _ _ ?_, rfl⟩
   simp only [zdV]
   rw [if_pos (by simpa using h1), zd h1]
   simp only [Option.bind_some, zj7, hm]
   rw [if_pos (by simpa using hneg)]
  ·obtain ⟨r, hr, hp⟩ := ih (i + 1) m (by omega) (by omega) (by omega) (by
    intro x hx'
    rw [List.take_succ_eq_append_getElem h1] at hx'
    rcases List.mem_append.1 hx' with h | h
    ·exact hs x h
    ·rw [List.mem_singleton.1 h]; exact hm2 (by omega))
   refine ⟨r, zil _ _ _ ?_, ?_⟩
   ·simp only [zdV]
    rw [if_pos (by simpa using h1), zd h1, zb (by omega)]
    simp only [Option.bind_some, zj7, hm]
    rw [if_neg (by simpa using hneg)]
    exact hr
   ·cases r with
    | inl y => exact ⟨hp.1, by have := hp.2.1; omega, hp.2.2⟩
    | inr y => exact hp
theorem zzi (a : List TStep) (n : Int) (hn : 0 ≤ n) (hn' : n ≤ 1048576) (ha : a.length ≤ 9223372036854775807) (hx : ∀ x ∈ a, wlP x) : ∃ r : Int, zjd M a n = some ((r, ()), ()) ∧ r ≤ n ∧ (0 ≤ r → a.length ≤ 1048576 ∧ ∀ x ∈ a, smP x) := by
 have hw : IntKind.i64.wrap (n - a.length) = n - a.length := w64 (by omega) (by omega)
 by_cases h1 : n - a.length < 0
 ·refine ⟨-1, zlL _ _ ?_, by omega, by omega⟩
  simp only [zhA, hw]
  rw [if_pos (by simpa using h1)]
 ·obtain ⟨r, hr, hp⟩ := ztL a (by omega) hx a.length 0 (n - a.length) (by omega) (by omega) (by omega) (by simp)
  rw [show ((0 : Nat) : Int) = 0 from rfl] at hr
  cases r with
  | inl y =>
   refine ⟨y.1, zlL _ _ ?_, by have := hp.2.1; omega, fun _ => ⟨by omega, hp.2.2⟩⟩
   simp only [zhA, hw]
   rw [if_neg (by simpa using h1), hr]
   rfl
  | inr y =>
   obtain ⟨⟨y, _⟩, _⟩ := y
   simp only at hp
   subst hp
   refine ⟨-1, zlL _ _ ?_, by omega, by omega⟩
   simp only [zhA, hw]
   rw [if_neg (by simpa using h1), hr]
   rfl
end Go.Proofs.YtkgpnekonnopgaaGreatMs.Ev
namespace Go.Proofs.YtkgpnekonnopgaaGreatMs.Ev
open Go
set_option autoImplicit false
set_option linter.unusedVariables false
set_option linter.unusedSimpArgs false
def totC : List (List TLit) → Nat
 | [] => 0
 | x :: r => totL x + totC r
def mkC (k : Int) : List (List TLit) → List (List TLit)
 | [] => []
 | x :: r => mkL k x :: mkC (k + totL x) r
theorem zxC : ∀ (r : List (List TLit)), (∀ c ∈ r, smC c) → totC r ≤ 2199024304128 * r.length
 | [], _ => by simp [totC]
 | x :: r, h => by
  have h1 := h x (by simp)
  have h2 := zxC r (fun y hy => h y (by simp [hy]))
  have h3 := zux x h1.2
  have h4 := h1.1
  simp only [totC, List.length_cons]
  omega
theorem zst : ∀ (R P : List (List TLit)) (k : Int), 0 ≤ k → k + totC R ≤ 9000000000000000000 → P.length + R.length ≤ 9000000000000000000 → (∀ c ∈ R, c.length ≤ 1048576) → zdS M (P ++ R) k P.length = some (.inl (P ++ mkC k R, k + totC R, ())) := by
 intro R
 induction R with
 | nil =>
  intro P k _ _ _ _
  apply zkN
  simp [zfs, mkC, totC]
 | cons x R ih =>
  intro P k h0 hk hp hx
  have hx1 := hx x (by simp)
  simp only [List.length_cons, totC] at hk hp
  apply zkN
  simp only [zfs]
  rw [if_pos (by simp; omega), if_pos (by simp; omega), Int.toNat_natCast, zi6, znm (by omega)]
  simp only [Option.bind_some]
  rw [zpI x k (by omega) (by omega) (by omega)]
  simp only [Option.bind_some]
  rw [zjf]
  have := ih (P ++ [mkL k x]) (k + totL x) (by omega) (by omega) (by simp; omega) (fun c hc => hx c (by simp [hc]))
  rw [List.append_assoc, List.length_append] at this
  simp only [List.cons_append, List.nil_append, List.length_cons, List.length_nil, Nat.zero_add] at this
  rw [this]
  simp only [mkC, totC, List.append_assoc, List.cons_append, List.nil_append]
  rw [show k + (totL x : Int) + (totC R : Int) = k + ((totL x + totC R : Nat) : Int) by omega]
theorem zwX (a : List (List TLit)) (k : Int) (h0 : 0 ≤ k) (hk : k + totC a ≤ 9000000000000000000) (hl : a.length ≤ 1048576) (hx : ∀ c ∈ a, smC c) : zhF M a k = some ((k + totC a, ()), (mkC k a, ())) := by
 apply zsd
 have := zst a [] k h0 hk (by simp; omega) (fun c hc => (hx c hc).1)
 simp only [List.nil_append, List.length_nil] at this
 rw [show ((0 : Nat) : Int) = 0 from rfl] at this
 simp only [zj6, this, Option.bind_some, Sum.elim_inl]
def totP1 (x : TStep) : Nat := x.2.1.length + x.2.2.1.length + totL x.2.2.2.1
def mkP1 (k : Int) (x : TStep) : List Int × List Int × List TLit × Unit := (mkS k x.2.1.length, mkS (k + x.2.1.length) x.2.2.1.length, mkL (k + x.2.1.length + x.2.2.1.length) x.2.2.2.1, ())
theorem zsC (x : TStep) (h : smP x) : totP1 x ≤ 2199026401280 := by
 obtain ⟨h1, h2, h3, h4⟩ := h
 have := zux _ h4
 unfold totP1
 omega
def totP : List TStep → Nat
 | [] => 0
 | x :: r => 1 + totP1 x + totP r
def mkP (k : Int) : List TStep → List TStep
 | [] => []
 | x :: r => (k, mkP1 (k + 1) x) :: mkP (k + 1 + totP1 x) r
theorem zxq : ∀ (r : List TStep), (∀ c ∈ r, smP c) → totP r ≤ 2199026401281 * r.length
 | [], _ => by simp [totP]
 | x :: r, h => by
  have h1 := zsC x (h x (by simp))
  have h2 := zxq r (fun y hy => h y (by simp [hy]))
  simp only [totP, List.length_cons]
  omega
theorem zsg : ∀ (R P : List TStep) (k : Int), 0 ≤ k → k + totP R ≤ 9000000000000000000 → P.length + R.length ≤ 9000000000000000000 → (∀ c ∈ R, smP c) → zdQ M (P ++ R) k P.length = some (.inl (P ++ mkP k R, k + totP R, ())) := by
 intro R
 induction R with
 | nil =>
  intro P k _ _ _ _
  apply zkC
  simp [zfv, mkP, totP]
 | cons x R ih =>
  intro P k h0 hk hp hx
  obtain ⟨h1, h2, h3, h4⟩ := hx x (by simp)
  have b := zsC x (hx x (by simp))
  simp only [List.length_cons, totP, totP1] at hk hp
  apply zkC
  simp only [zfv]
  rw [if_pos (by simp; omega), if_pos (by simp; omega), Int.toNat_natCast, zi6, znm (by omega), w64 (x := k + 1) (by omega) (by omega)]
  simp only [Option.bind_some]
  rw [zjf, if_pos (by simp; omega), zi6]
  simp only [Option.bind_some]
  rw [zfC x.2.1 (k + 1) (by omega) (by omega)]
  simp only [Option.bind_some]
  rw [zjf, if_pos (by simp; omega), zi6]
  simp only [Option.bind_some]
  rw [zfC x.2.2.1 (k + 1 + x.2.1.length) (by omega) (by omega)]
  simp only [Option.bind_some]
  rw [zjf, if_pos (by simp; omega), zi6]
  simp only [Option.bind_some]
  rw [zpI x.2.2.2.1 (k + 1 + x.2.1.length + x.2.2.1.length) (by omega) (by omega) (by omega)]
  simp only [Option.bind_some]
  rw [zjf]
  have := ih (P ++ [(k, mkP1 (k + 1) x)]) (k + 1 + x.2.1.length + x.2.2.1.length + totL x.2.2.2.1) (by omega) (by omega) (by simp; omega) (fun c hc => hx c (by simp [hc]))
  rw [List.append_assoc, List.length_append] at this
  simp only [List.cons_append, List.nil_append, List.length_cons, List.length_nil, Nat.zero_add, mkP1] at this
  rw [this]
  simp only [mkP, totP, mkP1, totP1, List.append_assoc, List.cons_append, List.nil_append]
  rw [show k + 1 + (x.2.1.length : Int) + (x.2.2.1.length : Int) + (totL x.2.2.2.1 : Int) = k + 1 + ((x.2.1.length + x.2.2.1.length + totL x.2.2.2.1 : Nat) : Int) by omega, show k + 1 + ((x.2.1.length + x.2.2.1.length + totL x.2.2.2.1 : Nat) : Int) + (totP R : Int) = k + ((1 + (x.2.1.length + x.2.2.1.length + totL x.2.2.2.1) + totP R : Nat) : Int) by omega]
theorem zxd (a : List TStep) (k : Int) (h0 : 0 ≤ k) (hk : k + totP a ≤ 9000000000000000000) (hl : a.length ≤ 1048576) (hx : ∀ c ∈ a, smP c) : zhR M a k = some ((k + totP a, ()), (mkP k a, ())) := by
 apply zsQ
 have := zsg a [] k h0 hk (by simp; omega) hx
 simp only [List.nil_append, List.length_nil] at this
 rw [show ((0 : Nat) : Int) = 0 from rfl] at this
 simp only [zj2, this, Option.bind_some, Sum.elim_inl]
theorem zyo (x : TStep) (k : Int) (h0 : 0 ≤ k) (hk : k + totP1 x ≤ 9000000000000000000) (h : smP x) : ziC M x k = some ((k + totP1 x, ()), ((x.1, mkP1 k x), ())) := by
 obtain ⟨h1, h2, h3, h4⟩ := h
 unfold totP1 at hk
 apply zta
 simp only [zkt]
 rw [zfC x.2.1 k (by omega) (by omega)]
 simp only [Option.bind_some]
 rw [zfC x.2.2.1 (k + x.2.1.length) (by omega) (by omega)]
 simp only [Option.bind_some]
 rw [zpI x.2.2.2.1 (k + x.2.1.length + x.2.2.1.length) (by omega) (by omega) (by omega)]
 simp only [Option.bind_some, mkP1, totP1]
 rw [show k + (x.2.1.length : Int) + (x.2.2.1.length : Int) + (totL x.2.2.2.1 : Int) = k + ((x.2.1.length + x.2.2.1.length + totL x.2.2.2.1 : Nat) : Int) by omega]
theorem zyt (x : TStep) (k : Int) (h0 : 0 ≤ k) (hk : k + totP1 x ≤ 9000000000000000000) (h : smP x) : zgC M (x.1, mkP1 k x) k = some ((k + totP1 x, ()), ()) := by
 obtain ⟨h1, h2, h3, h4⟩ := h
 unfold totP1 at hk
 apply ztc
 simp only [zkI, mkP1]
 rw [znh k x.2.1.length (by omega) (by omega)]
 simp only [Option.bind_some]
 rw [if_neg (by simp; omega), znh (k + x.2.1.length) x.2.2.1.length (by omega) (by omega)]
 simp only [Option.bind_some]
 rw [if_neg (by simp; omega), zxW x.2.2.2.1 (k + x.2.1.length + x.2.2.1.length) (by omega) (by omega) (by omega)]
 simp only [Option.bind_some]
 rw [if_neg (by simp; omega), totP1, show k + (x.2.1.length : Int) + (x.2.2.1.length : Int) + (totL x.2.2.2.1 : Int) = k + ((x.2.1.length + x.2.2.1.length + totL x.2.2.2.1 : Nat) : Int) by omega]
end Go.Proofs.YtkgpnekonnopgaaGreatMs.Ev
namespace Go.Proofs.YtkgpnekonnopgaaGreatMs.Ev
open Go
set_option autoImplicit false
set_option linter.unusedVariables false
set_option linter.unusedSimpArgs false
theorem zxt (x : List Int) (h : x.length ≤ 1048576) : zaY M x = some ((x, ()), ()) := by
 apply znA
 simp only [zi1]
 rw [if_pos (by simp; omega)]
 simp
theorem zAY (s : TSign) (inputs : List (List TLit)) (steps : List TStep) (hs : steps.length ≤ 1048576) (ps way : List Int) (hp : ps.length ≤ 1048576) (rule : Int) : ∀ (k i : Nat) (o : List (List TLit)), i + k = ps.length → o.length ≤ i → ofN steps.length (ps.drop i) = false → zd1 M inputs steps rule way s o ps ps.length i = some (.inr failC) := by
 intro k
 induction k with
 | zero =>
  intro i o hi ho hb
  obtain rfl : i = ps.length := by omega
  rw [List.drop_length] at hb
  cases hb
 | succ k ih =>
  intro i o hi ho hb
  have h : i < ps.length := by omega
  rw [List.drop_eq_getElem_cons h] at hb
  apply zjo
  simp only [zfn, za]
  rw [if_pos (by simpa using h), zd h, w64 (x := (steps.length : Int) - 1) (by omega) (by omega)]
  simp only [Option.bind_some, zc3]
  cases hc : (decide (0 ≤ ps[i]) && decide (ps[i] ≤ (steps.length : Int) - 1)) with
  | false => rfl
  | true =>
   simp only [Bool.and_eq_true, decide_eq_true_eq] at hc
   obtain ⟨n, e, hn⟩ := zra hc.1 (show ps[i] < (steps.length : Int) by omega)
   have hb' : ofN steps.length (ps.drop (i + 1)) = false := by
    simp only [ofN, List.all_cons] at hb
    rw [decide_eq_true hc.1, decide_eq_true (show ps[i] < (steps.length : Int) by omega)] at hb
    exact hb
   simp only [Bool.not_true, Bool.false_eq_true, if_false, e, zd hn, Option.bind_some]
   rw [if_pos (by simp; omega), zb (by omega)]
   exact ih (i + 1) _ (by omega) (by simp; omega) hb'
theorem zyd (s : TSign) (hs : s.1.length ≤ 1048576) (inputs : List (List TLit)) (hi : inputs.length ≤ 1048576) (hix : ∀ c ∈ inputs, smC c) (steps : List TStep) (hl : steps.length ≤ 1048576) (hx : ∀ x ∈ steps, smP x) (rule : Int) (ps way : List Int) (hp : ps.length ≤ 1048576) (hw : way.length ≤ 1048576) :
  ∃ (x : TStep) (ok : Bool), zgE M s inputs steps rule ps way = some ((x, ok, ()), ()) ∧ ziv M s inputs steps rule ps way = some ((x, ok, ()), ()) ∧ smP x ∧ (ok = true → gS s.1 = true ∧ inOK s.1 inputs = true ∧ clS s.1 steps = true ∧ clOK s.1 x.2.2.2.1 = true) := by
 have z0 : smP ((0, [], [], [], ()) : TStep) := ⟨by simp, by simp, by simp, by simp⟩
 have gI := zth s (show s.1.length ≤ 17592186044416 by omega)
 have lS := zxT s hs inputs hi hix
 cases hg : gS s.1 with
 | false =>
  rw [hg] at gI lS
  rw [Bool.false_and] at lS
  refine ⟨(0, [], [], [], ()), false, zeL _ _ _ _ _ _ ?_, zeW _ _ _ _ _ _ ?_, z0, fun h => by cases h⟩
  ·simp only [zcq, za, gI, Option.bind_some]; rfl
  ·simp only [zcr, za, lS, Option.bind_some]; rfl
 | true =>
 rw [hg] at gI lS
 rw [Bool.true_and] at lS
 have aI := zxf s hg inputs hi hix
 cases hin : inOK s.1 inputs with
 | false =>
  rw [hin] at aI lS
  refine ⟨(0, [], [], [], ()), false, zeL _ _ _ _ _ _ ?_, zeW _ _ _ _ _ _ ?_, z0, fun h => by cases h⟩
  ·simp only [zcq, za, gI, aI, Option.bind_some]; rfl
  ·simp only [zcr, za, lS, Option.bind_some]; rfl
 | true =>
 rw [hin] at aI lS
 have hic : ∀ c ∈ inputs, clOK s.1 c = true := by
  simp only [inOK, Bool.and_eq_true] at hin
  exact List.all_eq_true.1 hin.2
 have sI := zyp s hg steps hl hx
 have sS := zzf s hs hg steps hl hx
 cases hst : (decide (steps.length ≤ 200) && clS s.1 steps) with
 | false =>
  rw [hst] at sI sS
  refine ⟨(0, [], [], [], ()), false, zeL _ _ _ _ _ _ ?_, zeW _ _ _ _ _ _ ?_, z0, fun h => by cases h⟩
  ·simp only [zcq, za, gI, aI, sI, Option.bind_some]; rfl
  ·simp only [zcr, za, lS, sS, Option.bind_some]; rfl
 | true =>
 rw [hst] at sI sS
 simp only [Bool.and_eq_true] at hst
 have hsc : ∀ x ∈ steps, clOK s.1 x.2.2.2.1 = true := List.all_eq_true.1 hst.2
 have oI := zBo steps ps hp
 cases hof : ofN steps.length ps with
 | false =>
  rw [hof] at oI
  have L := zAY s inputs steps hl ps way hp rule ps.length 0 [] (by omega) (by simp) (by rw [List.drop_zero]; exact hof)
  rw [show ((0 : Nat) : Int) = 0 from rfl] at L
  have m2 : zh5 M s inputs steps rule ps way = some (failC) := by
   apply zX
   simp only [zP, za, L, Option.bind_some, Sum.elim_inr]
  have l2 : zgs M s inputs steps rule ps way = some (((0, [], [], [], ()), false, ()), ()) := by
   apply zmE
   simp only [zh9, za, m2, Option.bind_some]; rfl
  refine ⟨(0, [], [], [], ()), false, zeL _ _ _ _ _ _ ?_, zeW _ _ _ _ _ _ ?_, z0, fun h => by cases h⟩
  ·simp only [zcq, za, gI, aI, sI, oI, Option.bind_some]; rfl
  ·simp only [zcr, za, lS, sS, l2, Option.bind_some]; rfl
 | true =>
 rw [hof] at oI
 have hps : ∀ k ∈ ps, 0 ≤ k ∧ k < (steps.length : Int) := by
  intro k hk
  have := List.all_eq_true.1 hof k hk
  simp only [Bool.and_eq_true, decide_eq_true_eq] at this
  exact this
 obtain ⟨ok, C1, C2, m1, m2, m3⟩ := zBH s hg inputs hi hic steps hl hsc ps way hp hw hps rule
 cases ok with
 | false =>
  have l1 : zdo M s inputs steps rule ps way = some (((0, [], [], [], ()), false, ()), ()) := by
   apply zk5
   simp only [zfA, za, m1, Option.bind_some]; rfl
  have l2 : zgs M s inputs steps rule ps way = some (((0, [], [], [], ()), false, ()), ()) := by
   apply zmE
   simp only [zh9, za, m2, Option.bind_some]; rfl
  refine ⟨(0, [], [], [], ()), false, zeL _ _ _ _ _ _ ?_, zeW _ _ _ _ _ _ ?_, z0, fun h => by cases h⟩
  ·simp only [zcq, za, gI, aI, sI, oI, l1, Option.bind_some]; rfl
  ·simp only [zcr, za, lS, sS, l2, Option.bind_some]; rfl
 | true =>
  obtain ⟨e, hC⟩ := m3 rfl
  subst e
  obtain ⟨q1, q2⟩ := zb9.1 hC
  have qs : ∀ x ∈ C1, smL x := fun x hx => by have := zcY (q2 x hx); exact ⟨by omega, by omega⟩
  have l1 : zdo M s inputs steps rule ps way = some (((rule, ps, way, C1, ()), true, ()), ()) := by
   apply zk5
   simp only [zfA, za, m1, Option.bind_some]
   rw [if_neg (by simp), if_pos (by omega), if_pos (by omega)]
  have l2 : zgs M s inputs steps rule ps way = some (((rule, ps, way, C1, ()), true, ()), ()) := by
   apply zmE
   simp only [zh9, za, m2, zxt ps hp, zxt way hw, Option.bind_some]; rfl
  refine ⟨(rule, ps, way, C1, ()), true, zeL _ _ _ _ _ _ ?_, zeW _ _ _ _ _ _ ?_, ⟨hp, hw, by show C1.length ≤ 1048576; omega, qs⟩, fun _ => ⟨rfl, rfl, hst.2, hC⟩⟩
  ·simp only [zcq, za, gI, aI, sI, oI, l1, Option.bind_some]; rfl
  ·simp only [zcr, za, lS, sS, l2, Option.bind_some]; rfl
theorem zrF (s : TSign) (inputs : List (List TLit)) (steps : List TStep) (rule : Int) (ps way : List Int) (hs : s.1.length ≤ 9223372036854775807) (hi : inputs.length ≤ 9223372036854775807) (hix : ∀ c ∈ inputs, wlC c) (hl : steps.length ≤ 9223372036854775807) (hx : ∀ x ∈ steps, wlP x) : zed M s inputs steps rule ps way = some ((true, ()), ()) := by
 apply zoh
 by_cases hp : (ps.length : Int) > 1048576
 ·simp only [zaB]
  rw [if_pos (by simpa using hp)]
 by_cases hw : (way.length : Int) > 1048576
 ·simp only [zaB]
  rw [if_neg (by simpa using hp), if_pos (by simpa using hw)]
 obtain ⟨r1, e1, g1, k1⟩ := zzL s 1048576 (by omega) (by omega) hs
 by_cases h1 : r1 < 0
 ·simp only [zaB, zb5, e1, Option.bind_some]
  rw [if_neg (by simpa using hp), if_neg (by simpa using hw), if_pos (by simpa using h1)]
 ·obtain ⟨r2, e2, g2, k2⟩ := zy6 inputs r1 (by omega) g1 hi hix
  by_cases h2 : r2 < 0
  ·simp only [zaB, zb5, e1, e2, Option.bind_some]
   rw [if_neg (by simpa using hp), if_neg (by simpa using hw), if_neg (by simpa using h1), if_pos (by simpa using h2)]
  ·obtain ⟨r3, e3, g3, k3⟩ := zzi steps r2 (by omega) (by omega) hl hx
   by_cases h3 : r3 < 0
   ·simp only [zaB, zb5, e1, e2, e3, Option.bind_some]
    rw [if_neg (by simpa using hp), if_neg (by simpa using hw), if_neg (by simpa using h1), if_neg (by simpa using h2), if_pos (by simpa using h3)]
   ·have hs' := k1 (by omega)
    obtain ⟨hi', hix'⟩ := k2 (by omega)
    obtain ⟨hl', hx'⟩ := k3 (by omega)
    have hp' : ps.length ≤ 1048576 := by omega
    have hw' : way.length ≤ 1048576 := by omega
    obtain ⟨x, ok, a1, a2, hz, _⟩ := zyd s hs' inputs hi' hix' steps hl' hx' rule ps way hp' hw'
    have b1 := zxC inputs hix'
    have b2 := zxq steps hx'
    have b3 := zsC x hz
    have m1 := zxR s 1 (by omega) (by omega)
    have m2 := zwX inputs (1 + s.1.length) (by omega) (by omega) hi' hix'
    have m3 := zxd steps (1 + s.1.length + totC inputs) (by omega) (by omega) hl' hx'
    have m4 := zfC ps (1 + s.1.length + totC inputs + totP steps) (by omega) (by omega)
    have m5 := zfC way (1 + s.1.length + totC inputs + totP steps + ps.length) (by omega) (by omega)
    have m6 := zyo x 1 (by omega) (by omega) hz
    have m7 := zyt x 1 (by omega) (by omega) hz
    have fin : zaB M s inputs steps rule ps way = some ((true, ()), ()) := by
     simp only [zaB, zb5, e1, e2, e3, Option.bind_some, zzT s (show s.1.length ≤ 17592186044416 by omega), zyA inputs hi' hix', zzj steps hl' hx', zj1 ps (show ps.length ≤ 17592186044416 by omega), zj1 way (show way.length ≤ 17592186044416 by omega), a1, a2, zj7, zwA x hz, zAm s (show s.1.length ≤ 17592186044416 by omega), zyb inputs hi' hix', zyK steps hl' hx', zj9 ps (show ps.length ≤ 17592186044416 by omega), zj9 way (show way.length ≤ 17592186044416 by omega), m1, m2, m3, m4, m5, m6, m7, mkP1]
     rw [if_neg (by simpa using hp), if_neg (by simpa using hw), if_neg (by simpa using h1), if_neg (by simpa using h2), if_neg (by simpa using h3)]
     simp
     have m7' := m7
     unfold mkP1 at m7'
     simp only [m7', Option.bind_some]
     simp
     rw [if_neg (by omega), if_neg (by omega), if_neg (by omega)]
    exact fin
end Go.Proofs.YtkgpnekonnopgaaGreatMs.Ev
