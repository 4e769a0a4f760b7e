/- Texts laid together: RFa, RFd, XAkz, XAk, RFh, XAlz, XAl; no condition but those that each theorem names. -/
import Derived.Test.YtkgpnekonnopgaaGreatCsWAd
import Derived.Test.YtkgpnekonnopgaaGreatCsXAe
namespace Go.Proofs.YtkgpnekonnopgaaGreatCs.Ev
open Go
set_option autoImplicit false
set_option linter.unusedVariables false
set_option linter.unusedSimpArgs false
def inC (a : List Int) (o : List (List TLit)) : Bool := decide (o.length ≤ 12) && o.all (clOK a)
def smC (c : List TLit) : Prop := c.length ≤ 1048576 ∧ ∀ x ∈ c, smL x
theorem zzC (s : TSign) (hg : gS s.1 = true) (c : List TLit) (hc : c.length ≤ 1048576) : zch M c s = some ((!clOK s.1 c, ()), ()) := by
 apply zi1
 simp only [zdI, za, zsr s hg c hc, Option.bind_some]
theorem zuD (s : TSign) (hg : gS s.1 = true) (o : List (List TLit)) (ho : o.length ≤ 1048576) (hx : ∀ c ∈ o, smC c) : ∀ k i : Nat, i + k = o.length → ∃ r, zi M o (s, ()) o.length i = some r ∧ (match r with | .inl _ => (o.drop i).all (clOK s.1) = true | .inr r => 0 ≤ r.1.1 ∧ (o.drop i).all (clOK s.1) = false) := by
 intro k
 induction k with
 | zero =>
  intro i hi
  obtain rfl : i = o.length := by omega
  refine ⟨.inl (), zh _ _ _ _ (by simp [ze]), by simp⟩
 | succ k ih =>
  intro i hi
  have h1 : i < o.length := by omega
  have hc : o[i].length ≤ 1048576 := by exact (hx _ (List.getElem_mem h1)).1
  obtain ⟨r, hr, hm⟩ := ih (i + 1) (by omega)
  rw [List.drop_eq_getElem_cons h1, List.all_cons]
  by_cases hp : clOK s.1 o[i] = true
  ·refine ⟨r, zh _ _ _ _ ?_, by rw [hp, Bool.true_and]; exact hm⟩
   simp only [ze]
   rw [if_pos (by simpa using h1), zd h1, zb (by omega)]
   simp only [Option.bind_some, zzC s hg _ hc, hp, Bool.not_true, Bool.false_eq_true, if_false]
   exact hr
  ·rw [Bool.not_eq_true] at hp
   refine ⟨.inr (((i : Int), ()), ()), zh _ _ _ _ ?_, Int.natCast_nonneg i, by rw [hp, Bool.false_and]⟩
   simp only [ze]
   rw [if_pos (by simpa using h1), zd h1]
   simp only [Option.bind_some, zzC s hg _ hc, hp, Bool.not_false, if_true]
theorem zu8 (s : TSign) (hg : gS s.1 = true) (o : List (List TLit)) (ho : o.length ≤ 1048576) (hx : ∀ c ∈ o, smC c) : zm M o (s, ()) = some ((!(o.all (clOK s.1)), ()), ()) := by
 apply za2
 simp only [zA]
 obtain ⟨r, hr, hm⟩ := zuD s hg o ho hx o.length 0 (by omega)
 rw [show ((0 : Nat) : Int) = 0 from rfl] at hr
 rw [List.drop_zero] at hm
 cases r with
 | inl r =>
  rw [zJ o (s, ()) (r := ((-1, ()), ())) (by simp only [zj, hr, Option.bind_some, Sum.elim_inl])]
  simp only at hm
  simp [hm]
 | inr r =>
  rw [zJ o (s, ()) (r := r) (by simp only [zj, hr, Option.bind_some, Sum.elim_inr])]
  simp only at hm
  simp [hm]
theorem zAw (s : TSign) (hg : gS s.1 = true) (o : List (List TLit)) (ho : o.length ≤ 1048576) (hx : ∀ c ∈ o, smC c) : zc6 M s o = some ((inC s.1 o, ()), ()) := by
 apply zjX
 simp only [zeC, za, zu8 s hg o ho hx, Option.bind_some, inC]
 by_cases h : o.length ≤ 12
 ·rw [if_pos (by simp; omega)]; simp [h]
 ·rw [if_neg (by simp; omega)]; simp [h]
theorem zsj (s : TSign) (hg : gS s.1 = true) (o : List (List TLit)) (ho : o.length ≤ 1048576) (hx : ∀ c ∈ o, smC c) : ∀ k i : Nat, i + k = o.length → zaA M o s o o.length i = some (if (o.drop i).all (clOK s.1) = true then .inl (o, s, ()) else .inr ((false, ()), ())) := by
 intro k
 induction k with
 | zero =>
  intro i hi
  obtain rfl : i = o.length := by omega
  apply zag
  simp [zah]
 | succ k ih =>
  intro i hi
  apply zag
  have h1 : i < o.length := by omega
  have hk := hx _ (List.getElem_mem h1)
  simp only [zah]
  rw [if_pos (by simpa using h1), zd h1, zb (by omega)]
  simp only [Option.bind_some, za, zgy s hg o[i] hk.1 hk.2, ih (i + 1) (by omega)]
  rw [List.drop_eq_getElem_cons h1, List.all_cons]
  generalize clOK s.1 o[i] = b
  cases b <;> rfl
theorem zAK (s : TSign) (hs : s.1.length ≤ 17592186044416) (hg : gS s.1 = true) (o : List (List TLit)) (ho : o.length ≤ 1048576) (hx : ∀ c ∈ o, smC c) : zeB M s o = some ((inC s.1 o, ()), ()) := by
 apply zig
 have := zsj s hg o ho hx o.length 0 (by omega)
 rw [show ((0 : Nat) : Int) = 0 from rfl, List.drop_zero] at this
 simp only [zcl, za, this, Option.bind_some, inC]
 cases o.all (clOK s.1) with
 | false => simp
 | true =>
  rw [if_pos rfl]
  simp only [Sum.elim_inl, za, zin s hs, hg, Option.bind_some, if_true]
  simp
  omega
theorem zwd (s : TSign) (hs : s.1.length ≤ 1048576) (t : List Int) (ht : t.length ≤ 40) : ∀ (k i : Nat) (n : Int), i + k = t.length → ∃ r, zdi M t i s n = some r ∧ (match r with | .inl y => y.2 = () | .inr _ => True) := by
 intro k
 induction k with
 | zero =>
  intro i n hi
  by_cases hn : n > 0
  ·refine ⟨.inr ((-1, ()), ()), zal _ _ _ _ ?_, trivial⟩
   simp only [zX]
   rw [if_pos (by simpa using hn), if_pos (by simp; omega)]
  ·refine ⟨.inl (i, ()), zal _ _ _ _ ?_, rfl⟩
   simp only [zX]
   rw [if_neg (by simpa using hn)]
 | succ k ih =>
  intro i n hi
  have h1 : i < t.length := by omega
  by_cases hn : n > 0
  ·have hw : IntKind.i64.wrap ((s.1.length : Int) - 1) = (s.1.length : Int) - 1 := w64 (by omega) (by omega)
   by_cases hin : -12 ≤ t[i] ∧ t[i] ≤ (s.1.length : Int) - 1
   ·by_cases hx : t[i] ≥ 0
    ·have h2 : t[i].toNat < s.1.length := by omega
     have e2 : idx s.1 t[i] = some s.1[t[i].toNat] := by
      have := zd (xs := s.1) h2
      rwa [show ((t[i].toNat : Nat) : Int) = t[i] by omega] at this
     obtain ⟨r, hr, hm⟩ := ih (i + 1) (IntKind.i64.wrap (IntKind.i64.wrap (n - 1) + s.1[t[i].toNat])) (by omega)
     refine ⟨r, zal _ _ _ _ ?_, hm⟩
     simp only [zX]
     rw [if_pos (by simpa using hn), if_neg (by simp; omega), zd h1]
     simp only [Option.bind_some, zdp, hw]
     rw [if_neg (by simp; omega), if_pos (by simpa using hx), e2]
     simp only [Option.bind_some, Sum.elim_inl, za, zb (show i < 4611686018427387904 by omega)]
     exact hr
    ·obtain ⟨r, hr, hm⟩ := ih (i + 1) (IntKind.i64.wrap (n - 1)) (by omega)
     refine ⟨r, zal _ _ _ _ ?_, hm⟩
     simp only [zX]
     rw [if_pos (by simpa using hn), if_neg (by simp; omega), zd h1]
     simp only [Option.bind_some, zdp, hw]
     rw [if_neg (by simp; omega), if_neg (by simpa using hx)]
     simp only [Option.bind_some, Sum.elim_inl, za, zb (show i < 4611686018427387904 by omega)]
     exact hr
   ·refine ⟨.inr ((-1, ()), ()), zal _ _ _ _ ?_, trivial⟩
    simp only [zX]
    rw [if_pos (by simpa using hn), if_neg (by simp; omega), zd h1]
    simp only [Option.bind_some, zdp, hw]
    rw [if_pos (by simp; omega)]
  ·refine ⟨.inl (i, ()), zal _ _ _ _ ?_, rfl⟩
   simp only [zX]
   rw [if_neg (by simpa using hn)]
theorem zp6 (s : TSign) (hs : s.1.length ≤ 1048576) (t : List Int) : ∃ b : Bool, zcc M s t = some ((b, ()), ()) := by
 by_cases h : 1 ≤ t.length ∧ t.length ≤ 40
 ·obtain ⟨r, hr, _⟩ := zwd s hs t h.2 t.length 0 1 (by omega)
  rw [show ((0 : Nat) : Int) = 0 from rfl] at hr
  have : ∃ n : Int, zeu M s t 0 = some ((n, ()), ()) := by
   cases r with
   | inl y => exact ⟨y.1, ziB _ _ _ (by simp only [zfz, za, hr, Option.bind_some, Sum.elim_inl])⟩
   | inr y => exact ⟨y.1.1, ziB _ _ _ (by simp only [zfz, za, hr, Option.bind_some, Sum.elim_inr])⟩
  obtain ⟨n, hn⟩ := this
  refine ⟨n == (t.length : Int), zhV _ _ ?_⟩
  simp only [zeX, zdp, Option.bind_some, za, hn]
  rw [if_pos (by simp; omega)]
 ·refine ⟨false, zhV _ _ ?_⟩
  simp only [zeX, zdp, Option.bind_some]
  rw [if_neg (by simp; omega)]
theorem zwj (s : TSign) (hs : s.1.length ≤ 1048576) (x : TLit) : ∃ b : Bool, zho M s x = some ((b, ()), ()) := by
 obtain ⟨b1, e1⟩ := zp6 s hs x.2.1
 obtain ⟨b2, e2⟩ := zp6 s hs x.2.2.1
 cases b1 with
 | false => exact ⟨false, zkq _ _ (by simp only [zg9, za, e1, Option.bind_some]; rfl)⟩
 | true => exact ⟨b2, zkq _ _ (by simp only [zg9, za, e1, e2, Option.bind_some]; rfl)⟩
theorem zsP (s : TSign) (hs : s.1.length ≤ 1048576) (c : List TLit) (hc : c.length ≤ 1048576) : ∃ b : Bool, za3 M s c = some ((b, ()), ()) := by
 have key : ∀ k i : Nat, i + k = c.length → zaY M c s c c.length i = some (.inl (c, ())) ∨ zaY M c s c c.length i = some (.inr ((false, ()), ())) := by
  intro k
  induction k with
  | zero =>
   intro i hi
   refine .inl (zaL _ _ _ _ _ ?_)
   simp only [zaM]
   rw [if_neg (by simp; omega)]
  | succ k ih =>
   intro i hi
   have h1 : i < c.length := by omega
   obtain ⟨b, e⟩ := zwj s hs c[i]
   cases b with
   | false =>
    refine .inr (zaL _ _ _ _ _ ?_)
    simp only [zaM]
    rw [if_pos (by simpa using h1), zd h1]
    simp only [Option.bind_some, za, zk, e, Bool.not_false, if_true]
   | true =>
    refine (ih (i + 1) (by omega)).imp (fun h => zaL _ _ _ _ _ ?_) (fun h => zaL _ _ _ _ _ ?_)
    all_goals
     simp only [zaM]
     rw [if_pos (by simpa using h1), zd h1, zb (by omega)]
     simp only [Option.bind_some, za, zk, e, Bool.not_true, Bool.false_eq_true, if_false]
     exact h
 rcases key c.length 0 (by omega) with h | h
 ·rw [show ((0 : Nat) : Int) = 0 from rfl] at h
  exact ⟨decide ((c.length : Int) ≤ 8), zgw _ _ (by simp only [zdk, za, h, Option.bind_some, Sum.elim_inl])⟩
 ·rw [show ((0 : Nat) : Int) = 0 from rfl] at h
  exact ⟨false, zgw _ _ (by simp only [zdk, za, h, Option.bind_some, Sum.elim_inr])⟩
theorem zz9 (s : TSign) (hs : s.1.length ≤ 1048576) (hg : gS s.1 = false) (o : List (List TLit)) (ho : o.length ≤ 1048576) (hx : ∀ c ∈ o, smC c) : zeB M s o = some ((false, ()), ()) := by
 have key : ∀ k i : Nat, i + k = o.length → zaA M o s o o.length i = some (.inl (o, s, ())) ∨ zaA M o s o o.length i = some (.inr ((false, ()), ())) := by
  intro k
  induction k with
  | zero =>
   intro i hi
   refine .inl (zag _ _ _ _ _ ?_)
   simp only [zah, za]
   rw [if_neg (by simp; omega)]
  | succ k ih =>
   intro i hi
   have h1 : i < o.length := by omega
   obtain ⟨b, e⟩ := zsP s hs o[i] (hx _ (List.getElem_mem h1)).1
   cases b with
   | false =>
    refine .inr (zag _ _ _ _ _ ?_)
    simp only [zah]
    rw [if_pos (by simpa using h1), zd h1]
    simp only [Option.bind_some, za, e, Bool.not_false, if_true]
   | true =>
    refine (ih (i + 1) (by omega)).imp (fun h => zag _ _ _ _ _ ?_) (fun h => zag _ _ _ _ _ ?_)
    all_goals
     simp only [zah]
     rw [if_pos (by simpa using h1), zd h1, zb (by omega)]
     simp only [Option.bind_some, za, e, Bool.not_true, Bool.false_eq_true, if_false]
     exact h
 apply zig
 rcases key o.length 0 (by omega) with h | h
 ·rw [show ((0 : Nat) : Int) = 0 from rfl] at h
  simp only [zcl, za, h, Option.bind_some, Sum.elim_inl, zin s (by omega), hg, Bool.false_eq_true, if_false]
 ·rw [show ((0 : Nat) : Int) = 0 from rfl] at h
  simp only [zcl, za, h, Option.bind_some, Sum.elim_inr]
end Go.Proofs.YtkgpnekonnopgaaGreatCs.Ev
namespace Go.Proofs.YtkgpnekonnopgaaGreatCs.Ev
open Go
set_option autoImplicit false
set_option linter.unusedVariables false
set_option linter.unusedSimpArgs false
def wlC (c : List TLit) : Prop := c.length ≤ 9223372036854775807 ∧ ∀ x ∈ c, wlL x
theorem zs3 (a : List (List TLit)) (ha : a.length ≤ 1048576) (hx : ∀ x ∈ a, smC x) : ∀ k i : Nat, i + k = a.length → ∀ o : List (List TLit), o.length = a.length → ze5 M a o i = some (.inl (o.take i ++ a.drop i, ())) := by
 intro k
 induction k with
 | zero =>
  intro i hi o ho
  obtain rfl : i = a.length := by omega
  apply zls
  simp only [zgu, Int.lt_irrefl, decide_false, Bool.false_eq_true, if_false, List.drop_length, List.append_nil]
  rw [← ho, List.take_length]
 | succ k ih =>
  intro i hi o ho
  apply zls
  have h1 : i < a.length := by omega
  have h2 : i < o.length := by omega
  simp only [zgu]
  rw [if_pos (by simpa using h1), zd h1, zb (by omega)]
  simp only [Option.bind_some, zuM a[i] (hx _ (List.getElem_mem h1)).1 (hx _ (List.getElem_mem h1)).2]
  rw [if_pos (by omega)]
  simp only [Option.bind_some, Int.toNat_natCast, List.getElem?_eq_getElem h2]
  rw [ih (i + 1) (by omega) _ (by simpa using ho)]
  rw [List.take_set, List.take_succ_eq_append_getElem h2, List.set_append_right _ _ (by simp; omega), List.drop_eq_getElem_cons h1]
  simp [Nat.min_eq_left (Nat.le_of_lt h2)]
theorem zyj (a : List (List TLit)) (ha : a.length ≤ 1048576) (hx : ∀ x ∈ a, smC x) : zfv M a = some ((a, ()), ()) := by
 apply zsW
 simp only [zkJ]
 rw [if_pos (by refine ⟨by omega, by omega, trivial⟩)]
 have := zs3 a ha hx a.length 0 (by omega) (List.replicate a.length []) (by simp)
 simp only [Int.toNat_natCast]
 rw [show ((0 : Nat) : Int) = 0 from rfl] at this
 rw [this]
 simp
theorem zsL (a : List (List TLit)) (ha : a.length ≤ 1048576) (hx : ∀ x ∈ a, smC x) : ∀ k i : Nat, i + k = a.length → ze6 M a a i = some (.inl ()) := by
 intro k
 induction k with
 | zero =>
  intro i hi
  obtain rfl : i = a.length := by omega
  apply zlp
  simp only [zgx, Int.lt_irrefl, decide_false, Bool.false_eq_true, if_false]
 | succ k ih =>
  intro i hi
  apply zlp
  have h1 : i < a.length := by omega
  simp only [zgx]
  rw [if_pos (by simpa using h1), zd h1, zb (by omega)]
  simp only [Option.bind_some, zve a[i] (hx _ (List.getElem_mem h1)).1 (hx _ (List.getElem_mem h1)).2, Bool.not_true, Bool.false_eq_true, if_false]
  exact ih (i + 1) (by omega)
theorem zwK (a : List (List TLit)) (ha : a.length ≤ 1048576) (hx : ∀ x ∈ a, smC x) : ziQ M a a = some ((true, ()), ()) := by
 apply ztq
 simp only [zkZ, bne_self_eq_false, Bool.false_eq_true, if_false]
 have := zsL a ha hx a.length 0 (by omega)
 rw [show ((0 : Nat) : Int) = 0 from rfl] at this
 rw [this]
 rfl
def wlS (x : List Int) : Prop := x.length ≤ 9223372036854775807
theorem zs1 (a : List (List TLit)) (ha : a.length ≤ 1048576) (hx : ∀ x ∈ a, wlC x) : ∀ (k i : Nat) (n : Int), i + k = a.length → 0 ≤ n → n ≤ 1048576 → (∀ x ∈ a.take i, smC x) →
  ∃ r, zev M a n i = some r ∧ (match r with | .inl y => 0 ≤ y.1 ∧ y.1 ≤ n ∧ ∀ x ∈ a, smC x | .inr y => y.1.1 = -1) := by
 intro k
 induction k with
 | zero =>
  intro i n hi h0 hn hs
  obtain rfl : i = a.length := by omega
  refine ⟨.inl (n, ()), zib _ _ _ (by simp [zdM]), h0, Int.le_refl _, by simpa using hs⟩
 | succ k ih =>
  intro i n hi h0 hn hs
  have h1 : i < a.length := by omega
  obtain ⟨m, hm, hm1, hm2⟩ := zvI a[i] n h0 hn (hx _ (List.getElem_mem h1)).1 (hx _ (List.getElem_mem h1)).2
  by_cases hneg : m < 0
  ·refine ⟨.inr ((-1, ()), ()), zib _ _ _ ?_, rfl⟩
   simp only [zdM]
   rw [if_pos (by simpa using h1), zd h1]
   simp only [Option.bind_some, hm]
   rw [if_pos (by simpa using hneg)]
  ·obtain ⟨r, hr, hp⟩ := ih (i + 1) m (by omega) (by omega) (by omega) (by
    intro x hx'
    rw [List.take_succ_eq_append_getElem h1] at hx'
    rcases List.mem_append.1 hx' with h | h
    ·exact hs x h
    ·rw [List.mem_singleton.1 h]; exact hm2 (by omega))
   refine ⟨r, zib _ _ _ ?_, ?_⟩
   ·simp only [zdM]
    rw [if_pos (by simpa using h1), zd h1, zb (by omega)]
    simp only [Option.bind_some, hm]
    rw [if_neg (by simpa using hneg)]
    exact hr
   ·cases r with
    | inl y => exact ⟨hp.1, by have := hp.2.1; omega, hp.2.2⟩
    | inr y => exact hp
theorem zyf (a : List (List TLit)) (n : Int) (hn : 0 ≤ n) (hn' : n ≤ 1048576) (ha : a.length ≤ 9223372036854775807) (hx : ∀ x ∈ a, wlC x) : ∃ r : Int, ziR M a n = some ((r, ()), ()) ∧ r ≤ n ∧ (0 ≤ r → a.length ≤ 1048576 ∧ ∀ x ∈ a, smC x) := by
 have hw : IntKind.i64.wrap (n - a.length) = n - a.length := w64 (by omega) (by omega)
 by_cases h1 : n - a.length < 0
 ·refine ⟨-1, zkM _ _ ?_, by omega, by omega⟩
  simp only [zhd, hw]
  rw [if_pos (by simpa using h1)]
 ·obtain ⟨r, hr, hp⟩ := zs1 a (by omega) hx a.length 0 (n - a.length) (by omega) (by omega) (by omega) (by simp)
  rw [show ((0 : Nat) : Int) = 0 from rfl] at hr
  cases r with
  | inl y =>
   refine ⟨y.1, zkM _ _ ?_, by have := hp.2.1; omega, fun _ => ⟨by omega, hp.2.2⟩⟩
   simp only [zhd, hw]
   rw [if_neg (by simpa using h1), hr]
   rfl
  | inr y =>
   obtain ⟨⟨y, _⟩, _⟩ := y
   simp only at hp
   subst hp
   refine ⟨-1, zkM _ _ ?_, by omega, by omega⟩
   simp only [zhd, hw]
   rw [if_neg (by simpa using h1), hr]
   rfl
end Go.Proofs.YtkgpnekonnopgaaGreatCs.Ev
namespace Go.Proofs.YtkgpnekonnopgaaGreatCs.Ev
open Go
set_option autoImplicit false
set_option linter.unusedVariables false
set_option linter.unusedSimpArgs false
def inOK (a : List Int) (l : List (List TLit)) : Bool := decide (l.length ≤ 12) && l.all (clOK a)
theorem zzB (s : TSign) (hg : gS s.1 = true) (c : List TLit) (hc : c.length ≤ 1048576) : zch M c s = some ((!clOK s.1 c, ()), ()) := by
 apply zi1
 simp only [zdI, zcX, zsr s hg c hc, Option.bind_some]
theorem zyT (s : TSign) (hg : gS s.1 = true) (a : List (List TLit)) (ha : a.length ≤ 1048576) (hx : ∀ c ∈ a, smC c) : ∀ k i : Nat, i + k = a.length → ∃ r, zi M a (s, ()) a.length i = some r ∧ (match r with | .inl _ => (a.drop i).all (clOK s.1) = true | .inr r => 0 ≤ r.1.1 ∧ (a.drop i).all (clOK s.1) = false) := by
 intro k
 induction k with
 | zero =>
  intro i hi
  obtain rfl : i = a.length := by omega
  refine ⟨.inl (), zh _ _ _ _ (by simp [ze]), by simp⟩
 | succ k ih =>
  intro i hi
  have h1 : i < a.length := by omega
  obtain ⟨r, hr, hm⟩ := ih (i + 1) (by omega)
  have hc := (hx _ (List.getElem_mem h1)).1
  rw [List.drop_eq_getElem_cons h1, List.all_cons]
  by_cases hp : clOK s.1 a[i] = true
  ·refine ⟨r, zh _ _ _ _ ?_, by rw [hp, Bool.true_and]; exact hm⟩
   simp only [ze]
   rw [if_pos (by simpa using h1), zd h1, zb (by omega)]
   simp only [Option.bind_some, zzB s hg _ hc, hp, Bool.not_true, Bool.false_eq_true, if_false]
   exact hr
  ·rw [Bool.not_eq_true] at hp
   refine ⟨.inr (((i : Int), ()), ()), zh _ _ _ _ ?_, Int.natCast_nonneg i, by rw [hp, Bool.false_and]⟩
   simp only [ze]
   rw [if_pos (by simpa using h1), zd h1]
   simp only [Option.bind_some, zzB s hg _ hc, hp, Bool.not_false, if_true]
theorem zrs (s : TSign) (hg : gS s.1 = true) (a : List (List TLit)) (ha : a.length ≤ 1048576) (hx : ∀ c ∈ a, smC c) : zc6 M s a = some ((inOK s.1 a, ()), ()) := by
 obtain ⟨r, hr, hm⟩ := zyT s hg a ha hx a.length 0 (by omega)
 rw [show ((0 : Nat) : Int) = 0 from rfl] at hr
 rw [List.drop_zero] at hm
 have key : zm M a (s, ()) = some ((!(a.all (clOK s.1)), ()), ()) := by
  apply za2
  simp only [zA]
  cases r with
  | inl r =>
   rw [zJ a (s, ()) (r := ((-1, ()), ())) (by simp only [zj, hr, Option.bind_some, Sum.elim_inl])]
   simp only at hm
   simp [hm]
  | inr r =>
   rw [zJ a (s, ()) (r := r) (by simp only [zj, hr, Option.bind_some, Sum.elim_inr])]
   simp only at hm
   simp [hm]
 apply zjX
 simp only [zeC, zcX, key, Option.bind_some, Bool.not_not, inOK]
 by_cases h : a.length ≤ 12
 ·rw [if_pos (by simp; omega), decide_eq_true h, Bool.true_and]
 ·rw [if_neg (by simp; omega), decide_eq_false h, Bool.false_and]
theorem zwR (s : TSign) (hs : s.1.length ≤ 1048576) (a : List (List TLit)) (ha : a.length ≤ 1048576) (hx : ∀ c ∈ a, smC c) : zeB M s a = some ((gS s.1 && inOK s.1 a, ()), ()) := by
 cases hg : gS s.1 with
 | false =>
  have h : ∀ k i : Nat, i + k = a.length → zaA M a s a a.length i = some (.inl (a, s, ())) ∨ zaA M a s a a.length i = some (.inr ((false, ()), ())) := by
   intro k
   induction k with
   | zero =>
    intro i hi
    obtain rfl : i = a.length := by omega
    refine .inl (zag _ _ _ _ _ ?_)
    simp only [zah, za]
    rw [if_neg (by simp)]
   | succ k ih =>
    intro i hi
    have h1 : i < a.length := by omega
    obtain ⟨c1, c2⟩ := hx _ (List.getElem_mem h1)
    obtain ⟨b, hb⟩ := zv5 s hs a[i] c1 c2
    have hq : zah M a s a a.length i = if b = true then zaA M a s a a.length ((i + 1 : Nat) : Int) else some (.inr ((false, ()), ())) := by
     simp only [zah, za]
     rw [if_pos (by simpa using h1), zd h1, zb (by omega)]
     simp only [Option.bind_some, hb]
     cases b <;> rfl
    cases b with
    | false => exact .inr (zag _ _ _ _ _ hq)
    | true =>
     rcases ih (i + 1) (by omega) with h | h
     ·exact .inl (zag _ _ _ _ _ (hq.trans h))
     ·exact .inr (zag _ _ _ _ _ (hq.trans h))
  have h0 := h a.length 0 (by omega)
  rw [show ((0 : Nat) : Int) = 0 from rfl] at h0
  apply zig
  rcases h0 with h0 | h0
  ·simp only [zcl, za, h0, Option.bind_some, Sum.elim_inl, zin s (by omega), hg]; rfl
  ·simp only [zcl, za, h0, Option.bind_some, Sum.elim_inr]; rfl
 | true =>
  have h : ∀ k i : Nat, i + k = a.length → zaA M a s a a.length i = some (if (a.drop i).all (clOK s.1) = true then .inl (a, s, ()) else .inr ((false, ()), ())) := by
   intro k
   induction k with
   | zero =>
    intro i hi
    obtain rfl : i = a.length := by omega
    apply zag
    simp only [zah, za]
    rw [if_neg (by simp), List.drop_length]
    rfl
   | succ k ih =>
    intro i hi
    have h1 : i < a.length := by omega
    obtain ⟨c1, c2⟩ := hx _ (List.getElem_mem h1)
    apply zag
    simp only [zah, za]
    rw [if_pos (by simpa using h1), zd h1, zb (by omega), List.drop_eq_getElem_cons h1, List.all_cons]
    simp only [Option.bind_some, zgy s hg a[i] c1 c2]
    cases clOK s.1 a[i] with
    | false => rfl
    | true => exact ih (i + 1) (by omega)
  have h0 := h a.length 0 (by omega)
  rw [show ((0 : Nat) : Int) = 0 from rfl, List.drop_zero] at h0
  apply zig
  simp only [zcl, za, h0, Option.bind_some, inOK, Bool.true_and]
  cases a.all (clOK s.1) with
  | false => simp
  | true =>
   simp only [if_true, Sum.elim_inl, zin s (show s.1.length ≤ 17592186044416 by omega), hg, Option.bind_some, Bool.and_true]
   congr 3
   rw [decide_eq_decide]; omega
def ofN (n : Nat) (l : List Int) : Bool := l.all fun k => decide (0 ≤ k) && decide (k < (n : Int))
theorem zzv (steps : List TStep) (k : Int) : ziV M k steps = some ((!(decide (0 ≤ k) && decide (k < (steps.length : Int))), ()), ()) := by
 apply ztp
 simp only [zkQ]
 by_cases h0 : 0 ≤ k
 ·rw [if_neg (by simp; omega), decide_eq_true h0, Bool.true_and]
  congr 3
  by_cases h1 : k < (steps.length : Int)
  ·rw [decide_eq_true h1, decide_eq_false (by omega)]; rfl
  ·rw [decide_eq_false h1, decide_eq_true (by omega)]; rfl
 ·rw [if_pos (by simp; omega), decide_eq_false h0]; rfl
theorem zzh (steps : List TStep) (a : List Int) (ha : a.length ≤ 1048576) : ∀ k i : Nat, i + k = a.length → ∃ r, z9 M a (steps, ()) a.length i = some r ∧ (match r with | .inl _ => ofN steps.length (a.drop i) = true | .inr r => 0 ≤ r.1.1 ∧ ofN steps.length (a.drop i) = false) := by
 intro k
 induction k with
 | zero =>
  intro i hi
  obtain rfl : i = a.length := by omega
  refine ⟨.inl (), zbj _ _ _ _ (by simp [z7]), by simp [ofN]⟩
 | succ k ih =>
  intro i hi
  have h1 : i < a.length := by omega
  obtain ⟨r, hr, hm⟩ := ih (i + 1) (by omega)
  have e : ofN steps.length (a.drop i) = ((decide (0 ≤ a[i]) && decide (a[i] < (steps.length : Int))) && ofN steps.length (a.drop (i + 1))) := by
   rw [List.drop_eq_getElem_cons h1]; rfl
  rw [e]
  cases hp : (decide (0 ≤ a[i]) && decide (a[i] < (steps.length : Int))) with
  | true =>
   refine ⟨r, zbj _ _ _ _ ?_, by rw [Bool.true_and]; exact hm⟩
   simp only [z7]
   rw [if_pos (by simpa using h1), zd h1, zb (by omega)]
   simp only [Option.bind_some, zzv, hp, Bool.not_true, Bool.false_eq_true, if_false]
   exact hr
  | false =>
   refine ⟨.inr (((i : Int), ()), ()), zbj _ _ _ _ ?_, Int.natCast_nonneg i, by rw [Bool.false_and]⟩
   simp only [z7]
   rw [if_pos (by simpa using h1), zd h1]
   simp only [Option.bind_some, zzv, hp, Bool.not_false, if_true]
theorem zz1 (steps : List TStep) (a : List Int) (ha : a.length ≤ 1048576) : zj5 M steps a = some ((ofN steps.length a, ()), ()) := by
 obtain ⟨r, hr, hm⟩ := zzh steps a ha a.length 0 (by omega)
 rw [show ((0 : Nat) : Int) = 0 from rfl] at hr
 rw [List.drop_zero] at hm
 have key : zaG M a (steps, ()) = some ((!(ofN steps.length a), ()), ()) := by
  apply zgN
  simp only [zbn]
  cases r with
  | inl r =>
   rw [zdm a (steps, ()) (r := ((-1, ()), ())) (by simp only [zaV, hr, Option.bind_some, Sum.elim_inl])]
   simp only at hm
   simp [hm]
  | inr r =>
   rw [zdm a (steps, ()) (r := r) (by simp only [zaV, hr, Option.bind_some, Sum.elim_inr])]
   simp only at hm
   simp [hm]
 apply zu3
 simp only [zmR, key, Option.bind_some, Bool.not_not]
end Go.Proofs.YtkgpnekonnopgaaGreatCs.Ev
namespace Go.Proofs.YtkgpnekonnopgaaGreatCs.Ev
open Go
set_option autoImplicit false
set_option linter.unusedVariables false
set_option linter.unusedSimpArgs false
theorem zz3 (k : Nat) (hk : k ≤ 1048576) (a : List Int) (ha : a.length ≤ 1048576) : zhi M a 0 (IntKind.i64.wrap ((k : Int) - 1)) = some ((ofN k a, ()), ()) := by
 rw [w64 (by omega) (by omega), zwF a 0 ((k : Int) - 1) (by omega)]
 congr 3
 unfold ofN
 congr 1
 funext x
 congr 1
 rw [decide_eq_decide]; omega
theorem zwr (x y : TLit) : (x = y) ↔ (x.1 = y.1 ∧ x.2.1 = y.2.1 ∧ x.2.2.1 = y.2.2.1) := by
 obtain ⟨a, b, c, ⟨⟩⟩ := x
 obtain ⟨d, e, f, ⟨⟩⟩ := y
 simp
theorem zwH {β : Type} (x y : TLit) (r t : List TLit) (a b : β) : (if x :: r = y :: t then a else b) = if x = y then (if r = t then a else b) else b := by
 by_cases h : x = y
 ·subst h
  by_cases k : r = t
  ·rw [if_pos (by rw [k]), if_pos rfl, if_pos k]
  ·rw [if_neg (fun q => k (List.cons.inj q).2), if_pos rfl, if_neg k]
 ·rw [if_neg (fun q => h (List.cons.inj q).1), if_neg h]
theorem zAT (x y : TLit) (hx : smL x) : zeN M x y = some ((decide (x = y), ()), ()) := by
 apply zol
 simp only [zhh, zhk x.2.1 y.2.1 (by have := hx.1; omega), zhk x.2.2.1 y.2.2.1 (by have := hx.2; omega), Option.bind_some]
 have e := zwr x y
 by_cases h1 : x.1 = y.1
 ·rw [if_pos (by simpa using h1)]
  by_cases h2 : x.2.1 = y.2.1
  ·rw [if_pos (by simpa using h2)]
   congr 3
   rw [decide_eq_decide, e]
   exact ⟨fun h => ⟨h1, h2, h⟩, fun h => h.2.2⟩
  ·rw [if_neg (by simpa using h2), decide_eq_false (fun h => h2 (e.1 h).2.1)]
 ·rw [if_neg (by simpa using h1), decide_eq_false (fun h => h1 (e.1 h).1)]
theorem zyV (c d : List TLit) (hl : c.length = d.length) (hc : c.length ≤ 1048576) (hx : ∀ x ∈ c, smL x) : ∀ k i : Nat, i + k = c.length → zg M d () c c.length i = some (if c.drop i = d.drop i then .inl () else .inr ((false, ()), ())) := by
 intro k
 induction k with
 | zero =>
  intro i hi
  obtain rfl : i = c.length := by omega
  apply zam
  simp only [zl]
  rw [if_neg (by simp), List.drop_length, hl, List.drop_length, if_pos rfl]
 | succ k ih =>
  intro i hi
  have h1 : i < c.length := by omega
  have h2 : i < d.length := by omega
  apply zam
  simp only [zl]
  rw [if_pos (by simpa using h1), zd h1, zd h2, zb (by omega)]
  simp only [Option.bind_some, zk, zAT c[i] d[i] (hx _ (List.getElem_mem h1))]
  rw [List.drop_eq_getElem_cons h1, List.drop_eq_getElem_cons h2, zwH]
  by_cases e : c[i] = d[i]
  ·rw [decide_eq_true e, if_pos e, ih (i + 1) (by omega), if_neg (by decide)]
  ·rw [decide_eq_false e, if_neg e, if_pos (by decide)]
theorem zzg (c d : List TLit) (hc : c.length ≤ 1048576) (hx : ∀ x ∈ c, smL x) (hd : d.length ≤ 1048576) : zfV M c d = some ((decide (c = d), ()), ()) := by
 have key : zo M c d () = some ((decide (c = d), ()), ()) := by
  apply zbR
  simp only [zO]
  by_cases hl : c.length = d.length
  ·have h := zyV c d hl hc hx c.length 0 (by omega)
   rw [show ((0 : Nat) : Int) = 0 from rfl, List.drop_zero, List.drop_zero] at h
   rw [if_neg (by simp; omega), h]
   by_cases e : c = d
   ·rw [if_pos e, decide_eq_true e]; rfl
   ·rw [if_neg e, decide_eq_false e]; rfl
  ·rw [if_pos (by simp; omega), decide_eq_false (fun e => hl (by rw [e]))]
 apply zpv
 simp only [zh5, key, Option.bind_some]
theorem zyD (c d : List TLit) (hl : c.length = d.length) (hc : c.length ≤ 1048576) (hx : ∀ x ∈ c, smL x) : ∀ k i : Nat, i + k = c.length → zdn M c d c.length i = some (if c.drop i = d.drop i then .inl () else .inr ((false, ()), ())) := by
 intro k
 induction k with
 | zero =>
  intro i hi
  obtain rfl : i = c.length := by omega
  apply zjW
  simp only [zeG]
  rw [if_neg (by simp), List.drop_length, hl, List.drop_length, if_pos rfl]
 | succ k ih =>
  intro i hi
  have h1 : i < c.length := by omega
  have h2 : i < d.length := by omega
  have hs := hx _ (List.getElem_mem h1)
  have e := zwr c[i] d[i]
  apply zjW
  simp only [zeG]
  rw [if_pos (by simpa using h1), zd h1, zd h2, zb (by omega)]
  simp only [Option.bind_some, zhL c[i].2.1 d[i].2.1 (by have := hs.1; omega), zhL c[i].2.2.1 d[i].2.2.1 (by have := hs.2; omega)]
  rw [List.drop_eq_getElem_cons h1, List.drop_eq_getElem_cons h2, zwH]
  by_cases q1 : c[i].1 = d[i].1
  ·rw [if_neg (by simpa using q1)]
   by_cases q2 : c[i].2.1 = d[i].2.1
   ·rw [if_neg (by simpa using q2)]
    by_cases q3 : c[i].2.2.1 = d[i].2.2.1
    ·rw [if_neg (by simpa using q3), ih (i + 1) (by omega), if_pos (e.2 ⟨q1, q2, q3⟩)]
    ·rw [if_pos (by simpa using q3), if_neg (fun h => q3 (e.1 h).2.2)]
   ·rw [if_pos (by simpa using q2), if_neg (fun h => q2 (e.1 h).2.1)]
  ·rw [if_pos (by simpa using q1), if_neg (fun h => q1 (e.1 h).1)]
theorem zwX (c d : List TLit) (hc : c.length ≤ 1048576) (hx : ∀ x ∈ c, smL x) (hd : d.length ≤ 1048576) : zg5 M c d = some ((decide (c = d), ()), ()) := by
 apply zqS
 simp only [zi5]
 by_cases hl : c.length = d.length
 ·have h := zyD c d hl hc hx c.length 0 (by omega)
  rw [show ((0 : Nat) : Int) = 0 from rfl, List.drop_zero, List.drop_zero] at h
  rw [if_neg (by simp; omega), h]
  by_cases e : c = d
  ·rw [if_pos e, decide_eq_true e]; rfl
  ·rw [if_neg e, decide_eq_false e]; rfl
 ·rw [if_pos (by simp; omega), decide_eq_false (fun e => hl (by rw [e]))]
end Go.Proofs.YtkgpnekonnopgaaGreatCs.Ev
namespace Go.Proofs.YtkgpnekonnopgaaGreatCs.Ev
open Go
set_option autoImplicit false
set_option linter.unusedVariables false
set_option linter.unusedSimpArgs false
theorem zti (a : List TStep) (ha : a.length ≤ 1048576) (hx : ∀ x ∈ a, smP x) : ∀ k i : Nat, i + k = a.length → ∀ o : List TStep, o.length = a.length → ze7 M a o i = some (.inl (o.take i ++ a.drop i, ())) := by
 intro k
 induction k with
 | zero =>
  intro i hi o ho
  obtain rfl : i = a.length := by omega
  apply zlH
  simp only [zgf, Int.lt_irrefl, decide_false, Bool.false_eq_true, if_false, List.drop_length, List.append_nil]
  rw [← ho, List.take_length]
 | succ k ih =>
  intro i hi o ho
  apply zlH
  have h1 : i < a.length := by omega
  have h2 : i < o.length := by omega
  simp only [zgf]
  rw [if_pos (by simpa using h1), zd h1, zb (by omega)]
  simp only [Option.bind_some, zkK, zzo a[i] (hx _ (List.getElem_mem h1))]
  rw [if_pos (by omega)]
  simp only [Option.bind_some, Int.toNat_natCast, List.getElem?_eq_getElem h2]
  rw [ih (i + 1) (by omega) _ (by simpa using ho)]
  rw [List.take_set, List.take_succ_eq_append_getElem h2, List.set_append_right _ _ (by simp; omega), List.drop_eq_getElem_cons h1]
  simp [Nat.min_eq_left (Nat.le_of_lt h2)]
theorem zxD (a : List TStep) (ha : a.length ≤ 1048576) (hx : ∀ x ∈ a, smP x) : zft M a = some ((a, ()), ()) := by
 apply ztv
 simp only [zlc]
 rw [if_pos (by refine ⟨by omega, by omega, trivial⟩)]
 have := zti a ha hx a.length 0 (by omega) (List.replicate a.length (0, [], [], [], ())) (by simp)
 simp only [Int.toNat_natCast]
 rw [show ((0 : Nat) : Int) = 0 from rfl] at this
 rw [this]
 simp
theorem zs5 (a : List TStep) (ha : a.length ≤ 1048576) (hx : ∀ x ∈ a, smP x) : ∀ k i : Nat, i + k = a.length → zfe M a a i = some (.inl ()) := by
 intro k
 induction k with
 | zero =>
  intro i hi
  obtain rfl : i = a.length := by omega
  apply zlq
  simp only [zgB, Int.lt_irrefl, decide_false, Bool.false_eq_true, if_false]
 | succ k ih =>
  intro i hi
  apply zlq
  have h1 : i < a.length := by omega
  simp only [zgB]
  rw [if_pos (by simpa using h1), zd h1, zb (by omega)]
  simp only [Option.bind_some, zkK, zzs a[i] (hx _ (List.getElem_mem h1)), Bool.not_true, Bool.false_eq_true, if_false]
  exact ih (i + 1) (by omega)
theorem zx0 (a : List TStep) (ha : a.length ≤ 1048576) (hx : ∀ x ∈ a, smP x) : ziT M a a = some ((true, ()), ()) := by
 apply zty
 simp only [zkY, bne_self_eq_false, Bool.false_eq_true, if_false]
 have := zs5 a ha hx a.length 0 (by omega)
 rw [show ((0 : Nat) : Int) = 0 from rfl] at this
 rw [this]
 rfl
theorem zs4 (a : List TStep) (ha : a.length ≤ 1048576) (hx : ∀ x ∈ a, wlP x) : ∀ (k i : Nat) (n : Int), i + k = a.length → 0 ≤ n → n ≤ 1048576 → (∀ x ∈ a.take i, smP x) →
  ∃ r, zen M a n i = some r ∧ (match r with | .inl y => 0 ≤ y.1 ∧ y.1 ≤ n ∧ ∀ x ∈ a, smP x | .inr y => y.1.1 = -1) := by
 intro k
 induction k with
 | zero =>
  intro i n hi h0 hn hs
  obtain rfl : i = a.length := by omega
  refine ⟨.inl (n, ()), zh3 _ _ _ (by simp [zdW]), h0, Int.le_refl _, by simpa using hs⟩
 | succ k ih =>
  intro i n hi h0 hn hs
  have h1 : i < a.length := by omega
  obtain ⟨m, hm, hm1, hm2⟩ := zyR a[i] n h0 hn (hx _ (List.getElem_mem h1))
  by_cases hneg : m < 0
  ·refine ⟨.inr ((-1, ()), ()), zh3 _ _ _ ?_, rfl⟩
   simp only [zdW]
   rw [if_pos (by simpa using h1), zd h1]
   simp only [Option.bind_some, zkK, hm]
   rw [if_pos (by simpa using hneg)]
  ·obtain ⟨r, hr, hp⟩ := ih (i + 1) m (by omega) (by omega) (by omega) (by
    intro x hx'
    rw [List.take_succ_eq_append_getElem h1] at hx'
    rcases List.mem_append.1 hx' with h | h
    ·exact hs x h
    ·rw [List.mem_singleton.1 h]; exact hm2 (by omega))
   refine ⟨r, zh3 _ _ _ ?_, ?_⟩
   ·simp only [zdW]
    rw [if_pos (by simpa using h1), zd h1, zb (by omega)]
    simp only [Option.bind_some, zkK, hm]
    rw [if_neg (by simpa using hneg)]
    exact hr
   ·cases r with
    | inl y => exact ⟨hp.1, by have := hp.2.1; omega, hp.2.2⟩
    | inr y => exact hp
theorem zxF (a : List TStep) (n : Int) (hn : 0 ≤ n) (hn' : n ≤ 1048576) (ha : a.length ≤ 9223372036854775807) (hx : ∀ x ∈ a, wlP x) : ∃ r : Int, ziY M a n = some ((r, ()), ()) ∧ r ≤ n ∧ (0 ≤ r → a.length ≤ 1048576 ∧ ∀ x ∈ a, smP x) := by
 have hw : IntKind.i64.wrap (n - a.length) = n - a.length := w64 (by omega) (by omega)
 by_cases h1 : n - a.length < 0
 ·refine ⟨-1, zlb _ _ ?_, by omega, by omega⟩
  simp only [zhq, hw]
  rw [if_pos (by simpa using h1)]
 ·obtain ⟨r, hr, hp⟩ := zs4 a (by omega) hx a.length 0 (n - a.length) (by omega) (by omega) (by omega) (by simp)
  rw [show ((0 : Nat) : Int) = 0 from rfl] at hr
  cases r with
  | inl y =>
   refine ⟨y.1, zlb _ _ ?_, by have := hp.2.1; omega, fun _ => ⟨by omega, hp.2.2⟩⟩
   simp only [zhq, hw]
   rw [if_neg (by simpa using h1), hr]
   rfl
  | inr y =>
   obtain ⟨⟨y, _⟩, _⟩ := y
   simp only at hp
   subst hp
   refine ⟨-1, zlb _ _ ?_, by omega, by omega⟩
   simp only [zhq, hw]
   rw [if_neg (by simpa using h1), hr]
   rfl
end Go.Proofs.YtkgpnekonnopgaaGreatCs.Ev
namespace Go.Proofs.YtkgpnekonnopgaaGreatCs.Ev
open Go
set_option autoImplicit false
set_option linter.unusedVariables false
set_option linter.unusedSimpArgs false
section
variable (s : TSign) (hg : gS s.1 = true) (inputs : List (List TLit)) (hi : inputs.length ≤ 1048576) (hic : ∀ c ∈ inputs, clOK s.1 c = true) (steps : List TStep) (hl : steps.length ≤ 1048576) (hx : ∀ x ∈ steps, smP x)
include hg hi hic hl hx
theorem zv7 (i : Nat) (h : i < steps.length) (hb : ∀ x ∈ steps.take i, clOK s.1 x.2.2.2.1 = true) : ∃ code : Int, zeK M s inputs (steps.take i) steps[i] = some ((code, ()), ()) ∧ zjm M s inputs steps i = some ((code, ()), ()) ∧ (code = 0 → clOK s.1 steps[i].2.2.2.1 = true) := by
 obtain ⟨z1, z2, z3, z4⟩ := hx _ (List.getElem_mem h)
 have ht : (steps.take i).length = i := by simp; omega
 have aI := zz1 (steps.take i) steps[i].2.1 z1
 have aS := zz3 i (by omega) steps[i].2.1 z1
 rw [ht] at aI
 have hi2 := zd h
 have cut : (steps.take (Int.toNat (i : Int))).drop (Int.toNat (0 : Int)) = steps.take i := by rw [Int.toNat_natCast]; rfl
 have g0 : 0 ≤ (0 : Int) ∧ (0 : Int) ≤ (i : Int) ∧ (i : Int) ≤ (steps.length : Int) := by omega
 cases ha : ofN i steps[i].2.1 with
 | false =>
  rw [ha] at aI aS
  refine ⟨2, zeD _ _ _ _ ?_, zjG _ _ _ _ ?_, fun h => by cases h⟩
  ·simp only [zbW, aI, Option.bind_some]; rfl
  ·simp only [zf9, hi2, aS, Option.bind_some]; rfl
 | true =>
 rw [ha] at aI aS
 have hps : ∀ k ∈ steps[i].2.1, 0 ≤ k ∧ k < ((steps.take i).length : Int) := by
  intro k hk
  have := List.all_eq_true.1 ha k hk
  simp only [Bool.and_eq_true, decide_eq_true_eq] at this
  rw [ht]; exact this
 obtain ⟨ok, C1, C2, m1, m2, m3⟩ := zAJ s hg inputs hi hic (steps.take i) (by omega) hb steps[i].2.1 steps[i].2.2.1 z1 z2 hps steps[i].1
 cases ok with
 | false =>
  refine ⟨3, zeD _ _ _ _ ?_, zjG _ _ _ _ ?_, fun h => by cases h⟩
  ·simp only [zbW, aI, za, m1, Option.bind_some]; rfl
  ·simp only [zf9, hi2, aS, za, Option.bind_some, Bool.not_true, Bool.false_eq_true, if_false]
   rw [if_pos g0, cut, m2]
   rfl
 | true =>
 obtain ⟨e, hC⟩ := m3 rfl
 subst e
 obtain ⟨q1, q2⟩ := zb4.1 hC
 have qs : ∀ x ∈ C1, smL x := fun x hx => by have := zcR (q2 x hx); exact ⟨by omega, by omega⟩
 have eI := zzg C1 steps[i].2.2.2.1 (by omega) qs z3
 have eS := zwX C1 steps[i].2.2.2.1 (by omega) qs z3
 by_cases he : C1 = steps[i].2.2.2.1
 ·rw [decide_eq_true he] at eI eS
  refine ⟨0, zeD _ _ _ _ ?_, zjG _ _ _ _ ?_, fun _ => by rw [← he]; exact hC⟩
  ·simp only [zbW, aI, za, m1, eI, Option.bind_some]; rfl
  ·simp only [zf9, hi2, aS, za, Option.bind_some, Bool.not_true, Bool.false_eq_true, if_false]
   rw [if_pos g0, cut, m2]
   simp only [Option.bind_some, eS]
   rfl
 ·rw [decide_eq_false he] at eI eS
  refine ⟨4, zeD _ _ _ _ ?_, zjG _ _ _ _ ?_, fun h => by cases h⟩
  ·simp only [zbW, aI, za, m1, eI, Option.bind_some]; rfl
  ·simp only [zf9, hi2, aS, za, Option.bind_some, Bool.not_true, Bool.false_eq_true, if_false]
   rw [if_pos g0, cut, m2]
   simp only [Option.bind_some, eS]
   rfl
theorem zwh : ∀ (k i : Nat), i + k = steps.length → (∀ x ∈ steps.take i, clOK s.1 x.2.2.2.1 = true) →
  (zbs M inputs steps s steps steps.length i = some (.inl ()) ∧ zck M inputs steps s steps.length i = some (.inl ())) ∨
  ∃ code at' : Int, zbs M inputs steps s steps steps.length i = some (.inr ((code, at', true, ()), ())) ∧ zck M inputs steps s steps.length i = some (.inr ((code, at', ()), ())) := by
 intro k
 induction k with
 | zero =>
  intro i hik _
  obtain rfl : i = steps.length := by omega
  refine .inl ⟨zd9 _ _ _ _ _ _ ?_, zgl _ _ _ _ _ ?_⟩
  ·simp only [zbI]
   rw [if_neg (by simp)]
  ·simp only [zc0]
   rw [if_neg (by simp)]
 | succ k ih =>
  intro i hik hb
  have h : i < steps.length := by omega
  obtain ⟨code, c1, c2, c3⟩ := zv7 s hg inputs hi hic steps hl hx i h hb
  have hlt : decide ((i : Int) < (steps.length : Int)) = true := by simp; omega
  have cut : (steps.take (Int.toNat (i : Int))).drop (Int.toNat (0 : Int)) = steps.take i := by rw [Int.toNat_natCast]; rfl
  have g0 : 0 ≤ (0 : Int) ∧ (0 : Int) ≤ (i : Int) ∧ (i : Int) ≤ (steps.length : Int) := by omega
  by_cases h0 : code = 0
  ·subst h0
   have hI : ∀ X, zbs M inputs steps s steps steps.length ((i + 1 : Nat) : Int) = X → zbI M inputs steps s steps steps.length i = X := by
    intro X hX
    simp only [zbI, hlt, zd h, Option.bind_some, if_true, za, zkK]
    rw [if_pos g0, cut, c1]
    simp only [Option.bind_some]
    rw [if_neg (by decide), zb (by omega)]
    exact hX
   have hS : ∀ X, zck M inputs steps s steps.length ((i + 1 : Nat) : Int) = X → zc0 M inputs steps s steps.length i = X := by
    intro X hX
    simp only [zc0, hlt, c2, Option.bind_some, if_true, za]
    rw [if_neg (by decide), zb (by omega)]
    exact hX
   rcases ih (i + 1) (by omega) (by
    intro x hx'
    rw [List.take_succ_eq_append_getElem h] at hx'
    rcases List.mem_append.1 hx' with q | q
    ·exact hb x q
    ·rw [List.mem_singleton.1 q]; exact c3 rfl) with ⟨a1, a2⟩ | ⟨code, at', a1, a2⟩
   ·exact .inl ⟨zd9 _ _ _ _ _ _ (hI _ a1), zgl _ _ _ _ _ (hS _ a2)⟩
   ·exact .inr ⟨code, at', zd9 _ _ _ _ _ _ (hI _ a1), zgl _ _ _ _ _ (hS _ a2)⟩
  ·have hne : (code != 0) = true := by simpa using h0
   refine .inr ⟨code, i, zd9 _ _ _ _ _ _ ?_, zgl _ _ _ _ _ ?_⟩
   ·simp only [zbI, hlt, zd h, Option.bind_some, if_true, za, zkK]
    rw [if_pos g0, cut, c1]
    simp only [Option.bind_some, hne, if_true]
   ·simp only [zc0, hlt, c2, Option.bind_some, if_true, za, hne]
end
theorem zvA (s : TSign) (hs : s.1.length ≤ 1048576) (inputs : List (List TLit)) (hi : inputs.length ≤ 1048576) (hix : ∀ c ∈ inputs, smC c) (steps : List TStep) (hl : steps.length ≤ 1048576) (hx : ∀ x ∈ steps, smP x) :
  ((gS s.1 && inOK s.1 inputs) = false ∧ zdw M s inputs steps = some ((0, 0, false, ()), ()) ∧ zdC M s inputs steps = some ((0, 0, false, ()), ())) ∨
  ((gS s.1 && inOK s.1 inputs) = true ∧ ∃ code at' : Int, zdw M s inputs steps = some ((code, at', true, ()), ()) ∧ zdY M s inputs steps = some ((code, at', ()), ()) ∧ zdC M s inputs steps = some ((code, at', true, ()), ())) := by
 have lS := zwR s hs inputs hi hix
 have gI := zsD s (show s.1.length ≤ 17592186044416 by omega)
 cases hgi : (gS s.1 && inOK s.1 inputs) with
 | false =>
  rw [hgi] at lS
  refine .inl ⟨rfl, zgV _ _ _ ?_, zg8 _ _ _ ?_⟩
  ·simp only [zdA, za, gI, Option.bind_some]
   cases hg : gS s.1 with
   | false => rfl
   | true =>
    rw [hg, Bool.true_and] at hgi
    simp only [Bool.not_true, Bool.false_eq_true, if_false, zrs s hg inputs hi hix, hgi, Option.bind_some]
    rfl
  ·simp only [zdv, za, lS, Option.bind_some]; rfl
 | true =>
  rw [hgi] at lS
  simp only [Bool.and_eq_true] at hgi
  obtain ⟨hg, hin⟩ := hgi
  have aI := zrs s hg inputs hi hix
  rw [hin] at aI
  rw [hg] at gI
  have hic : ∀ c ∈ inputs, clOK s.1 c = true := by
   simp only [inOK, Bool.and_eq_true] at hin
   exact List.all_eq_true.1 hin.2
  refine .inr ⟨rfl, ?_⟩
  by_cases h200 : (steps.length : Int) > 200
  ·have hk : zdY M s inputs steps = some ((1, 0, ()), ()) := by
    apply zk5
    simp only [zhj]
    rw [if_pos (by simpa using h200)]
   refine ⟨1, 0, zgV _ _ _ ?_, hk, zg8 _ _ _ ?_⟩
   ·simp only [zdA, za, gI, aI, Option.bind_some, Bool.not_true, Bool.false_eq_true, if_false]
    rw [if_pos (by simpa using h200)]
   ·simp only [zdv, za, lS, hk, Option.bind_some]; rfl
  ·rcases zwh s hg inputs hi hic steps hl hx steps.length 0 (by omega) (by simp) with ⟨a1, a2⟩ | ⟨code, at', a1, a2⟩
   ·rw [show ((0 : Nat) : Int) = 0 from rfl] at a1 a2
    have hk : zdY M s inputs steps = some ((0, 0, ()), ()) := by
     apply zk5
     simp only [zhj, za, a2, Option.bind_some, Sum.elim_inl]
     rw [if_neg (by simpa using h200)]
    refine ⟨0, 0, zgV _ _ _ ?_, hk, zg8 _ _ _ ?_⟩
    ·simp only [zdA, za, gI, aI, a1, Option.bind_some, Sum.elim_inl, Bool.not_true, Bool.false_eq_true, if_false]
     rw [if_neg (by simpa using h200)]
    ·simp only [zdv, za, lS, hk, Option.bind_some]; rfl
   ·rw [show ((0 : Nat) : Int) = 0 from rfl] at a1 a2
    have hk : zdY M s inputs steps = some ((code, at', ()), ()) := by
     apply zk5
     simp only [zhj, za, a2, Option.bind_some, Sum.elim_inr]
     rw [if_neg (by simpa using h200)]
    refine ⟨code, at', zgV _ _ _ ?_, hk, zg8 _ _ _ ?_⟩
    ·simp only [zdA, za, gI, aI, a1, Option.bind_some, Sum.elim_inr, Bool.not_true, Bool.false_eq_true, if_false]
     rw [if_neg (by simpa using h200)]
    ·simp only [zdv, za, lS, hk, Option.bind_some]; rfl
end Go.Proofs.YtkgpnekonnopgaaGreatCs.Ev
namespace Go.Proofs.YtkgpnekonnopgaaGreatCs.Ev
open Go
set_option autoImplicit false
set_option linter.unusedVariables false
set_option linter.unusedSimpArgs false
theorem zpB (s : TSign) (inputs : List (List TLit)) (steps : List TStep) (hs : s.1.length ≤ 9223372036854775807) (hi : inputs.length ≤ 9223372036854775807) (hix : ∀ c ∈ inputs, wlC c) (hl : steps.length ≤ 9223372036854775807) (hx : ∀ x ∈ steps, wlP x) : zdh M s inputs steps = some ((true, ()), ()) := by
 obtain ⟨r1, e1, g1, k1⟩ := zzm s 1048576 (by omega) (by omega) hs
 apply znh
 by_cases h1 : r1 < 0
 ·simp only [zbw, zcX, e1, Option.bind_some]
  rw [if_pos (by simpa using h1)]
 ·obtain ⟨r2, e2, g2, k2⟩ := zyf inputs r1 (by omega) g1 hi hix
  by_cases h2 : r2 < 0
  ·simp only [zbw, zcX, e1, e2, Option.bind_some]
   rw [if_neg (by simpa using h1), if_pos (by simpa using h2)]
  ·obtain ⟨r3, e3, g3, k3⟩ := zxF steps r2 (by omega) (by omega) hl hx
   by_cases h3 : r3 < 0
   ·simp only [zbw, zcX, e1, e2, e3, Option.bind_some]
    rw [if_neg (by simpa using h1), if_neg (by simpa using h2), if_pos (by simpa using h3)]
   ·have hs' := k1 (by omega)
    obtain ⟨hi', hix'⟩ := k2 (by omega)
    obtain ⟨hl', hx'⟩ := k3 (by omega)
    have both : ∃ code at' : Int, ∃ ok : Bool, zdw M s inputs steps = some ((code, at', ok, ()), ()) ∧ zdC M s inputs steps = some ((code, at', ok, ()), ()) := by
     rcases zvA s hs' inputs hi' hix' steps hl' hx' with ⟨_, a1, a2⟩ | ⟨_, code, at', a1, _, a2⟩
     ·exact ⟨_, _, _, a1, a2⟩
     ·exact ⟨_, _, _, a1, a2⟩
    obtain ⟨code, at', ok, a1, a2⟩ := both
    simp only [zbw, zcX, e1, e2, e3, Option.bind_some, zyU s (show s.1.length ≤ 17592186044416 by omega), zyj inputs hi' hix', zxD steps hl' hx', a1, a2, zyW s (show s.1.length ≤ 17592186044416 by omega), zwK inputs hi' hix', zx0 steps hl' hx']
    rw [if_neg (by simpa using h1), if_neg (by simpa using h2), if_neg (by simpa using h3)]
    simp
end Go.Proofs.YtkgpnekonnopgaaGreatCs.Ev
