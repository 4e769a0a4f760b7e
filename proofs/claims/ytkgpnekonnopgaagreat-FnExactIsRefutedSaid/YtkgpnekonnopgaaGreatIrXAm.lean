/- Texts laid together: RFa, RFd, XAkz, XAk, RFh, XAlz, XAmz, XAm; no condition but those that each theorem names. -/
import Derived.Test.YtkgpnekonnopgaaGreatIrWAd
import Derived.Test.YtkgpnekonnopgaaGreatIrXAe
namespace Go.Proofs.YtkgpnekonnopgaaGreatIr.Ev
open Go
set_option autoImplicit false
set_option linter.unusedVariables false
set_option linter.unusedSimpArgs false
def inC (a : List Int) (o : List (List TLit)) : Bool := decide (o.length ≤ 12) && o.all (clOK a)
def smC (c : List TLit) : Prop := c.length ≤ 1048576 ∧ ∀ x ∈ c, smL x
theorem zAQ (s : TSign) (hg : gS s.1 = true) (c : List TLit) (hc : c.length ≤ 1048576) : zcw M c s = some ((!clOK s.1 c, ()), ()) := by
 apply zjL
 simp only [zd1, za, zp8 s hg c hc, Option.bind_some]
theorem zv0 (s : TSign) (hg : gS s.1 = true) (o : List (List TLit)) (ho : o.length ≤ 1048576) (hx : ∀ c ∈ o, smC c) : ∀ k i : Nat, i + k = o.length → ∃ r, zj M o (s, ()) o.length i = some r ∧ (match r with | .inl _ => (o.drop i).all (clOK s.1) = true | .inr r => 0 ≤ r.1.1 ∧ (o.drop i).all (clOK s.1) = false) := by
 intro k
 induction k with
 | zero =>
  intro i hi
  obtain rfl : i = o.length := by omega
  refine ⟨.inl (), zi _ _ _ _ (by simp [ze]), by simp⟩
 | succ k ih =>
  intro i hi
  have h1 : i < o.length := by omega
  have hc : o[i].length ≤ 1048576 := by exact (hx _ (List.getElem_mem h1)).1
  obtain ⟨r, hr, hm⟩ := ih (i + 1) (by omega)
  rw [List.drop_eq_getElem_cons h1, List.all_cons]
  by_cases hp : clOK s.1 o[i] = true
  ·refine ⟨r, zi _ _ _ _ ?_, by rw [hp, Bool.true_and]; exact hm⟩
   simp only [ze]
   rw [if_pos (by simpa using h1), zd h1, zb (by omega)]
   simp only [Option.bind_some, zAQ s hg _ hc, hp, Bool.not_true, Bool.false_eq_true, if_false]
   exact hr
  ·rw [Bool.not_eq_true] at hp
   refine ⟨.inr (((i : Int), ()), ()), zi _ _ _ _ ?_, Int.natCast_nonneg i, by rw [hp, Bool.false_and]⟩
   simp only [ze]
   rw [if_pos (by simpa using h1), zd h1]
   simp only [Option.bind_some, zAQ s hg _ hc, hp, Bool.not_false, if_true]
theorem zwN (s : TSign) (hg : gS s.1 = true) (o : List (List TLit)) (ho : o.length ≤ 1048576) (hx : ∀ c ∈ o, smC c) : zo M o (s, ()) = some ((!(o.all (clOK s.1)), ()), ()) := by
 apply zbf
 simp only [zF]
 obtain ⟨r, hr, hm⟩ := zv0 s hg o ho hx o.length 0 (by omega)
 rw [show ((0 : Nat) : Int) = 0 from rfl] at hr
 rw [List.drop_zero] at hm
 cases r with
 | inl r =>
  rw [zP o (s, ()) (r := ((-1, ()), ())) (by simp only [zk, hr, Option.bind_some, Sum.elim_inl])]
  simp only at hm
  simp [hm]
 | inr r =>
  rw [zP o (s, ()) (r := r) (by simp only [zk, hr, Option.bind_some, Sum.elim_inr])]
  simp only at hm
  simp [hm]
theorem zBP (s : TSign) (hg : gS s.1 = true) (o : List (List TLit)) (ho : o.length ≤ 1048576) (hx : ∀ c ∈ o, smC c) : zdo M s o = some ((inC s.1 o, ()), ()) := by
 apply zkM
 simp only [ze1, za, zwN s hg o ho hx, Option.bind_some, inC]
 by_cases h : o.length ≤ 12
 ·rw [if_pos (by simp; omega)]; simp [h]
 ·rw [if_neg (by simp; omega)]; simp [h]
theorem ztz (s : TSign) (hg : gS s.1 = true) (o : List (List TLit)) (ho : o.length ≤ 1048576) (hx : ∀ c ∈ o, smC c) : ∀ k i : Nat, i + k = o.length → zaR M o s o o.length i = some (if (o.drop i).all (clOK s.1) = true then .inl (o, s, ()) else .inr ((false, ()), ())) := by
 intro k
 induction k with
 | zero =>
  intro i hi
  obtain rfl : i = o.length := by omega
  apply zar
  simp [zas]
 | succ k ih =>
  intro i hi
  apply zar
  have h1 : i < o.length := by omega
  have hk := hx _ (List.getElem_mem h1)
  simp only [zas]
  rw [if_pos (by simpa using h1), zd h1, zb (by omega)]
  simp only [Option.bind_some, za, zfT s hg o[i] hk.1 hk.2, ih (i + 1) (by omega)]
  rw [List.drop_eq_getElem_cons h1, List.all_cons]
  generalize clOK s.1 o[i] = b
  cases b <;> rfl
theorem zBZ (s : TSign) (hs : s.1.length ≤ 17592186044416) (hg : gS s.1 = true) (o : List (List TLit)) (ho : o.length ≤ 1048576) (hx : ∀ c ∈ o, smC c) : zfc M s o = some ((inC s.1 o, ()), ()) := by
 apply zi4
 have := ztz s hg o ho hx o.length 0 (by omega)
 rw [show ((0 : Nat) : Int) = 0 from rfl, List.drop_zero] at this
 simp only [zcF, za, this, Option.bind_some, inC]
 cases o.all (clOK s.1) with
 | false => simp
 | true =>
  rw [if_pos rfl]
  simp only [Sum.elim_inl, za, zgP s hs, hg, Option.bind_some, if_true]
  simp
  omega
theorem zxr (s : TSign) (hs : s.1.length ≤ 1048576) (t : List Int) (ht : t.length ≤ 40) : ∀ (k i : Nat) (n : Int), i + k = t.length → ∃ r, zdE M t i s n = some r ∧ (match r with | .inl y => y.2 = () | .inr _ => True) := by
 intro k
 induction k with
 | zero =>
  intro i n hi
  by_cases hn : n > 0
  ·refine ⟨.inr ((-1, ()), ()), zaw _ _ _ _ ?_, trivial⟩
   simp only [zab]
   rw [if_pos (by simpa using hn), if_pos (by simp; omega)]
  ·refine ⟨.inl (i, ()), zaw _ _ _ _ ?_, rfl⟩
   simp only [zab]
   rw [if_neg (by simpa using hn)]
 | succ k ih =>
  intro i n hi
  have h1 : i < t.length := by omega
  by_cases hn : n > 0
  ·have hw : IntKind.i64.wrap ((s.1.length : Int) - 1) = (s.1.length : Int) - 1 := w64 (by omega) (by omega)
   by_cases hin : -12 ≤ t[i] ∧ t[i] ≤ (s.1.length : Int) - 1
   ·by_cases hx : t[i] ≥ 0
    ·have h2 : t[i].toNat < s.1.length := by omega
     have e2 : idx s.1 t[i] = some s.1[t[i].toNat] := by
      have := zd (xs := s.1) h2
      rwa [show ((t[i].toNat : Nat) : Int) = t[i] by omega] at this
     obtain ⟨r, hr, hm⟩ := ih (i + 1) (IntKind.i64.wrap (IntKind.i64.wrap (n - 1) + s.1[t[i].toNat])) (by omega)
     refine ⟨r, zaw _ _ _ _ ?_, hm⟩
     simp only [zab]
     rw [if_pos (by simpa using hn), if_neg (by simp; omega), zd h1]
     simp only [Option.bind_some, zdA, hw]
     rw [if_neg (by simp; omega), if_pos (by simpa using hx), e2]
     simp only [Option.bind_some, Sum.elim_inl, za, zb (show i < 4611686018427387904 by omega)]
     exact hr
    ·obtain ⟨r, hr, hm⟩ := ih (i + 1) (IntKind.i64.wrap (n - 1)) (by omega)
     refine ⟨r, zaw _ _ _ _ ?_, hm⟩
     simp only [zab]
     rw [if_pos (by simpa using hn), if_neg (by simp; omega), zd h1]
     simp only [Option.bind_some, zdA, hw]
     rw [if_neg (by simp; omega), if_neg (by simpa using hx)]
     simp only [Option.bind_some, Sum.elim_inl, za, zb (show i < 4611686018427387904 by omega)]
     exact hr
   ·refine ⟨.inr ((-1, ()), ()), zaw _ _ _ _ ?_, trivial⟩
    simp only [zab]
    rw [if_pos (by simpa using hn), if_neg (by simp; omega), zd h1]
    simp only [Option.bind_some, zdA, hw]
    rw [if_pos (by simp; omega)]
  ·refine ⟨.inl (i, ()), zaw _ _ _ _ ?_, rfl⟩
   simp only [zab]
   rw [if_neg (by simpa using hn)]
theorem zrc (s : TSign) (hs : s.1.length ≤ 1048576) (t : List Int) : ∃ b : Bool, zcr M s t = some ((b, ()), ()) := by
 by_cases h : 1 ≤ t.length ∧ t.length ≤ 40
 ·obtain ⟨r, hr, _⟩ := zxr s hs t h.2 t.length 0 1 (by omega)
  rw [show ((0 : Nat) : Int) = 0 from rfl] at hr
  have : ∃ n : Int, zeS M s t 0 = some ((n, ()), ()) := by
   cases r with
   | inl y => exact ⟨y.1, zje _ _ _ (by simp only [zf8, za, hr, Option.bind_some, Sum.elim_inl])⟩
   | inr y => exact ⟨y.1.1, zje _ _ _ (by simp only [zf8, za, hr, Option.bind_some, Sum.elim_inr])⟩
  obtain ⟨n, hn⟩ := this
  refine ⟨n == (t.length : Int), ziE _ _ ?_⟩
  simp only [zfh, zdA, Option.bind_some, za, hn]
  rw [if_pos (by simp; omega)]
 ·refine ⟨false, ziE _ _ ?_⟩
  simp only [zfh, zdA, Option.bind_some]
  rw [if_neg (by simp; omega)]
theorem zxo (s : TSign) (hs : s.1.length ≤ 1048576) (x : TLit) : ∃ b : Bool, zhT M s x = some ((b, ()), ()) := by
 obtain ⟨b1, e1⟩ := zrc s hs x.2.1
 obtain ⟨b2, e2⟩ := zrc s hs x.2.2.1
 cases b1 with
 | false => exact ⟨false, zkQ _ _ (by simp only [zh0, za, e1, Option.bind_some]; rfl)⟩
 | true => exact ⟨b2, zkQ _ _ (by simp only [zh0, za, e1, e2, Option.bind_some]; rfl)⟩
theorem zuv (s : TSign) (hs : s.1.length ≤ 1048576) (c : List TLit) (hc : c.length ≤ 1048576) : ∃ b : Bool, zaX M s c = some ((b, ()), ()) := by
 have key : ∀ k i : Nat, i + k = c.length → zbb M c s c c.length i = some (.inl (c, ())) ∨ zbb M c s c c.length i = some (.inr ((false, ()), ())) := by
  intro k
  induction k with
  | zero =>
   intro i hi
   refine .inl (zaZ _ _ _ _ _ ?_)
   simp only [zaY]
   rw [if_neg (by simp; omega)]
  | succ k ih =>
   intro i hi
   have h1 : i < c.length := by omega
   obtain ⟨b, e⟩ := zxo s hs c[i]
   cases b with
   | false =>
    refine .inr (zaZ _ _ _ _ _ ?_)
    simp only [zaY]
    rw [if_pos (by simpa using h1), zd h1]
    simp only [Option.bind_some, za, zm, e, Bool.not_false, if_true]
   | true =>
    refine (ih (i + 1) (by omega)).imp (fun h => zaZ _ _ _ _ _ ?_) (fun h => zaZ _ _ _ _ _ ?_)
    all_goals
     simp only [zaY]
     rw [if_pos (by simpa using h1), zd h1, zb (by omega)]
     simp only [Option.bind_some, za, zm, e, Bool.not_true, Bool.false_eq_true, if_false]
     exact h
 rcases key c.length 0 (by omega) with h | h
 ·rw [show ((0 : Nat) : Int) = 0 from rfl] at h
  exact ⟨decide ((c.length : Int) ≤ 8), zhd _ _ (by simp only [zdM, za, h, Option.bind_some, Sum.elim_inl])⟩
 ·rw [show ((0 : Nat) : Int) = 0 from rfl] at h
  exact ⟨false, zhd _ _ (by simp only [zdM, za, h, Option.bind_some, Sum.elim_inr])⟩
theorem zBi (s : TSign) (hs : s.1.length ≤ 1048576) (hg : gS s.1 = false) (o : List (List TLit)) (ho : o.length ≤ 1048576) (hx : ∀ c ∈ o, smC c) : zfc M s o = some ((false, ()), ()) := by
 have key : ∀ k i : Nat, i + k = o.length → zaR M o s o o.length i = some (.inl (o, s, ())) ∨ zaR M o s o o.length i = some (.inr ((false, ()), ())) := by
  intro k
  induction k with
  | zero =>
   intro i hi
   refine .inl (zar _ _ _ _ _ ?_)
   simp only [zas, za]
   rw [if_neg (by simp; omega)]
  | succ k ih =>
   intro i hi
   have h1 : i < o.length := by omega
   obtain ⟨b, e⟩ := zuv s hs o[i] (hx _ (List.getElem_mem h1)).1
   cases b with
   | false =>
    refine .inr (zar _ _ _ _ _ ?_)
    simp only [zas]
    rw [if_pos (by simpa using h1), zd h1]
    simp only [Option.bind_some, za, e, Bool.not_false, if_true]
   | true =>
    refine (ih (i + 1) (by omega)).imp (fun h => zar _ _ _ _ _ ?_) (fun h => zar _ _ _ _ _ ?_)
    all_goals
     simp only [zas]
     rw [if_pos (by simpa using h1), zd h1, zb (by omega)]
     simp only [Option.bind_some, za, e, Bool.not_true, Bool.false_eq_true, if_false]
     exact h
 apply zi4
 rcases key o.length 0 (by omega) with h | h
 ·rw [show ((0 : Nat) : Int) = 0 from rfl] at h
  simp only [zcF, za, h, Option.bind_some, Sum.elim_inl, zgP s (by omega), hg, Bool.false_eq_true, if_false]
 ·rw [show ((0 : Nat) : Int) = 0 from rfl] at h
  simp only [zcF, za, h, Option.bind_some, Sum.elim_inr]
end Go.Proofs.YtkgpnekonnopgaaGreatIr.Ev
namespace Go.Proofs.YtkgpnekonnopgaaGreatIr.Ev
open Go
set_option autoImplicit false
set_option linter.unusedVariables false
set_option linter.unusedSimpArgs false
def wlC (c : List TLit) : Prop := c.length ≤ 9223372036854775807 ∧ ∀ x ∈ c, wlL x
theorem zuu (a : List (List TLit)) (ha : a.length ≤ 1048576) (hx : ∀ x ∈ a, smC x) : ∀ k i : Nat, i + k = a.length → ∀ o : List (List TLit), o.length = a.length → zfv M a o i = some (.inl (o.take i ++ a.drop i, ())) := by
 intro k
 induction k with
 | zero =>
  intro i hi o ho
  obtain rfl : i = a.length := by omega
  apply zmn
  simp only [zgO, Int.lt_irrefl, decide_false, Bool.false_eq_true, if_false, List.drop_length, List.append_nil]
  rw [← ho, List.take_length]
 | succ k ih =>
  intro i hi o ho
  apply zmn
  have h1 : i < a.length := by omega
  have h2 : i < o.length := by omega
  simp only [zgO]
  rw [if_pos (by simpa using h1), zd h1, zb (by omega)]
  simp only [Option.bind_some, zwV a[i] (hx _ (List.getElem_mem h1)).1 (hx _ (List.getElem_mem h1)).2]
  rw [if_pos (by omega)]
  simp only [Option.bind_some, Int.toNat_natCast, List.getElem?_eq_getElem h2]
  rw [ih (i + 1) (by omega) _ (by simpa using ho)]
  rw [List.take_set, List.take_succ_eq_append_getElem h2, List.set_append_right _ _ (by simp; omega), List.drop_eq_getElem_cons h1]
  simp [Nat.min_eq_left (Nat.le_of_lt h2)]
theorem zyL (a : List (List TLit)) (ha : a.length ≤ 1048576) (hx : ∀ x ∈ a, smC x) : zfX M a = some ((a, ()), ()) := by
 apply zuo
 simp only [zlV]
 rw [if_pos (by refine ⟨by omega, by omega, trivial⟩)]
 have := zuu a ha hx a.length 0 (by omega) (List.replicate a.length []) (by simp)
 simp only [Int.toNat_natCast]
 rw [show ((0 : Nat) : Int) = 0 from rfl] at this
 rw [this]
 simp
theorem ztn (a : List (List TLit)) (ha : a.length ≤ 1048576) (hx : ∀ x ∈ a, smC x) : ∀ k i : Nat, i + k = a.length → zfq M a a i = some (.inl ()) := by
 intro k
 induction k with
 | zero =>
  intro i hi
  obtain rfl : i = a.length := by omega
  apply zmu
  simp only [zgN, Int.lt_irrefl, decide_false, Bool.false_eq_true, if_false]
 | succ k ih =>
  intro i hi
  apply zmu
  have h1 : i < a.length := by omega
  simp only [zgN]
  rw [if_pos (by simpa using h1), zd h1, zb (by omega)]
  simp only [Option.bind_some, zv7 a[i] (hx _ (List.getElem_mem h1)).1 (hx _ (List.getElem_mem h1)).2, Bool.not_true, Bool.false_eq_true, if_false]
  exact ih (i + 1) (by omega)
theorem zx2 (a : List (List TLit)) (ha : a.length ≤ 1048576) (hx : ∀ x ∈ a, smC x) : zjJ M a a = some ((true, ()), ()) := by
 apply zt0
 simp only [zlH, bne_self_eq_false, Bool.false_eq_true, if_false]
 have := ztn a ha hx a.length 0 (by omega)
 rw [show ((0 : Nat) : Int) = 0 from rfl] at this
 rw [this]
 rfl
def wlS (x : List Int) : Prop := x.length ≤ 9223372036854775807
theorem zua (a : List (List TLit)) (ha : a.length ≤ 1048576) (hx : ∀ x ∈ a, wlC x) : ∀ (k i : Nat) (n : Int), i + k = a.length → 0 ≤ n → n ≤ 1048576 → (∀ x ∈ a.take i, smC x) →
  ∃ r, zeM M a n i = some r ∧ (match r with | .inl y => 0 ≤ y.1 ∧ y.1 ≤ n ∧ ∀ x ∈ a, smC x | .inr y => y.1.1 = -1) := by
 intro k
 induction k with
 | zero =>
  intro i n hi h0 hn hs
  obtain rfl : i = a.length := by omega
  refine ⟨.inl (n, ()), ziW _ _ _ (by simp [zea]), h0, Int.le_refl _, by simpa using hs⟩
 | succ k ih =>
  intro i n hi h0 hn hs
  have h1 : i < a.length := by omega
  obtain ⟨m, hm, hm1, hm2⟩ := zwz a[i] n h0 hn (hx _ (List.getElem_mem h1)).1 (hx _ (List.getElem_mem h1)).2
  by_cases hneg : m < 0
  ·refine ⟨.inr ((-1, ()), ()), ziW _ _ _ ?_, rfl⟩
   simp only [zea]
   rw [if_pos (by simpa using h1), zd h1]
   simp only [Option.bind_some, hm]
   rw [if_pos (by simpa using hneg)]
  ·obtain ⟨r, hr, hp⟩ := ih (i + 1) m (by omega) (by omega) (by omega) (by
    intro x hx'
    rw [List.take_succ_eq_append_getElem h1] at hx'
    rcases List.mem_append.1 hx' with h | h
    ·exact hs x h
    ·rw [List.mem_singleton.1 h]; exact hm2 (by omega))
   refine ⟨r, ziW _ _ _ ?_, ?_⟩
   ·simp only [zea]
    rw [if_pos (by simpa using h1), zd h1, zb (by omega)]
    simp only [Option.bind_some, hm]
    rw [if_neg (by simpa using hneg)]
    exact hr
   ·cases r with
    | inl y => exact ⟨hp.1, by have := hp.2.1; omega, hp.2.2⟩
    | inr y => exact hp
theorem zzg (a : List (List TLit)) (n : Int) (hn : 0 ≤ n) (hn' : n ≤ 1048576) (ha : a.length ≤ 9223372036854775807) (hx : ∀ x ∈ a, wlC x) : ∃ r : Int, zjC M a n = some ((r, ()), ()) ∧ r ≤ n ∧ (0 ≤ r → a.length ≤ 1048576 ∧ ∀ x ∈ a, smC x) := by
 have hw : IntKind.i64.wrap (n - a.length) = n - a.length := w64 (by omega) (by omega)
 by_cases h1 : n - a.length < 0
 ·refine ⟨-1, zlU _ _ ?_, by omega, by omega⟩
  simp only [zhM, hw]
  rw [if_pos (by simpa using h1)]
 ·obtain ⟨r, hr, hp⟩ := zua a (by omega) hx a.length 0 (n - a.length) (by omega) (by omega) (by omega) (by simp)
  rw [show ((0 : Nat) : Int) = 0 from rfl] at hr
  cases r with
  | inl y =>
   refine ⟨y.1, zlU _ _ ?_, by have := hp.2.1; omega, fun _ => ⟨by omega, hp.2.2⟩⟩
   simp only [zhM, hw]
   rw [if_neg (by simpa using h1), hr]
   rfl
  | inr y =>
   obtain ⟨⟨y, _⟩, _⟩ := y
   simp only at hp
   subst hp
   refine ⟨-1, zlU _ _ ?_, by omega, by omega⟩
   simp only [zhM, hw]
   rw [if_neg (by simpa using h1), hr]
   rfl
end Go.Proofs.YtkgpnekonnopgaaGreatIr.Ev
namespace Go.Proofs.YtkgpnekonnopgaaGreatIr.Ev
open Go
set_option autoImplicit false
set_option linter.unusedVariables false
set_option linter.unusedSimpArgs false
def inOK (a : List Int) (l : List (List TLit)) : Bool := decide (l.length ≤ 12) && l.all (clOK a)
theorem zAK (s : TSign) (hg : gS s.1 = true) (c : List TLit) (hc : c.length ≤ 1048576) : zcw M c s = some ((!clOK s.1 c, ()), ()) := by
 apply zjL
 simp only [zd1, zck, zp8 s hg c hc, Option.bind_some]
theorem zzJ (s : TSign) (hg : gS s.1 = true) (a : List (List TLit)) (ha : a.length ≤ 1048576) (hx : ∀ c ∈ a, smC c) : ∀ k i : Nat, i + k = a.length → ∃ r, zj M a (s, ()) a.length i = some r ∧ (match r with | .inl _ => (a.drop i).all (clOK s.1) = true | .inr r => 0 ≤ r.1.1 ∧ (a.drop i).all (clOK s.1) = false) := by
 intro k
 induction k with
 | zero =>
  intro i hi
  obtain rfl : i = a.length := by omega
  refine ⟨.inl (), zi _ _ _ _ (by simp [ze]), by simp⟩
 | succ k ih =>
  intro i hi
  have h1 : i < a.length := by omega
  obtain ⟨r, hr, hm⟩ := ih (i + 1) (by omega)
  have hc := (hx _ (List.getElem_mem h1)).1
  rw [List.drop_eq_getElem_cons h1, List.all_cons]
  by_cases hp : clOK s.1 a[i] = true
  ·refine ⟨r, zi _ _ _ _ ?_, by rw [hp, Bool.true_and]; exact hm⟩
   simp only [ze]
   rw [if_pos (by simpa using h1), zd h1, zb (by omega)]
   simp only [Option.bind_some, zAK s hg _ hc, hp, Bool.not_true, Bool.false_eq_true, if_false]
   exact hr
  ·rw [Bool.not_eq_true] at hp
   refine ⟨.inr (((i : Int), ()), ()), zi _ _ _ _ ?_, Int.natCast_nonneg i, by rw [hp, Bool.false_and]⟩
   simp only [ze]
   rw [if_pos (by simpa using h1), zd h1]
   simp only [Option.bind_some, zAK s hg _ hc, hp, Bool.not_false, if_true]
theorem zsr (s : TSign) (hg : gS s.1 = true) (a : List (List TLit)) (ha : a.length ≤ 1048576) (hx : ∀ c ∈ a, smC c) : zdo M s a = some ((inOK s.1 a, ()), ()) := by
 obtain ⟨r, hr, hm⟩ := zzJ s hg a ha hx a.length 0 (by omega)
 rw [show ((0 : Nat) : Int) = 0 from rfl] at hr
 rw [List.drop_zero] at hm
 have key : zo M a (s, ()) = some ((!(a.all (clOK s.1)), ()), ()) := by
  apply zbf
  simp only [zF]
  cases r with
  | inl r =>
   rw [zP a (s, ()) (r := ((-1, ()), ())) (by simp only [zk, hr, Option.bind_some, Sum.elim_inl])]
   simp only at hm
   simp [hm]
  | inr r =>
   rw [zP a (s, ()) (r := r) (by simp only [zk, hr, Option.bind_some, Sum.elim_inr])]
   simp only at hm
   simp [hm]
 apply zkM
 simp only [ze1, zck, key, Option.bind_some, Bool.not_not, inOK]
 by_cases h : a.length ≤ 12
 ·rw [if_pos (by simp; omega), decide_eq_true h, Bool.true_and]
 ·rw [if_neg (by simp; omega), decide_eq_false h, Bool.false_and]
theorem zyx (s : TSign) (hs : s.1.length ≤ 1048576) (a : List (List TLit)) (ha : a.length ≤ 1048576) (hx : ∀ c ∈ a, smC c) : zfc M s a = some ((gS s.1 && inOK s.1 a, ()), ()) := by
 cases hg : gS s.1 with
 | false =>
  have h : ∀ k i : Nat, i + k = a.length → zaR M a s a a.length i = some (.inl (a, s, ())) ∨ zaR M a s a a.length i = some (.inr ((false, ()), ())) := by
   intro k
   induction k with
   | zero =>
    intro i hi
    obtain rfl : i = a.length := by omega
    refine .inl (zar _ _ _ _ _ ?_)
    simp only [zas, za]
    rw [if_neg (by simp)]
   | succ k ih =>
    intro i hi
    have h1 : i < a.length := by omega
    obtain ⟨c1, c2⟩ := hx _ (List.getElem_mem h1)
    obtain ⟨b, hb⟩ := zw6 s hs a[i] c1 c2
    have hq : zas M a s a a.length i = if b = true then zaR M a s a a.length ((i + 1 : Nat) : Int) else some (.inr ((false, ()), ())) := by
     simp only [zas, za]
     rw [if_pos (by simpa using h1), zd h1, zb (by omega)]
     simp only [Option.bind_some, hb]
     cases b <;> rfl
    cases b with
    | false => exact .inr (zar _ _ _ _ _ hq)
    | true =>
     rcases ih (i + 1) (by omega) with h | h
     ·exact .inl (zar _ _ _ _ _ (hq.trans h))
     ·exact .inr (zar _ _ _ _ _ (hq.trans h))
  have h0 := h a.length 0 (by omega)
  rw [show ((0 : Nat) : Int) = 0 from rfl] at h0
  apply zi4
  rcases h0 with h0 | h0
  ·simp only [zcF, za, h0, Option.bind_some, Sum.elim_inl, zgP s (by omega), hg]; rfl
  ·simp only [zcF, za, h0, Option.bind_some, Sum.elim_inr]; rfl
 | true =>
  have h : ∀ k i : Nat, i + k = a.length → zaR M a s a a.length i = some (if (a.drop i).all (clOK s.1) = true then .inl (a, s, ()) else .inr ((false, ()), ())) := by
   intro k
   induction k with
   | zero =>
    intro i hi
    obtain rfl : i = a.length := by omega
    apply zar
    simp only [zas, za]
    rw [if_neg (by simp), List.drop_length]
    rfl
   | succ k ih =>
    intro i hi
    have h1 : i < a.length := by omega
    obtain ⟨c1, c2⟩ := hx _ (List.getElem_mem h1)
    apply zar
    simp only [zas, za]
    rw [if_pos (by simpa using h1), zd h1, zb (by omega), List.drop_eq_getElem_cons h1, List.all_cons]
    simp only [Option.bind_some, zfT s hg a[i] c1 c2]
    cases clOK s.1 a[i] with
    | false => rfl
    | true => exact ih (i + 1) (by omega)
  have h0 := h a.length 0 (by omega)
  rw [show ((0 : Nat) : Int) = 0 from rfl, List.drop_zero] at h0
  apply zi4
  simp only [zcF, za, h0, Option.bind_some, inOK, Bool.true_and]
  cases a.all (clOK s.1) with
  | false => simp
  | true =>
   simp only [if_true, Sum.elim_inl, zgP s (show s.1.length ≤ 17592186044416 by omega), hg, Option.bind_some, Bool.and_true]
   congr 3
   rw [decide_eq_decide]; omega
def ofN (n : Nat) (l : List Int) : Bool := l.all fun k => decide (0 ≤ k) && decide (k < (n : Int))
theorem zAP (steps : List TStep) (k : Int) : zjy M k steps = some ((!(decide (0 ≤ k) && decide (k < (steps.length : Int))), ()), ()) := by
 apply zub
 simp only [zlE]
 by_cases h0 : 0 ≤ k
 ·rw [if_neg (by simp; omega), decide_eq_true h0, Bool.true_and]
  congr 3
  by_cases h1 : k < (steps.length : Int)
  ·rw [decide_eq_true h1, decide_eq_false (by omega)]; rfl
  ·rw [decide_eq_false h1, decide_eq_true (by omega)]; rfl
 ·rw [if_pos (by simp; omega), decide_eq_false h0]; rfl
theorem zAe (steps : List TStep) (a : List Int) (ha : a.length ≤ 1048576) : ∀ k i : Nat, i + k = a.length → ∃ r, zai M a (steps, ()) a.length i = some r ∧ (match r with | .inl _ => ofN steps.length (a.drop i) = true | .inr r => 0 ≤ r.1.1 ∧ ofN steps.length (a.drop i) = false) := by
 intro k
 induction k with
 | zero =>
  intro i hi
  obtain rfl : i = a.length := by omega
  refine ⟨.inl (), zbx _ _ _ _ (by simp [zae]), by simp [ofN]⟩
 | succ k ih =>
  intro i hi
  have h1 : i < a.length := by omega
  obtain ⟨r, hr, hm⟩ := ih (i + 1) (by omega)
  have e : ofN steps.length (a.drop i) = ((decide (0 ≤ a[i]) && decide (a[i] < (steps.length : Int))) && ofN steps.length (a.drop (i + 1))) := by
   rw [List.drop_eq_getElem_cons h1]; rfl
  rw [e]
  cases hp : (decide (0 ≤ a[i]) && decide (a[i] < (steps.length : Int))) with
  | true =>
   refine ⟨r, zbx _ _ _ _ ?_, by rw [Bool.true_and]; exact hm⟩
   simp only [zae]
   rw [if_pos (by simpa using h1), zd h1, zb (by omega)]
   simp only [Option.bind_some, zAP, hp, Bool.not_true, Bool.false_eq_true, if_false]
   exact hr
  | false =>
   refine ⟨.inr (((i : Int), ()), ()), zbx _ _ _ _ ?_, Int.natCast_nonneg i, by rw [Bool.false_and]⟩
   simp only [zae]
   rw [if_pos (by simpa using h1), zd h1]
   simp only [Option.bind_some, zAP, hp, Bool.not_false, if_true]
theorem zxx (steps : List TStep) (a : List Int) (ha : a.length ≤ 1048576) : zjo M steps a = some ((ofN steps.length a, ()), ()) := by
 obtain ⟨r, hr, hm⟩ := zAe steps a ha a.length 0 (by omega)
 rw [show ((0 : Nat) : Int) = 0 from rfl] at hr
 rw [List.drop_zero] at hm
 have key : zaS M a (steps, ()) = some ((!(ofN steps.length a), ()), ()) := by
  apply zho
  simp only [zbB]
  cases r with
  | inl r =>
   rw [zdQ a (steps, ()) (r := ((-1, ()), ())) (by simp only [zba, hr, Option.bind_some, Sum.elim_inl])]
   simp only at hm
   simp [hm]
  | inr r =>
   rw [zdQ a (steps, ()) (r := r) (by simp only [zba, hr, Option.bind_some, Sum.elim_inr])]
   simp only at hm
   simp [hm]
 apply zwK
 simp only [znX, key, Option.bind_some, Bool.not_not]
end Go.Proofs.YtkgpnekonnopgaaGreatIr.Ev
namespace Go.Proofs.YtkgpnekonnopgaaGreatIr.Ev
open Go
set_option autoImplicit false
set_option linter.unusedVariables false
set_option linter.unusedSimpArgs false
theorem ztX (k : Nat) (hk : k ≤ 1048576) (a : List Int) (ha : a.length ≤ 1048576) : zge M a 0 (IntKind.i64.wrap ((k : Int) - 1)) = some ((ofN k a, ()), ()) := by
 rw [w64 (by omega) (by omega), zxK a 0 ((k : Int) - 1) (by omega)]
 congr 3
 unfold ofN
 congr 1
 funext x
 congr 1
 rw [decide_eq_decide]; omega
theorem zxI (x y : TLit) : (x = y) ↔ (x.1 = y.1 ∧ x.2.1 = y.2.1 ∧ x.2.2.1 = y.2.2.1) := by
 obtain ⟨a, b, c, ⟨⟩⟩ := x
 obtain ⟨d, e, f, ⟨⟩⟩ := y
 simp
theorem zxD {β : Type} (x y : TLit) (r t : List TLit) (a b : β) : (if x :: r = y :: t then a else b) = if x = y then (if r = t then a else b) else b := by
 by_cases h : x = y
 ·subst h
  by_cases k : r = t
  ·rw [if_pos (by rw [k]), if_pos rfl, if_pos k]
  ·rw [if_neg (fun q => k (List.cons.inj q).2), if_pos rfl, if_neg k]
 ·rw [if_neg (fun q => h (List.cons.inj q).1), if_neg h]
theorem zCb (x y : TLit) (hx : smL x) : ze3 M x y = some ((decide (x = y), ()), ()) := by
 apply zo8
 simp only [zhO, zhV x.2.1 y.2.1 (by have := hx.1; omega), zhV x.2.2.1 y.2.2.1 (by have := hx.2; omega), Option.bind_some]
 have e := zxI x y
 by_cases h1 : x.1 = y.1
 ·rw [if_pos (by simpa using h1)]
  by_cases h2 : x.2.1 = y.2.1
  ·rw [if_pos (by simpa using h2)]
   congr 3
   rw [decide_eq_decide, e]
   exact ⟨fun h => ⟨h1, h2, h⟩, fun h => h.2.2⟩
  ·rw [if_neg (by simpa using h2), decide_eq_false (fun h => h2 (e.1 h).2.1)]
 ·rw [if_neg (by simpa using h1), decide_eq_false (fun h => h1 (e.1 h).1)]
theorem zzV (c d : List TLit) (hl : c.length = d.length) (hc : c.length ≤ 1048576) (hx : ∀ x ∈ c, smL x) : ∀ k i : Nat, i + k = c.length → zh M d () c c.length i = some (if c.drop i = d.drop i then .inl () else .inr ((false, ()), ())) := by
 intro k
 induction k with
 | zero =>
  intro i hi
  obtain rfl : i = c.length := by omega
  apply zay
  simp only [zn]
  rw [if_neg (by simp), List.drop_length, hl, List.drop_length, if_pos rfl]
 | succ k ih =>
  intro i hi
  have h1 : i < c.length := by omega
  have h2 : i < d.length := by omega
  apply zay
  simp only [zn]
  rw [if_pos (by simpa using h1), zd h1, zd h2, zb (by omega)]
  simp only [Option.bind_some, zm, zCb c[i] d[i] (hx _ (List.getElem_mem h1))]
  rw [List.drop_eq_getElem_cons h1, List.drop_eq_getElem_cons h2, zxD]
  by_cases e : c[i] = d[i]
  ·rw [decide_eq_true e, if_pos e, ih (i + 1) (by omega), if_neg (by decide)]
  ·rw [decide_eq_false e, if_neg e, if_pos (by decide)]
theorem zzH (c d : List TLit) (hc : c.length ≤ 1048576) (hx : ∀ x ∈ c, smL x) (hd : d.length ≤ 1048576) : zgu M c d = some ((decide (c = d), ()), ()) := by
 have key : zu M c d () = some ((decide (c = d), ()), ()) := by
  apply zb7
  simp only [zT]
  by_cases hl : c.length = d.length
  ·have h := zzV c d hl hc hx c.length 0 (by omega)
   rw [show ((0 : Nat) : Int) = 0 from rfl, List.drop_zero, List.drop_zero] at h
   rw [if_neg (by simp; omega), h]
   by_cases e : c = d
   ·rw [if_pos e, decide_eq_true e]; rfl
   ·rw [if_neg e, decide_eq_false e]; rfl
  ·rw [if_pos (by simp; omega), decide_eq_false (fun e => hl (by rw [e]))]
 apply zqA
 simp only [ziR, key, Option.bind_some]
theorem zzL (c d : List TLit) (hl : c.length = d.length) (hc : c.length ≤ 1048576) (hx : ∀ x ∈ c, smL x) : ∀ k i : Nat, i + k = c.length → zdO M c d c.length i = some (if c.drop i = d.drop i then .inl () else .inr ((false, ()), ())) := by
 intro k
 induction k with
 | zero =>
  intro i hi
  obtain rfl : i = c.length := by omega
  apply zkI
  simp only [zeX]
  rw [if_neg (by simp), List.drop_length, hl, List.drop_length, if_pos rfl]
 | succ k ih =>
  intro i hi
  have h1 : i < c.length := by omega
  have h2 : i < d.length := by omega
  have hs := hx _ (List.getElem_mem h1)
  have e := zxI c[i] d[i]
  apply zkI
  simp only [zeX]
  rw [if_pos (by simpa using h1), zd h1, zd h2, zb (by omega)]
  simp only [Option.bind_some, ziA c[i].2.1 d[i].2.1 (by have := hs.1; omega), ziA c[i].2.2.1 d[i].2.2.1 (by have := hs.2; omega)]
  rw [List.drop_eq_getElem_cons h1, List.drop_eq_getElem_cons h2, zxD]
  by_cases q1 : c[i].1 = d[i].1
  ·rw [if_neg (by simpa using q1)]
   by_cases q2 : c[i].2.1 = d[i].2.1
   ·rw [if_neg (by simpa using q2)]
    by_cases q3 : c[i].2.2.1 = d[i].2.2.1
    ·rw [if_neg (by simpa using q3), ih (i + 1) (by omega), if_pos (e.2 ⟨q1, q2, q3⟩)]
    ·rw [if_pos (by simpa using q3), if_neg (fun h => q3 (e.1 h).2.2)]
   ·rw [if_pos (by simpa using q2), if_neg (fun h => q2 (e.1 h).2.1)]
  ·rw [if_pos (by simpa using q1), if_neg (fun h => q1 (e.1 h).1)]
theorem zx9 (c d : List TLit) (hc : c.length ≤ 1048576) (hx : ∀ x ∈ c, smL x) (hd : d.length ≤ 1048576) : zhK M c d = some ((decide (c = d), ()), ()) := by
 apply zrW
 simp only [zjU]
 by_cases hl : c.length = d.length
 ·have h := zzL c d hl hc hx c.length 0 (by omega)
  rw [show ((0 : Nat) : Int) = 0 from rfl, List.drop_zero, List.drop_zero] at h
  rw [if_neg (by simp; omega), h]
  by_cases e : c = d
  ·rw [if_pos e, decide_eq_true e]; rfl
  ·rw [if_neg e, decide_eq_false e]; rfl
 ·rw [if_pos (by simp; omega), decide_eq_false (fun e => hl (by rw [e]))]
end Go.Proofs.YtkgpnekonnopgaaGreatIr.Ev
namespace Go.Proofs.YtkgpnekonnopgaaGreatIr.Ev
open Go
set_option autoImplicit false
set_option linter.unusedVariables false
set_option linter.unusedSimpArgs false
theorem zux (a : List TStep) (ha : a.length ≤ 1048576) (hx : ∀ x ∈ a, smP x) : ∀ k i : Nat, i + k = a.length → ∀ o : List TStep, o.length = a.length → zfy M a o i = some (.inl (o.take i ++ a.drop i, ())) := by
 intro k
 induction k with
 | zero =>
  intro i hi o ho
  obtain rfl : i = a.length := by omega
  apply zmp
  simp only [zhb, Int.lt_irrefl, decide_false, Bool.false_eq_true, if_false, List.drop_length, List.append_nil]
  rw [← ho, List.take_length]
 | succ k ih =>
  intro i hi o ho
  apply zmp
  have h1 : i < a.length := by omega
  have h2 : i < o.length := by omega
  simp only [zhb]
  rw [if_pos (by simpa using h1), zd h1, zb (by omega)]
  simp only [Option.bind_some, zhg, zz0 a[i] (hx _ (List.getElem_mem h1))]
  rw [if_pos (by omega)]
  simp only [Option.bind_some, Int.toNat_natCast, List.getElem?_eq_getElem h2]
  rw [ih (i + 1) (by omega) _ (by simpa using ho)]
  rw [List.take_set, List.take_succ_eq_append_getElem h2, List.set_append_right _ _ (by simp; omega), List.drop_eq_getElem_cons h1]
  simp [Nat.min_eq_left (Nat.le_of_lt h2)]
theorem zzh (a : List TStep) (ha : a.length ≤ 1048576) (hx : ∀ x ∈ a, smP x) : zfW M a = some ((a, ()), ()) := by
 apply zui
 simp only [zlD]
 rw [if_pos (by refine ⟨by omega, by omega, trivial⟩)]
 have := zux a ha hx a.length 0 (by omega) (List.replicate a.length (0, [], [], [], ())) (by simp)
 simp only [Int.toNat_natCast]
 rw [show ((0 : Nat) : Int) = 0 from rfl] at this
 rw [this]
 simp
theorem ztT (a : List TStep) (ha : a.length ≤ 1048576) (hx : ∀ x ∈ a, smP x) : ∀ k i : Nat, i + k = a.length → zfF M a a i = some (.inl ()) := by
 intro k
 induction k with
 | zero =>
  intro i hi
  obtain rfl : i = a.length := by omega
  apply zmd
  simp only [zgL, Int.lt_irrefl, decide_false, Bool.false_eq_true, if_false]
 | succ k ih =>
  intro i hi
  apply zmd
  have h1 : i < a.length := by omega
  simp only [zgL]
  rw [if_pos (by simpa using h1), zd h1, zb (by omega)]
  simp only [Option.bind_some, zhg, zAA a[i] (hx _ (List.getElem_mem h1)), Bool.not_true, Bool.false_eq_true, if_false]
  exact ih (i + 1) (by omega)
theorem zzt (a : List TStep) (ha : a.length ≤ 1048576) (hx : ∀ x ∈ a, smP x) : zjB M a a = some ((true, ()), ()) := by
 apply zue
 simp only [zlP, bne_self_eq_false, Bool.false_eq_true, if_false]
 have := ztT a ha hx a.length 0 (by omega)
 rw [show ((0 : Nat) : Int) = 0 from rfl] at this
 rw [this]
 rfl
theorem zum (a : List TStep) (ha : a.length ≤ 1048576) (hx : ∀ x ∈ a, wlP x) : ∀ (k i : Nat) (n : Int), i + k = a.length → 0 ≤ n → n ≤ 1048576 → (∀ x ∈ a.take i, smP x) →
  ∃ r, zeQ M a n i = some r ∧ (match r with | .inl y => 0 ≤ y.1 ∧ y.1 ≤ n ∧ ∀ x ∈ a, smP x | .inr y => y.1.1 = -1) := by
 intro k
 induction k with
 | zero =>
  intro i n hi h0 hn hs
  obtain rfl : i = a.length := by omega
  refine ⟨.inl (n, ()), ziP _ _ _ (by simp [zec]), h0, Int.le_refl _, by simpa using hs⟩
 | succ k ih =>
  intro i n hi h0 hn hs
  have h1 : i < a.length := by omega
  obtain ⟨m, hm, hm1, hm2⟩ := zAF a[i] n h0 hn (hx _ (List.getElem_mem h1))
  by_cases hneg : m < 0
  ·refine ⟨.inr ((-1, ()), ()), ziP _ _ _ ?_, rfl⟩
   simp only [zec]
   rw [if_pos (by simpa using h1), zd h1]
   simp only [Option.bind_some, zhg, hm]
   rw [if_pos (by simpa using hneg)]
  ·obtain ⟨r, hr, hp⟩ := ih (i + 1) m (by omega) (by omega) (by omega) (by
    intro x hx'
    rw [List.take_succ_eq_append_getElem h1] at hx'
    rcases List.mem_append.1 hx' with h | h
    ·exact hs x h
    ·rw [List.mem_singleton.1 h]; exact hm2 (by omega))
   refine ⟨r, ziP _ _ _ ?_, ?_⟩
   ·simp only [zec]
    rw [if_pos (by simpa using h1), zd h1, zb (by omega)]
    simp only [Option.bind_some, zhg, hm]
    rw [if_neg (by simpa using hneg)]
    exact hr
   ·cases r with
    | inl y => exact ⟨hp.1, by have := hp.2.1; omega, hp.2.2⟩
    | inr y => exact hp
theorem zyO (a : List TStep) (n : Int) (hn : 0 ≤ n) (hn' : n ≤ 1048576) (ha : a.length ≤ 9223372036854775807) (hx : ∀ x ∈ a, wlP x) : ∃ r : Int, zjv M a n = some ((r, ()), ()) ∧ r ≤ n ∧ (0 ≤ r → a.length ≤ 1048576 ∧ ∀ x ∈ a, smP x) := by
 have hw : IntKind.i64.wrap (n - a.length) = n - a.length := w64 (by omega) (by omega)
 by_cases h1 : n - a.length < 0
 ·refine ⟨-1, zlR _ _ ?_, by omega, by omega⟩
  simp only [zhQ, hw]
  rw [if_pos (by simpa using h1)]
 ·obtain ⟨r, hr, hp⟩ := zum a (by omega) hx a.length 0 (n - a.length) (by omega) (by omega) (by omega) (by simp)
  rw [show ((0 : Nat) : Int) = 0 from rfl] at hr
  cases r with
  | inl y =>
   refine ⟨y.1, zlR _ _ ?_, by have := hp.2.1; omega, fun _ => ⟨by omega, hp.2.2⟩⟩
   simp only [zhQ, hw]
   rw [if_neg (by simpa using h1), hr]
   rfl
  | inr y =>
   obtain ⟨⟨y, _⟩, _⟩ := y
   simp only at hp
   subst hp
   refine ⟨-1, zlR _ _ ?_, by omega, by omega⟩
   simp only [zhQ, hw]
   rw [if_neg (by simpa using h1), hr]
   rfl
end Go.Proofs.YtkgpnekonnopgaaGreatIr.Ev
namespace Go.Proofs.YtkgpnekonnopgaaGreatIr.Ev
open Go
set_option autoImplicit false
set_option linter.unusedVariables false
set_option linter.unusedSimpArgs false
section
variable (s : TSign) (hg : gS s.1 = true) (inputs : List (List TLit)) (hi : inputs.length ≤ 1048576) (hic : ∀ c ∈ inputs, clOK s.1 c = true) (steps : List TStep) (hl : steps.length ≤ 1048576) (hx : ∀ x ∈ steps, smP x)
include hg hi hic hl hx
theorem zw2 (i : Nat) (h : i < steps.length) (hb : ∀ x ∈ steps.take i, clOK s.1 x.2.2.2.1 = true) : ∃ code : Int, zff M s inputs (steps.take i) steps[i] = some ((code, ()), ()) ∧ zka M s inputs steps i = some ((code, ()), ()) ∧ (code = 0 → clOK s.1 steps[i].2.2.2.1 = true) := by
 obtain ⟨z1, z2, z3, z4⟩ := hx _ (List.getElem_mem h)
 have ht : (steps.take i).length = i := by simp; omega
 have aI := zxx (steps.take i) steps[i].2.1 z1
 have aS := ztX i (by omega) steps[i].2.1 z1
 rw [ht] at aI
 have hi2 := zd h
 have cut : (steps.take (Int.toNat (i : Int))).drop (Int.toNat (0 : Int)) = steps.take i := by rw [Int.toNat_natCast]; rfl
 have g0 : 0 ≤ (0 : Int) ∧ (0 : Int) ≤ (i : Int) ∧ (i : Int) ≤ (steps.length : Int) := by omega
 cases ha : ofN i steps[i].2.1 with
 | false =>
  rw [ha] at aI aS
  refine ⟨2, zeY _ _ _ _ ?_, zkl _ _ _ _ ?_, fun h => by cases h⟩
  ·simp only [zcc, aI, Option.bind_some]; rfl
  ·simp only [zgE, hi2, aS, Option.bind_some]; rfl
 | true =>
 rw [ha] at aI aS
 have hps : ∀ k ∈ steps[i].2.1, 0 ≤ k ∧ k < ((steps.take i).length : Int) := by
  intro k hk
  have := List.all_eq_true.1 ha k hk
  simp only [Bool.and_eq_true, decide_eq_true_eq] at this
  rw [ht]; exact this
 obtain ⟨ok, C1, C2, m1, m2, m3⟩ := zBW s hg inputs hi hic (steps.take i) (by omega) hb steps[i].2.1 steps[i].2.2.1 z1 z2 hps steps[i].1
 cases ok with
 | false =>
  refine ⟨3, zeY _ _ _ _ ?_, zkl _ _ _ _ ?_, fun h => by cases h⟩
  ·simp only [zcc, aI, za, m1, Option.bind_some]; rfl
  ·simp only [zgE, hi2, aS, za, Option.bind_some, Bool.not_true, Bool.false_eq_true, if_false]
   rw [if_pos g0, cut, m2]
   rfl
 | true =>
 obtain ⟨e, hC⟩ := m3 rfl
 subst e
 obtain ⟨q1, q2⟩ := zco.1 hC
 have qs : ∀ x ∈ C1, smL x := fun x hx => by have := zdc (q2 x hx); exact ⟨by omega, by omega⟩
 have eI := zzH C1 steps[i].2.2.2.1 (by omega) qs z3
 have eS := zx9 C1 steps[i].2.2.2.1 (by omega) qs z3
 by_cases he : C1 = steps[i].2.2.2.1
 ·rw [decide_eq_true he] at eI eS
  refine ⟨0, zeY _ _ _ _ ?_, zkl _ _ _ _ ?_, fun _ => by rw [← he]; exact hC⟩
  ·simp only [zcc, aI, za, m1, eI, Option.bind_some]; rfl
  ·simp only [zgE, hi2, aS, za, Option.bind_some, Bool.not_true, Bool.false_eq_true, if_false]
   rw [if_pos g0, cut, m2]
   simp only [Option.bind_some, eS]
   rfl
 ·rw [decide_eq_false he] at eI eS
  refine ⟨4, zeY _ _ _ _ ?_, zkl _ _ _ _ ?_, fun h => by cases h⟩
  ·simp only [zcc, aI, za, m1, eI, Option.bind_some]; rfl
  ·simp only [zgE, hi2, aS, za, Option.bind_some, Bool.not_true, Bool.false_eq_true, if_false]
   rw [if_pos g0, cut, m2]
   simp only [Option.bind_some, eS]
   rfl
theorem zw3 : ∀ (k i : Nat), i + k = steps.length → (∀ x ∈ steps.take i, clOK s.1 x.2.2.2.1 = true) →
  (zbK M inputs steps s steps steps.length i = some (.inl ()) ∧ zcz M inputs steps s steps.length i = some (.inl ())) ∨
  ∃ code at' : Int, zbK M inputs steps s steps steps.length i = some (.inr ((code, at', true, ()), ())) ∧ zcz M inputs steps s steps.length i = some (.inr ((code, at', ()), ())) := by
 intro k
 induction k with
 | zero =>
  intro i hik _
  obtain rfl : i = steps.length := by omega
  refine .inl ⟨zet _ _ _ _ _ _ ?_, zhe _ _ _ _ _ ?_⟩
  ·simp only [zbY]
   rw [if_neg (by simp)]
  ·simp only [zdg]
   rw [if_neg (by simp)]
 | succ k ih =>
  intro i hik hb
  have h : i < steps.length := by omega
  obtain ⟨code, c1, c2, c3⟩ := zw2 s hg inputs hi hic steps hl hx i h hb
  have hlt : decide ((i : Int) < (steps.length : Int)) = true := by simp; omega
  have cut : (steps.take (Int.toNat (i : Int))).drop (Int.toNat (0 : Int)) = steps.take i := by rw [Int.toNat_natCast]; rfl
  have g0 : 0 ≤ (0 : Int) ∧ (0 : Int) ≤ (i : Int) ∧ (i : Int) ≤ (steps.length : Int) := by omega
  by_cases h0 : code = 0
  ·subst h0
   have hI : ∀ X, zbK M inputs steps s steps steps.length ((i + 1 : Nat) : Int) = X → zbY M inputs steps s steps steps.length i = X := by
    intro X hX
    simp only [zbY, hlt, zd h, Option.bind_some, if_true, za, zhg]
    rw [if_pos g0, cut, c1]
    simp only [Option.bind_some]
    rw [if_neg (by decide), zb (by omega)]
    exact hX
   have hS : ∀ X, zcz M inputs steps s steps.length ((i + 1 : Nat) : Int) = X → zdg M inputs steps s steps.length i = X := by
    intro X hX
    simp only [zdg, hlt, c2, Option.bind_some, if_true, za]
    rw [if_neg (by decide), zb (by omega)]
    exact hX
   rcases ih (i + 1) (by omega) (by
    intro x hx'
    rw [List.take_succ_eq_append_getElem h] at hx'
    rcases List.mem_append.1 hx' with q | q
    ·exact hb x q
    ·rw [List.mem_singleton.1 q]; exact c3 rfl) with ⟨a1, a2⟩ | ⟨code, at', a1, a2⟩
   ·exact .inl ⟨zet _ _ _ _ _ _ (hI _ a1), zhe _ _ _ _ _ (hS _ a2)⟩
   ·exact .inr ⟨code, at', zet _ _ _ _ _ _ (hI _ a1), zhe _ _ _ _ _ (hS _ a2)⟩
  ·have hne : (code != 0) = true := by simpa using h0
   refine .inr ⟨code, i, zet _ _ _ _ _ _ ?_, zhe _ _ _ _ _ ?_⟩
   ·simp only [zbY, hlt, zd h, Option.bind_some, if_true, za, zhg]
    rw [if_pos g0, cut, c1]
    simp only [Option.bind_some, hne, if_true]
   ·simp only [zdg, hlt, c2, Option.bind_some, if_true, za, hne]
end
theorem zvo (s : TSign) (hs : s.1.length ≤ 1048576) (inputs : List (List TLit)) (hi : inputs.length ≤ 1048576) (hix : ∀ c ∈ inputs, smC c) (steps : List TStep) (hl : steps.length ≤ 1048576) (hx : ∀ x ∈ steps, smP x) :
  ((gS s.1 && inOK s.1 inputs) = false ∧ zfz M s inputs steps = some ((0, 0, false, ()), ())) ∨
  ((gS s.1 && inOK s.1 inputs) = true ∧ ∃ code at' : Int, zfz M s inputs steps = some ((code, at', true, ()), ()) ∧ zju M s inputs steps = some ((code, at', ()), ())) := by
 have gI := zoq s (show s.1.length ≤ 17592186044416 by omega)
 cases hgi : (gS s.1 && inOK s.1 inputs) with
 | false =>
  refine .inl ⟨rfl, zhy _ _ _ ?_⟩
  simp only [zdR, za, gI, Option.bind_some]
  cases hg : gS s.1 with
  | false => rfl
  | true =>
   rw [hg, Bool.true_and] at hgi
   simp only [Bool.not_true, Bool.false_eq_true, if_false, zsr s hg inputs hi hix, hgi, Option.bind_some]
   rfl
 | true =>
  simp only [Bool.and_eq_true] at hgi
  obtain ⟨hg, hin⟩ := hgi
  have aI := zsr s hg inputs hi hix
  rw [hin] at aI
  rw [hg] at gI
  have hic : ∀ c ∈ inputs, clOK s.1 c = true := by
   simp only [inOK, Bool.and_eq_true] at hin
   exact List.all_eq_true.1 hin.2
  refine .inr ⟨rfl, ?_⟩
  by_cases h200 : (steps.length : Int) > 200
  ·refine ⟨1, 0, zhy _ _ _ ?_, zlw _ _ _ ?_⟩
   ·simp only [zdR, za, gI, aI, Option.bind_some, Bool.not_true, Bool.false_eq_true, if_false]
    rw [if_pos (by simpa using h200)]
   ·simp only [zhL]
    rw [if_pos (by simpa using h200)]
  ·rcases zw3 s hg inputs hi hic steps hl hx steps.length 0 (by omega) (by simp) with ⟨a1, a2⟩ | ⟨code, at', a1, a2⟩
   ·rw [show ((0 : Nat) : Int) = 0 from rfl] at a1 a2
    refine ⟨0, 0, zhy _ _ _ ?_, zlw _ _ _ ?_⟩
    ·simp only [zdR, za, gI, aI, a1, Option.bind_some, Sum.elim_inl, Bool.not_true, Bool.false_eq_true, if_false]
     rw [if_neg (by simpa using h200)]
    ·simp only [zhL, za, a2, Option.bind_some, Sum.elim_inl]
     rw [if_neg (by simpa using h200)]
   ·rw [show ((0 : Nat) : Int) = 0 from rfl] at a1 a2
    refine ⟨code, at', zhy _ _ _ ?_, zlw _ _ _ ?_⟩
    ·simp only [zdR, za, gI, aI, a1, Option.bind_some, Sum.elim_inr, Bool.not_true, Bool.false_eq_true, if_false]
     rw [if_neg (by simpa using h200)]
    ·simp only [zhL, za, a2, Option.bind_some, Sum.elim_inr]
     rw [if_neg (by simpa using h200)]
end Go.Proofs.YtkgpnekonnopgaaGreatIr.Ev
namespace Go.Proofs.YtkgpnekonnopgaaGreatIr.Ev
open Go
set_option autoImplicit false
set_option linter.unusedVariables false
set_option linter.unusedSimpArgs false
def clS (a : List Int) (l : List TStep) : Bool := l.all fun x => clOK a x.2.2.2.1
theorem zAT (s : TSign) (hg : gS s.1 = true) (x : TStep) (hx : smP x) : zeu M x s = some ((!clOK s.1 x.2.2.2.1, ()), ()) := by
 apply zoE
 simp only [zhi, zck, zp8 s hg x.2.2.2.1 hx.2.2.1, Option.bind_some]
theorem zAr (s : TSign) (hg : gS s.1 = true) (a : List TStep) (ha : a.length ≤ 1048576) (hx : ∀ x ∈ a, smP x) : ∀ k i : Nat, i + k = a.length → ∃ r, zt M a (s, ()) a.length i = some r ∧ (match r with | .inl _ => clS s.1 (a.drop i) = true | .inr r => 0 ≤ r.1.1 ∧ clS s.1 (a.drop i) = false) := by
 intro k
 induction k with
 | zero =>
  intro i hi
  obtain rfl : i = a.length := by omega
  refine ⟨.inl (), zaj _ _ _ _ (by simp [zq]), by simp [clS]⟩
 | succ k ih =>
  intro i hi
  have h1 : i < a.length := by omega
  obtain ⟨r, hr, hm⟩ := ih (i + 1) (by omega)
  have hc := hx _ (List.getElem_mem h1)
  have e : clS s.1 (a.drop i) = (clOK s.1 a[i].2.2.2.1 && clS s.1 (a.drop (i + 1))) := by
   rw [List.drop_eq_getElem_cons h1]; rfl
  rw [e]
  by_cases hp : clOK s.1 a[i].2.2.2.1 = true
  ·refine ⟨r, zaj _ _ _ _ ?_, by rw [hp, Bool.true_and]; exact hm⟩
   simp only [zq]
   rw [if_pos (by simpa using h1), zd h1, zb (by omega)]
   simp only [Option.bind_some, zhg, zAT s hg _ hc, hp, Bool.not_true, Bool.false_eq_true, if_false]
   exact hr
  ·rw [Bool.not_eq_true] at hp
   refine ⟨.inr (((i : Int), ()), ()), zaj _ _ _ _ ?_, Int.natCast_nonneg i, by rw [hp, Bool.false_and]⟩
   simp only [zq]
   rw [if_pos (by simpa using h1), zd h1]
   simp only [Option.bind_some, zhg, zAT s hg _ hc, hp, Bool.not_false, if_true]
theorem zyz (s : TSign) (hg : gS s.1 = true) (a : List TStep) (ha : a.length ≤ 1048576) (hx : ∀ x ∈ a, smP x) : zfQ M s a = some ((decide (a.length ≤ 200) && clS s.1 a, ()), ()) := by
 obtain ⟨r, hr, hm⟩ := zAr s hg a ha hx a.length 0 (by omega)
 rw [show ((0 : Nat) : Int) = 0 from rfl] at hr
 rw [List.drop_zero] at hm
 have key : zM M a (s, ()) = some ((!(clS s.1 a), ()), ()) := by
  apply zdi
  simp only [zal]
  cases r with
  | inl r =>
   rw [zbs a (s, ()) (r := ((-1, ()), ())) (by simp only [zW, hr, Option.bind_some, Sum.elim_inl])]
   simp only at hm
   simp [hm]
  | inr r =>
   rw [zbs a (s, ()) (r := r) (by simp only [zW, hr, Option.bind_some, Sum.elim_inr])]
   simp only at hm
   simp [hm]
 apply zpI
 simp only [ziq, zck, key, Option.bind_some, Bool.not_not]
 by_cases h : a.length ≤ 200
 ·rw [if_pos (by simp; omega), decide_eq_true h, Bool.true_and]
 ·rw [if_neg (by simp; omega), decide_eq_false h, Bool.false_and]
theorem zyW (s : TSign) (hs : s.1.length ≤ 1048576) (hg : gS s.1 = true) (a : List TStep) (ha : a.length ≤ 1048576) (hx : ∀ x ∈ a, smP x) : zjI M s a = some ((decide (a.length ≤ 200) && clS s.1 a, ()), ()) := by
 have h : ∀ k i : Nat, i + k = a.length → zfp M a s a a.length i = some (if clS s.1 (a.drop i) = true then .inl (a, s, ()) else .inr ((false, ()), ())) := by
  intro k
  induction k with
  | zero =>
   intro i hi
   obtain rfl : i = a.length := by omega
   apply zmo
   simp only [zgV, za]
   rw [if_neg (by simp), List.drop_length]
   rfl
  | succ k ih =>
   intro i hi
   have h1 : i < a.length := by omega
   obtain ⟨_, _, c1, c2⟩ := hx _ (List.getElem_mem h1)
   have e : clS s.1 (a.drop i) = (clOK s.1 a[i].2.2.2.1 && clS s.1 (a.drop (i + 1))) := by
    rw [List.drop_eq_getElem_cons h1]; rfl
   apply zmo
   simp only [zgV, za]
   rw [if_pos (by simpa using h1), zd h1, zb (by omega), e]
   simp only [Option.bind_some, zfT s hg a[i].2.2.2.1 c1 c2]
   cases clOK s.1 a[i].2.2.2.1 with
   | false => rfl
   | true => exact ih (i + 1) (by omega)
 have h0 := h a.length 0 (by omega)
 rw [show ((0 : Nat) : Int) = 0 from rfl, List.drop_zero] at h0
 apply zus
 simp only [zlB, za, h0, Option.bind_some]
 cases clS s.1 a with
 | false => simp
 | true =>
  simp only [if_true, Sum.elim_inl, zgP s (show s.1.length ≤ 17592186044416 by omega), hg, Option.bind_some, Bool.and_true]
  congr 3
  rw [decide_eq_decide]; omega
end Go.Proofs.YtkgpnekonnopgaaGreatIr.Ev
namespace Go.Proofs.YtkgpnekonnopgaaGreatIr.Ev
open Go
set_option autoImplicit false
set_option linter.unusedVariables false
set_option linter.unusedSimpArgs false
def pk : Nat → List TStep → Bool
 | _, [] => true
 | i, x :: r => ofN i x.2.1 && pk (i + 1) r
theorem zBq (a : List TStep) (ha : a.length ≤ 1048576) (hx : ∀ x ∈ a, smP x) : ∀ k i : Nat, i + k = a.length → zeh M a a a.length i = some (if pk i (a.drop i) = true then .inl () else .inr ((false, ()), ())) := by
 intro k
 induction k with
 | zero =>
  intro i hi
  obtain rfl : i = a.length := by omega
  apply zkX
  simp only [zfI]
  rw [if_neg (by simp), List.drop_length]
  rfl
 | succ k ih =>
  intro i hi
  have h1 : i < a.length := by omega
  have ht : (a.take i).length = i := by simp; omega
  have aI := zxx (a.take i) a[i].2.1 (hx _ (List.getElem_mem h1)).1
  rw [ht] at aI
  have cut : (a.take (Int.toNat (i : Int))).drop (Int.toNat (0 : Int)) = a.take i := by rw [Int.toNat_natCast]; rfl
  apply zkX
  simp only [zfI]
  rw [if_pos (by simpa using h1), zd h1, zb (by omega), List.drop_eq_getElem_cons h1, pk]
  simp only [Option.bind_some]
  rw [if_pos (by omega), cut, aI]
  simp only [Option.bind_some]
  cases ofN i a[i].2.1 with
  | false => rfl
  | true => exact ih (i + 1) (by omega)
theorem zBt (s : TSign) (a : List TStep) (ha : a.length ≤ 200) (hx : ∀ x ∈ a, smP x) : ∀ k i : Nat, i + k = a.length → zdW M a s a a.length i = some (if pk i (a.drop i) = true then .inl (a, s, ()) else .inr ((false, ()), ())) := by
 intro k
 induction k with
 | zero =>
  intro i hi
  obtain rfl : i = a.length := by omega
  apply zgQ
  simp only [zdn, za]
  rw [if_neg (by simp), List.drop_length]
  rfl
 | succ k ih =>
  intro i hi
  have h1 : i < a.length := by omega
  have aS := ztX i (by omega) a[i].2.1 (hx _ (List.getElem_mem h1)).1
  apply zgQ
  simp only [zdn, za]
  rw [if_pos (by simpa using h1), zd h1, zb (by omega), List.drop_eq_getElem_cons h1, pk]
  simp only [Option.bind_some]
  rw [if_neg (by simp; omega), aS]
  simp only [Option.bind_some]
  cases ofN i a[i].2.1 with
  | false => rfl
  | true => exact ih (i + 1) (by omega)
theorem zyC (s : TSign) (a : List TStep) (ha : a.length ≤ 1048576) (h200 : 200 < a.length) (hx : ∀ x ∈ a, smP x) : ∀ k i : Nat, i + k = 200 → zdW M a s a a.length i = some (.inr ((false, ()), ())) := by
 intro k
 induction k with
 | zero =>
  intro i hi
  obtain rfl : i = 200 := by omega
  apply zgQ
  simp only [zdn, za]
  rw [if_pos (by simp; omega), zd h200]
  simp only [Option.bind_some]
  rw [if_pos (by simp)]
 | succ k ih =>
  intro i hi
  have h1 : i < a.length := by omega
  have aS := ztX i (by omega) a[i].2.1 (hx _ (List.getElem_mem h1)).1
  apply zgQ
  simp only [zdn, za]
  rw [if_pos (by simpa using h1), zd h1, zb (by omega)]
  simp only [Option.bind_some]
  rw [if_neg (by simp; omega), aS]
  simp only [Option.bind_some]
  cases ofN i a[i].2.1 with
  | false => rfl
  | true => exact ih (i + 1) (by omega)
theorem zBm (s : TSign) (hs : s.1.length ≤ 1048576) (hg : gS s.1 = true) (a : List TStep) (ha : a.length ≤ 1048576) (hx : ∀ x ∈ a, smP x) : ∃ b : Bool, zis M s a = some ((b, ()), ()) ∧ zjA M s a = some ((b, ()), ()) := by
 have gI := zoq s (show s.1.length ≤ 17592186044416 by omega)
 rw [hg] at gI
 have sI := zyz s hg a ha hx
 have sS := zyW s hs hg a ha hx
 have lI := zBq a ha hx a.length 0 (by omega)
 rw [show ((0 : Nat) : Int) = 0 from rfl, List.drop_zero] at lI
 by_cases h200 : a.length ≤ 200
 ·have lS := zBt s a h200 hx a.length 0 (by omega)
  rw [show ((0 : Nat) : Int) = 0 from rfl, List.drop_zero] at lS
  rw [decide_eq_true h200, Bool.true_and] at sI sS
  refine ⟨clS s.1 a && pk 0 a, znW _ _ ?_, zo0 _ _ ?_⟩
  ·simp only [zii, za, gI, sI, lI, Option.bind_some]
   cases clS s.1 a <;> cases pk 0 a <;> rfl
  ·simp only [zjz, za, lS, Option.bind_some]
   cases pk 0 a with
   | false =>
    rw [Bool.and_false]; rfl
   | true =>
    simp only [if_true, Sum.elim_inl, sS, Option.bind_some, Bool.and_true]
 ·have lS := zyC s a ha (by omega) hx 200 0 (by omega)
  rw [show ((0 : Nat) : Int) = 0 from rfl] at lS
  rw [decide_eq_false h200, Bool.false_and] at sI
  refine ⟨false, znW _ _ ?_, zo0 _ _ ?_⟩
  ·simp only [zii, za, gI, sI, Option.bind_some]; rfl
  ·simp only [zjz, za, lS, Option.bind_some, Sum.elim_inr]
theorem zxi (a : List TStep) (ha : a.length ≤ 1048576) : ∀ k i : Nat, i + k = a.length →
  (zf M a () a.length i = some (.inl ()) ∧ zcA M a a.length i = some (.inl ())) ∨
  ∃ j : Int, zf M a () a.length i = some (.inr ((j, ()), ())) ∧ zcA M a a.length i = some (.inr ((j, ()), ())) := by
 intro k
 induction k with
 | zero =>
  intro i hi
  obtain rfl : i = a.length := by omega
  refine .inl ⟨zS _ _ _ _ ?_, zg2 _ _ _ ?_⟩
  ·simp only [zl]
   rw [if_neg (by simp)]
  ·simp only [zdd]
   rw [if_neg (by simp)]
 | succ k ih =>
  intro i hi
  have h1 : i < a.length := by omega
  have hlt : decide ((i : Int) < (a.length : Int)) = true := by simp; omega
  have f1 : zgo M a[i] = some ((((a[i].2.2.2.1.length : Int) == 0), ()), ()) := zqx _ rfl
  cases hb : ((a[i].2.2.2.1.length : Int) == 0) with
  | true =>
   rw [hb] at f1
   refine .inr ⟨(i : Int), zS _ _ _ _ ?_, zg2 _ _ _ ?_⟩
   ·simp only [zl, hlt, zd h1, zhg, f1, Option.bind_some, if_true]
   ·simp only [zdd, hlt, zd h1, hb, Option.bind_some, if_true]
  | false =>
   rw [hb] at f1
   have hI : ∀ X, zf M a () a.length ((i + 1 : Nat) : Int) = X → zl M a () a.length i = X := by
    intro X hX
    simp only [zl, hlt, zd h1, zhg, f1, Option.bind_some, if_true, Bool.false_eq_true, if_false]
    rw [zb (by omega)]
    exact hX
   have hS : ∀ X, zcA M a a.length ((i + 1 : Nat) : Int) = X → zdd M a a.length i = X := by
    intro X hX
    simp only [zdd, hlt, zd h1, hb, Option.bind_some, if_true, Bool.false_eq_true, if_false]
    rw [zb (by omega)]
    exact hX
   rcases ih (i + 1) (by omega) with ⟨a1, a2⟩ | ⟨j, a1, a2⟩
   ·exact .inl ⟨zS _ _ _ _ (hI _ a1), zg2 _ _ _ (hS _ a2)⟩
   ·exact .inr ⟨j, zS _ _ _ _ (hI _ a1), zg2 _ _ _ (hS _ a2)⟩
theorem zzj (a : List TStep) (ha : a.length ≤ 1048576) : ∃ z : Int, zhB M a = some ((z, ()), ()) ∧ zjw M a = some ((z, ()), ()) := by
 rcases zxi a ha a.length 0 (by omega) with ⟨a1, a2⟩ | ⟨j, a1, a2⟩
 ·rw [show ((0 : Nat) : Int) = 0 from rfl] at a1 a2
  have hx : zD M a () = some ((-1, ()), ()) := by
   apply zbC
   simp only [z7, a1, Option.bind_some, Sum.elim_inl]
  refine ⟨-1, znj _ ?_, zpe _ ?_⟩
  ·simp only [zht, hx, Option.bind_some]
  ·simp only [zjH, a2, Option.bind_some, Sum.elim_inl]
 ·rw [show ((0 : Nat) : Int) = 0 from rfl] at a1 a2
  have hx : zD M a () = some ((j, ()), ()) := by
   apply zbC
   simp only [z7, a1, Option.bind_some, Sum.elim_inr]
  refine ⟨j, znj _ ?_, zpe _ ?_⟩
  ·simp only [zht, hx, Option.bind_some]
  ·simp only [zjH, a2, Option.bind_some, Sum.elim_inr]
theorem zw7 (s : TSign) (hs : s.1.length ≤ 1048576) (inputs : List (List TLit)) (hi : inputs.length ≤ 1048576) (hix : ∀ c ∈ inputs, smC c) (steps : List TStep) (hl : steps.length ≤ 1048576) (hx : ∀ x ∈ steps, smP x) : ∃ b ok : Bool, zir M s inputs steps = some ((b, ok, ()), ()) ∧ zig M s inputs steps = some ((b, ok, ()), ()) := by
 have lS := zyx s hs inputs hi hix
 rcases zvo s hs inputs hi hix steps hl hx with ⟨hf, a1⟩ | ⟨ht, code, at', a1, a2⟩
 ·rw [hf] at lS
  refine ⟨false, false, zib _ _ _ ?_, zik _ _ _ ?_⟩
  ·simp only [zer, za, a1, Option.bind_some]; rfl
  ·simp only [zeo, za, lS, Option.bind_some]; rfl
 ·rw [ht] at lS
  simp only [Bool.and_eq_true] at ht
  obtain ⟨b, l1, l2⟩ := zBm s hs ht.1 steps hl hx
  obtain ⟨z, z1, z2⟩ := zzj steps hl
  cases b with
  | false =>
   refine ⟨false, false, zib _ _ _ ?_, zik _ _ _ ?_⟩
   ·simp only [zer, za, a1, l1, Option.bind_some]; rfl
   ·simp only [zeo, za, lS, l2, Option.bind_some]; rfl
  | true =>
   cases hc : (code == 0) with
   | true =>
    refine ⟨decide (z ≥ 0), true, zib _ _ _ ?_, zik _ _ _ ?_⟩
    ·simp only [zer, za, a1, l1, hc, z1, Option.bind_some]; rfl
    ·simp only [zeo, za, lS, l2, a2, hc, z2, Option.bind_some]; rfl
   | false =>
    refine ⟨false, true, zib _ _ _ ?_, zik _ _ _ ?_⟩
    ·simp only [zer, za, a1, l1, hc, Option.bind_some]; rfl
    ·simp only [zeo, za, lS, l2, a2, hc, Option.bind_some]; rfl
theorem zqV (s : TSign) (inputs : List (List TLit)) (steps : List TStep) (hs : s.1.length ≤ 9223372036854775807) (hi : inputs.length ≤ 9223372036854775807) (hix : ∀ c ∈ inputs, wlC c) (hl : steps.length ≤ 9223372036854775807) (hx : ∀ x ∈ steps, wlP x) : zd2 M s inputs steps = some ((true, ()), ()) := by
 obtain ⟨r1, e1, g1, k1⟩ := zAH s 1048576 (by omega) (by omega) hs
 apply zok
 by_cases h1 : r1 < 0
 ·simp only [zbO, zck, e1, Option.bind_some]
  rw [if_pos (by simpa using h1)]
 ·obtain ⟨r2, e2, g2, k2⟩ := zzg inputs r1 (by omega) g1 hi hix
  by_cases h2 : r2 < 0
  ·simp only [zbO, zck, e1, e2, Option.bind_some]
   rw [if_neg (by simpa using h1), if_pos (by simpa using h2)]
  ·obtain ⟨r3, e3, g3, k3⟩ := zyO steps r2 (by omega) (by omega) hl hx
   by_cases h3 : r3 < 0
   ·simp only [zbO, zck, e1, e2, e3, Option.bind_some]
    rw [if_neg (by simpa using h1), if_neg (by simpa using h2), if_pos (by simpa using h3)]
   ·have hs' := k1 (by omega)
    obtain ⟨hi', hix'⟩ := k2 (by omega)
    obtain ⟨hl', hx'⟩ := k3 (by omega)
    obtain ⟨b, ok, a1, a2⟩ := zw7 s hs' inputs hi' hix' steps hl' hx'
    simp only [zbO, zck, e1, e2, e3, Option.bind_some, zAk s (show s.1.length ≤ 17592186044416 by omega), zyL inputs hi' hix', zzh steps hl' hx', a1, a2, zzD s (show s.1.length ≤ 17592186044416 by omega), zx2 inputs hi' hix', zzt steps hl' hx']
    rw [if_neg (by simpa using h1), if_neg (by simpa using h2), if_neg (by simpa using h3)]
    simp
end Go.Proofs.YtkgpnekonnopgaaGreatIr.Ev
