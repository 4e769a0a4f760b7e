/- Texts laid together: PAa, PBa, PB, VAa, VAc, VAb, QD, WAc, QE, QHa, PEb, QIa, QJa, QH, QKa, WAa, WAd; no condition but those that each theorem names. -/
import Derived.Test.YtkgpnekonnopgaaGreatCsEq
namespace Go.Proofs.YtkgpnekonnopgaaGreatCs.Ev
open Go
set_option autoImplicit false
set_option linter.unusedVariables false
set_option linter.unusedSimpArgs false
theorem w64 {x : Int} (h : -9223372036854775808 ≤ x) (k : x < 9223372036854775808) : IntKind.i64.wrap x = x := by
 rw [IntKind.wrap_i64]
 omega
theorem w8 {x : Int} (h : 0 ≤ x) (k : x < 256) : IntKind.u8.wrap x = x := by
 simp only [IntKind.wrap, IntKind.bits, IntKind.signed, Bool.false_and, Bool.false_eq_true, if_false]
 omega
theorem zzG {α : Type} (xs : List α) (i : Nat) : idx xs (i : Int) = xs[i]? := by simp [idx]
theorem zvJ {α : Type} (xs : List α) : idx xs 0 = xs[0]? := by simp [idx]
theorem zd {α : Type} {xs : List α} {i : Nat} (h : i < xs.length) : idx xs (i : Int) = some xs[i] := by simp [idx, h]
theorem zb {i : Nat} (h : i < 4611686018427387904) : IntKind.i64.wrap ((i : Int) + 1) = ((i + 1 : Nat) : Int) := by
 rw [w64 (by omega) (by omega)]; rfl
abbrev TSign := List Int × Unit
abbrev TLit := Bool × List Int × List Int × Unit
def smL (x : TLit) : Prop := x.2.1.length ≤ 1048576 ∧ x.2.2.1.length ≤ 1048576
end Go.Proofs.YtkgpnekonnopgaaGreatCs.Ev
namespace Go.Proofs.YtkgpnekonnopgaaGreatCs.Ev
open Go
set_option autoImplicit false
set_option linter.unusedVariables false
set_option linter.unusedSimpArgs false
theorem zdp (x lo hi : Int) : zaw M x lo hi = some ((decide (lo ≤ x) && decide (x ≤ hi), ()), ()) := by
 apply zvS
 simp only [zn4, decide_eq_true_eq]
 by_cases h : x ≥ lo
 ·rw [if_pos h]; simp [h]
 ·rw [if_neg h]; simp; omega
theorem zvz (a : List Int) (lo up : Int) (ha : a.length ≤ 17592186044416) : ∀ k i : Nat, i + k = a.length → zgn M lo up a a.length i = some (if (a.drop i).all (fun x => decide (lo ≤ x) && decide (x ≤ up)) = true then .inl () else .inr ((false, ()), ())) := by
 intro k
 induction k with
 | zero =>
  intro i hi
  obtain rfl : i = a.length := by omega
  apply zmO
  simp [zhv]
 | succ k ih =>
  intro i hi
  apply zmO
  have h1 : i < a.length := by omega
  simp only [zhv]
  rw [if_pos (by simpa using h1), zd h1, zb (by omega)]
  simp only [Option.bind_some, zdp, ih (i + 1) (by omega)]
  rw [List.drop_eq_getElem_cons h1, List.all_cons]
  generalize (decide (lo ≤ a[i]) && decide (a[i] ≤ up)) = b
  cases b <;> rfl
theorem zwF (a : List Int) (lo hi : Int) (ha : a.length ≤ 17592186044416) : zhi M a lo hi = some ((a.all (fun x => decide (lo ≤ x) && decide (x ≤ hi)), ()), ()) := by
 apply zuR
 simp only [zm6]
 have := zvz a lo hi ha a.length 0 (by omega)
 rw [show ((0 : Nat) : Int) = 0 from rfl] at this
 rw [this, List.drop_zero]
 cases a.all (fun x => decide (lo ≤ x) && decide (x ≤ hi)) <;> simp
def gS (a : List Int) : Bool := decide (1 ≤ a.length) && (decide (a.length ≤ 10) && (a.all (fun x => decide (0 ≤ x) && decide (x ≤ 3)) && decide (a[0]? = some 0)))
theorem zin (s : TSign) (ha : s.1.length ≤ 17592186044416) : zik M s = some ((gS s.1, ()), ()) := by
 apply zsk
 simp only [zkr, zdp, zwF s.1 0 3 ha, Option.bind_some, gS]
 rcases hs : s.1 with _ | ⟨x, r⟩
 ·simp
 ·rw [zvJ]
  simp only [List.length_cons, List.getElem?_cons_zero, Option.bind_some]
  by_cases h : r.length + 1 ≤ 10
  ·rw [if_pos (by simp; omega)]
   cases (x :: r).all (fun x => decide (0 ≤ x) && decide (x ≤ 3)) <;> simp [h]
   rw [Bool.eq_iff_iff]; simp
  ·rw [if_neg (by simp; omega)]
   simp [h]
theorem zzz (x : Int) : zgR M x = some ((!(decide (0 ≤ x) && decide (x ≤ 3)), ()), ()) := by
 apply zqV
 simp only [zi7, decide_eq_true_eq]
 by_cases h : x < 0
 ·rw [if_pos h]; simp; omega
 ·rw [if_neg h]
  have h0 : 0 ≤ x := by omega
  rw [decide_eq_true h0, Bool.true_and]
  by_cases h3 : x ≤ 3
  ·rw [decide_eq_true h3, decide_eq_false (by omega)]; rfl
  ·rw [decide_eq_false h3, decide_eq_true (by omega)]; rfl
theorem zvm (a : List Int) (ha : a.length ≤ 17592186044416) : ∀ k i : Nat, i + k = a.length → ∃ r, zW M a () a.length i = some r ∧ (match r with | .inl _ => (a.drop i).all (fun x => decide (0 ≤ x) && decide (x ≤ 3)) = true | .inr r => 0 ≤ r.1.1 ∧ (a.drop i).all (fun x => decide (0 ≤ x) && decide (x ≤ 3)) = false) := by
 intro k
 induction k with
 | zero =>
  intro i hi
  obtain rfl : i = a.length := by omega
  refine ⟨.inl (), za9 _ _ _ _ (by simp [zV]), by simp⟩
 | succ k ih =>
  intro i hi
  have h1 : i < a.length := by omega
  obtain ⟨r, hr, hm⟩ := ih (i + 1) (by omega)
  rw [List.drop_eq_getElem_cons h1, List.all_cons]
  by_cases hp : (decide (0 ≤ a[i]) && decide (a[i] ≤ 3)) = true
  ·refine ⟨r, za9 _ _ _ _ ?_, by rw [hp, Bool.true_and]; exact hm⟩
   simp only [zV]
   rw [if_pos (by simpa using h1), zd h1, zb (by omega)]
   simp only [Option.bind_some, zzz, hp, Bool.not_true, Bool.false_eq_true, if_false]
   exact hr
  ·rw [Bool.not_eq_true] at hp
   refine ⟨.inr (((i : Int), ()), ()), za9 _ _ _ _ ?_, Int.natCast_nonneg i, by rw [hp, Bool.false_and]⟩
   simp only [zV]
   rw [if_pos (by simpa using h1), zd h1]
   simp only [Option.bind_some, zzz, hp, Bool.not_false, if_true]
theorem zvh (a : List Int) (ha : a.length ≤ 17592186044416) : zar M a () = some ((!(a.all (fun x => decide (0 ≤ x) && decide (x ≤ 3))), ()), ()) := by
 apply zf6
 simp only [zbc]
 obtain ⟨r, hr, hm⟩ := zvm a ha a.length 0 (by omega)
 rw [show ((0 : Nat) : Int) = 0 from rfl] at hr
 rw [List.drop_zero] at hm
 cases r with
 | inl r =>
  rw [zcI a () (r := ((-1, ()), ())) (by simp only [zaH, hr, Option.bind_some, Sum.elim_inl])]
  simp only at hm
  simp [hm]
 | inr r =>
  rw [zcI a () (r := r) (by simp only [zaH, hr, Option.bind_some, Sum.elim_inr])]
  simp only at hm
  simp [hm]
theorem zsD (s : TSign) (ha : s.1.length ≤ 17592186044416) : zii M s = some ((gS s.1, ()), ()) := by
 apply zsa
 simp only [zks, zvh s.1 ha, Option.bind_some, gS, decide_eq_true_eq]
 rcases hs : s.1 with _ | ⟨x, r⟩
 ·simp
 ·rw [zvJ]
  simp only [List.length_cons, List.getElem?_cons_zero, Option.bind_some]
  rw [if_neg (by omega)]
  by_cases h : r.length + 1 ≤ 10
  ·rw [if_neg (by omega)]
   by_cases hx : x = 0
   ·subst hx; simp [h]
   ·rw [if_pos (by simpa using hx)]; simp [hx]
  ·rw [if_pos (by omega)]
   simp [h]
theorem za (x : TSign) : (x.1, ()) = x := rfl
theorem zk (x : TLit) : (x.1, x.2.1, x.2.2.1, ()) = x := rfl
theorem zcX (x : TSign) : (x.1, ()) = x := rfl
end Go.Proofs.YtkgpnekonnopgaaGreatCs.Ev
namespace Go.Proofs.YtkgpnekonnopgaaGreatCs.Ev
open Go
set_option autoImplicit false
set_option linter.unusedVariables false
set_option linter.unusedSimpArgs false
def ar (a : List Int) (n : Int) : Int := if n < 0 then 0 else (a[n.toNat]?).getD 0
def badN (a : List Int) (n : Int) : Prop := n < -12 ∨ (a.length : Int) ≤ n
instance (a : List Int) (n : Int) : Decidable (badN a n) := inferInstanceAs (Decidable (_ ∨ _))
def sE (a : List Int) : Int → List Int → Option (List Int)
 | k, [] => if k ≤ 0 then some [] else none
 | k, n :: t => if k ≤ 0 then some (n :: t) else if badN a n then none else sE a (k - 1 + ar a n) t
theorem zmJ {a : List Int} (hg : gS a = true) (n : Int) : 0 ≤ ar a n ∧ ar a n ≤ 3 := by
 unfold ar
 split
 ·omega
 ·cases h : a[n.toNat]? with
  | none => simp
  | some x =>
   simp only [gS, Bool.and_eq_true, List.all_eq_true, decide_eq_true_eq] at hg
   have := hg.2.2.1 x (List.mem_of_getElem? h)
   simpa using this
theorem zyh {a : List Int} {n : Int} (h : ¬ badN a n) (h0 : ¬ n < 0) : idx a n = some (ar a n) := by
 unfold badN at h
 have h1 : n.toNat < a.length := by omega
 unfold ar idx
 rw [if_pos (by omega), if_neg h0, List.getElem?_eq_getElem h1]
 rfl
theorem zox (a : List Int) (t : List Int) : sE a 0 t = some t := by cases t <;> simp [sE]
theorem zpK {a : List Int} (hg : gS a = true) : ∀ (u : List Int) (j k : Int) (x : List Int), 0 ≤ j → 0 ≤ k → sE a j u = some [] → sE a (j + k) (u ++ x) = sE a k x := by
 intro u
 induction u with
 | nil =>
  intro j k x hj hk h
  simp only [sE] at h
  split at h
  ·obtain rfl : j = 0 := by omega
   simp
  ·cases h
 | cons n u ih =>
  intro j k x hj hk h
  simp only [sE] at h
  split at h
  ·cases h
  ·rename_i hj'
   split at h
   ·cases h
   ·rename_i hb
    have hn := zmJ hg n
    rw [List.cons_append]
    conv => lhs; unfold sE
    rw [if_neg (by omega), if_neg hb]
    have := ih (j - 1 + ar a n) k x (by omega) hk h
    rw [← this]
    congr 1; omega
theorem zrG {a : List Int} (hg : gS a = true) : ∀ (t : List Int) (j k : Int) (r : List Int), 0 ≤ j → 0 ≤ k → sE a (j + k) t = some r → ∃ u x, t = u ++ x ∧ sE a j u = some [] ∧ sE a k x = some r := by
 intro t
 induction t with
 | nil =>
  intro j k r hj hk h
  simp only [sE] at h
  split at h
  ·obtain rfl : j = 0 := by omega
   obtain rfl : k = 0 := by omega
   exact ⟨[], [], rfl, by simp [sE], by simpa [sE] using h⟩
  ·cases h
 | cons n t ih =>
  intro j k r hj hk h
  by_cases h0 : j = 0
  ·subst h0
   exact ⟨[], n :: t, rfl, by simp [sE], by simpa using h⟩
  ·simp only [sE] at h
   split at h
   ·omega
   ·split at h
    ·cases h
    ·rename_i hb
     have hn := zmJ hg n
     obtain ⟨u, x, rfl, h1, h2⟩ := ih (j - 1 + ar a n) k r (by omega) hk (by rw [← h]; congr 1; omega)
     refine ⟨n :: u, x, rfl, ?_, h2⟩
     unfold sE
     rw [if_neg (by omega), if_neg hb]
     exact h1
abbrev Tm (a : List Int) (u : List Int) : Prop := sE a 1 u = some []
theorem zzK {a : List Int} (hg : gS a = true) : ∀ (k : Nat) (t r : List Int), sE a k t = some r → ∃ us : List (List Int), us.length = k ∧ t = us.flatten ++ r ∧ ∀ u ∈ us, Tm a u := by
 intro k
 induction k with
 | zero =>
  intro t r h
  rw [show ((0 : Nat) : Int) = 0 from rfl, zox] at h
  obtain rfl := Option.some.inj h
  exact ⟨[], rfl, rfl, by simp⟩
 | succ k ih =>
  intro t r h
  obtain ⟨u, x, rfl, h1, h2⟩ := zrG hg t 1 k r (by omega) (by omega) (by rw [← h]; congr 1; omega)
  obtain ⟨us, hl, rfl, hu⟩ := ih x r h2
  exact ⟨u :: us, by simp [hl], by simp, by simpa using ⟨h1, hu⟩⟩
theorem Tm.parts {a : List Int} (hg : gS a = true) {u : List Int} (h : Tm a u) : ∃ (n : Int) (us : List (List Int)), u = n :: us.flatten ∧ ¬ badN a n ∧ (us.length : Int) = ar a n ∧ ∀ v ∈ us, Tm a v := by
 cases u with
 | nil => simp [Tm, sE] at h
 | cons n t =>
  simp only [Tm, sE] at h
  rw [if_neg (by omega)] at h
  split at h
  ·cases h
  ·rename_i hb
   have hn := zmJ hg n
   obtain ⟨us, hl, ht, hu⟩ := zzK hg (ar a n).toNat t [] (by rw [← h]; congr 1; omega)
   exact ⟨n, us, by rw [ht]; simp, hb, by omega, hu⟩
theorem Tm.rest {a : List Int} (hg : gS a = true) {u : List Int} (h : Tm a u) (x : List Int) : sE a 1 (u ++ x) = some x := by
 have := zpK hg u 1 0 x (by omega) (by omega) h
 rw [zox] at this
 simpa using this
theorem Tm.pos {a u : List Int} (h : Tm a u) : 0 < u.length := by
 cases u with
 | nil => simp [Tm, sE] at h
 | cons n t => simp
theorem zvk (s : TSign) (hg : gS s.1 = true) (t : List Int) (ht : t.length ≤ 1048576) : ∀ (k i : Nat) (need : Int), i + k = t.length → 0 ≤ need → need + 3 * k ≤ 4000000 →
  zdi M t i s need = some (match sE s.1 need (t.drop i) with | none => .inr (((-1 : Int), ()), ()) | some r => .inl ((t.length : Int) - r.length, ())) := by
 have hs : s.1.length ≤ 10 := by simp only [gS, Bool.and_eq_true, decide_eq_true_eq] at hg; exact hg.2.1
 intro k
 induction k with
 | zero =>
  intro i need hi h0 hn
  obtain rfl : i = t.length := by omega
  apply zal
  simp only [zX, List.drop_length, sE, decide_eq_true_eq]
  by_cases h : need > 0
  ·rw [if_pos h, if_pos (by omega), if_neg (by omega)]
  ·rw [if_neg h, if_pos (by omega)]; simp
 | succ k ih =>
  intro i need hi h0 hn
  apply zal
  have h1 : i < t.length := by omega
  rw [List.drop_eq_getElem_cons h1]
  simp only [zX, sE, decide_eq_true_eq]
  by_cases h : need > 0
  ·rw [if_pos h, if_neg (by omega), if_neg (by omega), zd h1]
   simp only [Option.bind_some, zdp]
   rw [w64 (x := (s.1.length : Int) - 1) (by omega) (by omega)]
   by_cases hb : badN s.1 t[i]
   ·rw [if_pos hb, if_pos (by unfold badN at hb; simp; omega)]
   ·rw [if_neg hb, if_neg (by unfold badN at hb; simp; omega)]
    have ha := zmJ hg t[i]
    have hw : IntKind.i64.wrap (need - 1) = need - 1 := w64 (by omega) (by omega)
    by_cases hx : t[i] ≥ 0
    ·rw [if_pos hx, zyh hb (by omega), hw]
     simp only [Option.bind_some, Sum.elim_inl]
     rw [w64 (x := need - 1 + _) (by omega) (by omega), zb (by omega)]
     exact ih (i + 1) _ (by omega) (by omega) (by omega)
    ·have : ar s.1 t[i] = 0 := by unfold ar; rw [if_pos (by omega)]
     rw [if_neg hx, hw, this]
     simp only [Option.bind_some, Sum.elim_inl]
     rw [zb (by omega), Int.add_zero]
     exact ih (i + 1) _ (by omega) (by omega) (by omega)
  ·rw [if_neg h, if_pos (by omega)]
   simp only [List.length_cons, List.length_drop]
   congr 3
   omega
theorem ztC (s : TSign) (hg : gS s.1 = true) (t : List Int) (i : Nat) (hi : i ≤ t.length) (ht : t.length ≤ 1048576) :
  zeu M s t i = some ((match sE s.1 1 (t.drop i) with | none => (-1 : Int) | some r => (t.length : Int) - r.length, ()), ()) := by
 apply ziB
 simp only [zfz]
 rw [zvk s hg t ht (t.length - i) i 1 (by omega) (by omega) (by omega)]
 cases sE s.1 1 (t.drop i) <;> rfl
theorem zAs {a : List Int} : ∀ (t : List Int) (k : Int) (r : List Int), sE a k t = some r → r.length ≤ t.length := by
 intro t
 induction t with
 | nil => intro k r h; simp only [sE] at h; split at h <;> simp_all
 | cons n t ih =>
  intro k r h
  simp only [sE] at h
  split at h
  ·obtain rfl := Option.some.inj h; simp
  ·split at h
   ·cases h
   ·have := ih _ _ h; simp; omega
def isT (a t : List Int) : Bool := decide (t.length ≤ 40) && decide (Tm a t)
theorem znj (s : TSign) (hg : gS s.1 = true) (t : List Int) (ht : t.length ≤ 1048576) : zcc M s t = some ((isT s.1 t, ()), ()) := by
 apply zhV
 have := ztC s hg t 0 (by omega) ht
 rw [show ((0 : Nat) : Int) = 0 from rfl, List.drop_zero] at this
 simp only [zeX, zdp, Option.bind_some, this, isT]
 by_cases h0 : t = []
 ·subst h0; simp [Tm, sE]
 ·have : 0 < t.length := List.length_pos_iff.2 h0
  by_cases h : t.length ≤ 40
  ·rw [if_pos (by simp; omega)]
   simp only [Option.some.injEq, Prod.mk.injEq, and_true]
   rw [Bool.eq_iff_iff]
   simp only [Bool.and_eq_true, decide_eq_true_eq, Tm, beq_iff_eq]
   cases hE : sE s.1 1 t with
   | none => simp
   | some r =>
    have := zAs _ _ _ hE
    simp only [Option.some.injEq]
    constructor
    ·intro h'; exact ⟨h, List.eq_nil_of_length_eq_zero (by omega)⟩
    ·rintro ⟨-, rfl⟩; simp
  ·rw [if_neg (by simp; omega)]
   simp [h]
theorem zxM (s : TSign) (n : Int) (h : ¬ badN s.1 n) : zd4 M s n = some ((ar s.1 n, ()), ()) := by
 apply zrA
 simp only [zjT, decide_eq_true_eq]
 by_cases hn : n < 0
 ·rw [if_pos hn]; simp [ar, hn]
 ·rw [if_neg hn, zyh h hn]; rfl
theorem zud (s : TSign) (hg : gS s.1 = true) (t : List Int) (ht : t.length ≤ 40) : ∀ (k i : Nat) (left : Int), i + k = t.length → 0 ≤ left → left + 3 * k ≤ 4000000 →
  ∃ r, zbk M s left t t.length i = some r ∧ Sum.elim (fun y => y.1 == 0) (fun r => r.1.1) r = decide (sE s.1 left (t.drop i) = some []) := by
 intro k
 induction k with
 | zero =>
  intro i left hi h0 hn
  obtain rfl : i = t.length := by omega
  refine ⟨.inl (left, ()), ziZ _ _ _ _ _ ?_, ?_⟩
  ·simp [zdH]
  ·rw [List.drop_length]
   simp only [Sum.elim_inl, sE]
   rw [Bool.eq_iff_iff]; simp; omega
 | succ k ih =>
  intro i left hi h0 hn
  have h1 : i < t.length := by omega
  rw [List.drop_eq_getElem_cons h1]
  have pre : ∀ r, (if (left == 0) = true then some (.inr ((false, ()), ())) else if decide (t[i] < -12) = true then some (.inr ((false, ()), ())) else if decide (t[i] ≥ (s.1.length : Int)) = true then some (.inr ((false, ()), ())) else (zd4 M (s.1, ()) t[i]).bind fun r2 => zbk M (s.1, ()) (IntKind.i64.wrap (left + IntKind.i64.wrap (r2.1.1 - 1))) t t.length (IntKind.i64.wrap ((i : Int) + 1))) = some r → zbk M s left t t.length i = some r := by
   intro r hr
   apply ziZ
   simp only [zdH]
   rw [if_pos (by simpa using h1), zd h1]
   exact hr
  by_cases hl : left = 0
  ·subst hl
   refine ⟨.inr ((false, ()), ()), pre _ rfl, (decide_eq_false (by rw [zox]; exact fun h => by cases h)).symm⟩
  ·by_cases hb : badN s.1 t[i]
   ·refine ⟨.inr ((false, ()), ()), pre _ ?_, by simp [sE, hb]; omega⟩
    rw [if_neg (by simpa using hl)]
    unfold badN at hb
    by_cases h2 : t[i] < -12
    ·rw [if_pos (by simpa using h2)]
    ·rw [if_neg (by simpa using h2), if_pos (by simp; omega)]
   ·have ha := zmJ hg t[i]
    obtain ⟨r, hr, hm⟩ := ih (i + 1) (left - 1 + ar s.1 t[i]) (by omega) (by omega) (by omega)
    refine ⟨r, pre _ ?_, ?_⟩
    ·have hb' := hb
     unfold badN at hb'
     rw [if_neg (by simpa using hl), if_neg (by simp; omega), if_neg (by simp; omega), zxM (s.1, ()) _ hb]
     simp only [Option.bind_some]
     rw [w64 (x := ar s.1 t[i] - 1) (by omega) (by omega), w64 (by omega) (by omega), zb (by omega), show left + (ar s.1 t[i] - 1) = left - 1 + ar s.1 t[i] by omega]
     exact hr
    ·rw [hm]
     conv => rhs; unfold sE
     rw [if_neg (by omega), if_neg hb]
theorem zr3 (s : TSign) (hg : gS s.1 = true) (t : List Int) : zcW M s t = some ((isT s.1 t, ()), ()) := by
 apply zp8
 simp only [ziC, decide_eq_true_eq, isT]
 by_cases h : t.length ≤ 40
 ·obtain ⟨r, hr, hm⟩ := zud s hg t h t.length 0 1 (by omega) (by omega) (by omega)
  rw [show ((0 : Nat) : Int) = 0 from rfl] at hr
  rw [List.drop_zero] at hm
  rw [if_neg (by omega), show ((s.1, ()) : TSign) = s from rfl, hr]
  cases r with
  | inl r => simp only [Sum.elim_inl, Option.bind_some] at hm ⊢; rw [hm]; simp [h, Tm]
  | inr r => obtain ⟨⟨b, _⟩, _⟩ := r; simp only [Sum.elim_inr, Option.bind_some] at hm ⊢; rw [hm]; simp [h, Tm]
 ·rw [if_pos (by omega)]; simp [h]
end Go.Proofs.YtkgpnekonnopgaaGreatCs.Ev
namespace Go.Proofs.YtkgpnekonnopgaaGreatCs.Ev
open Go
set_option autoImplicit false
set_option linter.unusedVariables false
set_option linter.unusedSimpArgs false
def rp (σ : Int → List Int) (n : Int) : List Int := if n < 0 ∧ 0 < (σ (-1 - n)).length then σ (-1 - n) else [n]
def apS (σ : Int → List Int) (T : List Int) : List Int := T.flatMap (rp σ)
theorem zAv {σ : Int → List Int} (h : ∀ v, (σ v).length ≤ 60) (n : Int) : (rp σ n).length ≤ 60 := by
 unfold rp
 split
 ·exact h _
 ·simp
theorem zgc {σ : Int → List Int} (h : ∀ v, (σ v).length ≤ 60) : ∀ T : List Int, (apS σ T).length ≤ 60 * T.length
 | [] => by simp [apS]
 | n :: T => by
  have h1 := zAv h n
  have h2 := zgc h T
  simp only [apS, List.flatMap_cons, List.length_append, List.length_cons] at h2 ⊢
  omega
theorem zfD (σ : Int → List Int) (n : Int) (t : List Int) : apS σ (n :: t) = rp σ n ++ apS σ t := by simp only [apS, List.flatMap_cons]
theorem zxk (σ : Int → List Int) (t u : List Int) : apS σ (t ++ u) = apS σ t ++ apS σ u := by simp only [apS, List.flatMap_append]
theorem zoi {σ : Int → List Int} {n : Int} (h : 0 ≤ n) : rp σ n = [n] := by unfold rp; rw [if_neg (fun q => by omega)]
theorem zk2 {σ : Int → List Int} {n : Int} (h : σ (-1 - n) = []) : rp σ n = [n] := by unfold rp; rw [if_neg (fun q => by rw [h] at q; simp at q)]
theorem zkT {σ : Int → List Int} {n : Int} (hn : n < 0) (h : σ (-1 - n) ≠ []) : rp σ n = σ (-1 - n) := by unfold rp; rw [if_pos ⟨hn, List.length_pos_iff.2 h⟩]
theorem zAz {a : List Int} (hg : gS a = true) {σ : Int → List Int} (hσ : ∀ v, σ v ≠ [] → Tm a (σ v)) : ∀ (t : List Int) (k : Int), sE a k t = some [] → sE a k (apS σ t) = some [] := by
 intro t
 induction t with
 | nil => intro k h; exact h
 | cons n r ih =>
  intro k h
  rw [zfD]
  by_cases hk : k ≤ 0
  ·simp only [sE, if_pos hk] at h
   cases h
  ·simp only [sE, if_neg hk] at h
   by_cases hb : badN a n
   ·rw [if_pos hb] at h; cases h
   ·rw [if_neg hb] at h
    by_cases hs : n < 0 ∧ σ (-1 - n) ≠ []
    ·rw [zkT hs.1 hs.2]
     have h1 : ar a n = 0 := by unfold ar; rw [if_pos hs.1]
     rw [h1] at h
     have hT : sE a 1 (σ (-1 - n)) = some [] := hσ _ hs.2
     have := zpK hg (σ (-1 - n)) 1 (k - 1) (apS σ r) (by omega) (by omega) hT
     rw [show 1 + (k - 1) = k by omega] at this
     rw [this]
     exact ih _ (by rw [show k - 1 = k - 1 + 0 by omega]; exact h)
    ·have hr : rp σ n = [n] := by
      by_cases hn : n < 0
      ·exact zk2 (by
        by_cases e : σ (-1 - n) = []
        ·exact e
        ·exact absurd ⟨hn, e⟩ hs)
      ·exact zoi (by omega)
     rw [hr, List.singleton_append]
     simp only [sE, if_neg hk, if_neg hb]
     exact ih _ h
theorem zj1 {a : List Int} (hg : gS a = true) {σ : Int → List Int} (hσ : ∀ v, σ v ≠ [] → Tm a (σ v)) {t : List Int} (h : Tm a t) : Tm a (apS σ t) := zAz hg hσ t 1 h
theorem ztP {a : List Int} (hg : gS a = true) {x z : List Int} (h : Tm a x) (k : Tm a (x ++ z)) : z = [] := by
 have := zpK hg x 1 0 z (by omega) (by omega) h
 rw [show (1 : Int) + 0 = 1 from rfl, zox] at this
 have k' : sE a 1 (x ++ z) = some [] := k
 rw [k'] at this
 exact (Option.some.inj this).symm
def lcp : List Int → List Int → Nat
 | n :: x, m :: y => if n = m then lcp x y + 1 else 0
 | _, _ => 0
theorem zsH : ∀ (x y : List Int), lcp x y ≤ x.length ∧ lcp x y ≤ y.length
 | [], _ => by simp [lcp]
 | _ :: _, [] => by simp [lcp]
 | n :: x, m :: y => by
  have := zsH x y
  simp only [lcp, List.length_cons]
  split <;> omega
theorem zuE : ∀ (x y : List Int), x.take (lcp x y) = y.take (lcp x y)
 | [], y => by simp [lcp]
 | _ :: _, [] => by simp [lcp]
 | n :: x, m :: y => by
  simp only [lcp]
  split
  ·rename_i h; rw [h, List.take_succ_cons, List.take_succ_cons, zuE x y]
  ·simp
theorem zsh : ∀ (x y : List Int) (h1 : lcp x y < x.length) (h2 : lcp x y < y.length), x[lcp x y] ≠ y[lcp x y]
 | [], _, h, _ => by simp at h
 | _ :: _, [], _, h => by simp at h
 | n :: x, m :: y, h1, h2 => by
  by_cases e : n = m
  ·have e1 : lcp (n :: x) (m :: y) = lcp x y + 1 := by simp only [lcp, if_pos e]
   simp only [e1] at h1 h2 ⊢
   simpa using zsh x y (by simpa using h1) (by simpa using h2)
  ·have e1 : lcp (n :: x) (m :: y) = 0 := by simp only [lcp, if_neg e]
   simp only [e1]
   simpa using e
theorem ztu : ∀ (x y : List Int) (i : Nat), i < lcp x y → x[i]? = y[i]?
 | [], _, _, h => by simp [lcp] at h
 | _ :: _, [], _, h => by simp [lcp] at h
 | n :: x, m :: y, i, h => by
  simp only [lcp] at h
  split at h
  ·rename_i e
   cases i with
   | zero => simp [e]
   | succ i => simpa using ztu x y i (by omega)
  ·omega
theorem zwq {a : List Int} (hg : gS a = true) {x y : List Int} (hx : Tm a x) (hy : Tm a y) (h : lcp x y = x.length ∨ lcp x y = y.length) : x = y := by
 have ht := zuE x y
 rcases h with h | h
 ·rw [h, List.take_length] at ht
  have e : y = x ++ y.drop x.length := by
   conv => lhs; rw [← List.take_append_drop x.length y]
   rw [← ht]
  have := ztP hg hx (by rw [← e]; exact hy)
  rw [e, this, List.append_nil]
 ·rw [h, List.take_length] at ht
  have e : x = y ++ x.drop y.length := by
   conv => lhs; rw [← List.take_append_drop y.length x]
   rw [ht]
  have := ztP hg hy (by rw [← e]; exact hx)
  rw [e, this, List.append_nil]
end Go.Proofs.YtkgpnekonnopgaaGreatCs.Ev
namespace Go.Proofs.YtkgpnekonnopgaaGreatCs.Ev
open Go
set_option autoImplicit false
set_option linter.unusedVariables false
set_option linter.unusedSimpArgs false
def SubF (sub : List (List Int)) (σ : Int → List Int) : Prop := sub.length = 12 ∧ ∀ v, 0 ≤ v → v ≤ 11 → sub[v.toNat]? = some (σ v)
theorem SubF.idx {sub : List (List Int)} {σ : Int → List Int} (h : SubF sub σ) {v : Int} (v0 : 0 ≤ v) (v1 : v ≤ 11) : idx sub v = some (σ v) := by
 have := h.2 v v0 v1
 obtain ⟨q1, q2⟩ := List.getElem?_eq_some_iff.1 this
 have e := zd (xs := sub) q1
 rw [show ((v.toNat : Nat) : Int) = v by omega, q2] at e
 exact e
theorem zwu {σ : Int → List Int} (h : ∀ v, (σ v).length ≤ 100000) (n : Int) : (rp σ n).length ≤ 100000 := by
 unfold rp
 split
 ·exact h _
 ·simp
theorem zum (sub : List (List Int)) (σ : Int → List Int) (hσ : SubF sub σ) (hb : ∀ v, (σ v).length ≤ 100000) (T : List Int) (hT : T.length ≤ 100) (hv : ∀ n ∈ T, -12 ≤ n) :
  ∀ k i : Nat, i + k = T.length → ∀ o : List Int, o.length ≤ 100000 * i → zdx M sub o T T.length i = some (.inl (o ++ apS σ (T.drop i), ())) := by
 intro k
 induction k with
 | zero =>
  intro i hi o ho
  obtain rfl : i = T.length := by omega
  apply zly
  simp only [zgk]
  rw [if_neg (by simp)]
  simp [apS]
 | succ k ih =>
  intro i hi o ho
  have h1 : i < T.length := by omega
  have h2 := hv _ (List.getElem_mem h1)
  have h3 := zwu hb T[i]
  have h4 := hb (-1 - T[i])
  have hs : apS σ (T.drop i) = rp σ T[i] ++ apS σ (T.drop (i + 1)) := by rw [List.drop_eq_getElem_cons h1]; simp only [apS, List.flatMap_cons]
  have go : ∀ x : List Int, rp σ T[i] = x → zdx M sub (o ++ x) T T.length ((i + 1 : Nat) : Int) = some (.inl (o ++ apS σ (T.drop i), ())) := by
   intro x hx
   subst hx
   rw [ih (i + 1) (by omega) _ (by simp; omega), hs, List.append_assoc]
  apply zly
  simp only [zgk]
  rw [if_pos (by simpa using h1), zd h1]
  simp only [Option.bind_some]
  by_cases hn : T[i] < 0
  ·rw [if_pos (by simpa using hn), w64 (x := -1 - T[i]) (by omega) (by omega), hσ.idx (by omega) (by omega)]
   simp only [Option.bind_some]
   by_cases hl : 0 < (σ (-1 - T[i])).length
   ·rw [if_pos (by simp; omega), if_pos (by omega)]
    simp only [Option.bind_some, Sum.elim_inl]
    rw [zb (by omega)]
    exact go _ (by unfold rp; rw [if_pos ⟨hn, hl⟩])
   ·rw [if_neg (by simp only [decide_eq_true_eq]; omega), if_pos (by simp; omega)]
    simp only [Option.bind_some, Sum.elim_inl]
    rw [zb (by omega)]
    exact go _ (by unfold rp; rw [if_neg (fun q => hl q.2)])
  ·rw [if_neg (by simpa using hn), if_pos (by simp; omega)]
   simp only [Option.bind_some, Sum.elim_inl]
   rw [zb (by omega)]
   exact go _ (by unfold rp; rw [if_neg (fun q => hn q.1)])
theorem zdj (sub : List (List Int)) (σ : Int → List Int) (hσ : SubF sub σ) (hb : ∀ v, (σ v).length ≤ 100000) (T : List Int) (hT : T.length ≤ 100) (hv : ∀ n ∈ T, -12 ≤ n) : zt M sub T = some ((apS σ T, ()), ()) := by
 apply zts
 have := zum sub σ hσ hb T hT hv T.length 0 (by omega) [] (by simp)
 rw [show ((0 : Nat) : Int) = 0 from rfl, List.drop_zero, List.nil_append] at this
 simp only [zkU, this, Option.bind_some, Sum.elim_inl]
end Go.Proofs.YtkgpnekonnopgaaGreatCs.Ev
namespace Go.Proofs.YtkgpnekonnopgaaGreatCs.Ev
open Go
set_option autoImplicit false
set_option linter.unusedVariables false
set_option linter.unusedSimpArgs false
def oneS (n : Int) (t : List Int) : Int → List Int := fun u => if u = -1 - n then t else []
def bindS (σ : Int → List Int) (n : Int) (t : List Int) : Int → List Int := fun u => if u = -1 - n then t else if σ u ≠ [] then apS (oneS n t) (σ u) else []
def Free (σ : Int → List Int) (x : List Int) : Prop := ∀ m ∈ x, m < 0 → σ (-1 - m) = []
theorem zzF (σ : Int → List Int) (n : Int) : rp σ n ≠ [] := by
 unfold rp
 split
 ·rename_i h; exact List.length_pos_iff.1 h.2
 ·simp
theorem zvN (σ : Int → List Int) {t : List Int} (h : t ≠ []) : apS σ t ≠ [] := by
 cases t with
 | nil => exact absurd rfl h
 | cons n r =>
  rw [zfD]
  have := zzF σ n
  cases hr : rp σ n with
  | nil => exact absurd hr this
  | cons _ _ => simp
theorem zxp (σ : Int → List Int) : ∀ t : List Int, t.length ≤ (apS σ t).length
 | [] => by simp [apS]
 | n :: t => by
  have h1 := zxp σ t
  have h2 := List.length_pos_iff.2 (zzF σ n)
  rw [zfD]; simp; omega
theorem zrI {σ : Int → List Int} : ∀ {x : List Int}, Free σ x → apS σ x = x
 | [], _ => rfl
 | n :: x, h => by
  rw [zfD, zrI (fun m hm => h m (List.mem_cons_of_mem _ hm))]
  have : rp σ n = [n] := by
   by_cases hn : n < 0
   ·exact zk2 (h n (List.mem_cons_self ..) hn)
   ·exact zoi (by omega)
  rw [this]; rfl
theorem zvj (n k : Int) (t : List Int) (hn : n < 0) (ht : t ≠ []) : rp (oneS n t) k = if k = n then t else [k] := by
 by_cases h : k = n
 ·subst h
  rw [if_pos rfl, zkT hn (by unfold oneS; rw [if_pos rfl]; exact ht)]
  unfold oneS; rw [if_pos rfl]
 ·rw [if_neg h]
  exact zk2 (by unfold oneS; rw [if_neg (by omega)])
theorem zwE {n m : Int} {t : List Int} (hn : n < 0) (ht : t ≠ []) : ∀ {x : List Int}, m ∈ apS (oneS n t) x → (m ∈ x ∧ m ≠ n) ∨ m ∈ t
 | [], h => by cases h
 | k :: x, h => by
  rw [zfD, zvj n k t hn ht, List.mem_append] at h
  rcases h with h | h
  ·split at h
   ·exact .inr h
   ·rename_i hk
    rw [List.mem_singleton.1 h]
    exact .inl ⟨List.mem_cons_self .., hk⟩
  ·rcases zwE hn ht h with ⟨h1, h2⟩ | h1
   ·exact .inl ⟨List.mem_cons_of_mem _ h1, h2⟩
   ·exact .inr h1
section
variable {σ : Int → List Int} {n : Int} {t : List Int} (hn : n < 0) (ht : t ≠ []) (hb : σ (-1 - n) = [])
include hn ht hb
theorem zrO : ∀ x : List Int, apS (bindS σ n t) x = apS (oneS n t) (apS σ x)
 | [] => rfl
 | k :: x => by
  rw [zfD, zfD, zxk, zrO x]
  congr 1
  by_cases hk : k < 0
  ·by_cases e : k = n
   ·subst e
    rw [zk2 hb, zkT hk (by unfold bindS; rw [if_pos rfl]; exact ht)]
    show bindS σ k t (-1 - k) = apS (oneS k t) [k]
    rw [zfD, zvj k k t hn ht, if_pos rfl]
    unfold bindS; rw [if_pos rfl]; simp [apS]
   ·by_cases hs : σ (-1 - k) = []
    ·rw [zk2 hs, zk2 (by unfold bindS; rw [if_neg (by omega), if_neg (by simpa using hs)]), zfD, zvj n k t hn ht, if_neg e]
     rfl
    ·have hbs : bindS σ n t (-1 - k) = apS (oneS n t) (σ (-1 - k)) := by unfold bindS; rw [if_neg (by omega), if_pos hs]
     rw [zkT hk hs, zkT hk (by rw [hbs]; exact zvN _ hs), hbs]
  ·rw [zoi (by omega), zoi (by omega), zfD, zoi (by omega)]
   rfl
omit hb in
theorem Free.bind {x : List Int} (hx : Free σ x) (hf : Free σ t) (hnt : n ∉ t) : Free (bindS σ n t) (apS (oneS n t) x) := by
 intro m hm h0
 rcases zwE hn ht hm with ⟨h1, h2⟩ | h1
 ·unfold bindS
  rw [if_neg (by omega), if_neg (by simpa using hx m h1 h0)]
 ·have h2 : m ≠ n := fun e => hnt (e ▸ h1)
  unfold bindS
  rw [if_neg (by omega), if_neg (by simpa using hf m h1 h0)]
omit hb in
theorem zym (hi : ∀ u, Free σ (σ u)) (hf : Free σ t) (hnt : n ∉ t) : ∀ u, Free (bindS σ n t) (bindS σ n t u) := by
 intro u
 have htt : apS (oneS n t) t = t := zrI (fun m hm h0 => by
  unfold oneS; rw [if_neg (fun e => hnt (by rw [show n = m by omega]; exact hm))])
 have key := Free.bind hn ht hf hf hnt
 rw [htt] at key
 by_cases e : u = -1 - n
 ·have : bindS σ n t u = t := by unfold bindS; rw [if_pos e]
  rw [this]; exact key
 ·by_cases hs : σ u = []
  ·have : bindS σ n t u = [] := by unfold bindS; rw [if_neg e, if_neg (by simpa using hs)]
   rw [this]; intro m hm; cases hm
  ·have : bindS σ n t u = apS (oneS n t) (σ u) := by unfold bindS; rw [if_neg e, if_pos hs]
   rw [this]; exact Free.bind hn ht (hi u) hf hnt
end
theorem zz4 {a : List Int} {n : Int} {t : List Int} (h : Tm a t) : ∀ v, oneS n t v ≠ [] → Tm a (oneS n t v) := by
 intro v hv
 unfold oneS at hv ⊢
 split
 ·exact h
 ·rename_i e; rw [if_neg e] at hv; exact absurd rfl hv
theorem zyM {a : List Int} (hg : gS a = true) {σ : Int → List Int} {n : Int} {t : List Int} (hσ : ∀ v, σ v ≠ [] → Tm a (σ v)) (h : Tm a t) : ∀ v, bindS σ n t v ≠ [] → Tm a (bindS σ n t v) := by
 intro v hv
 unfold bindS at hv ⊢
 split
 ·exact h
 ·rename_i e
  rw [if_neg e] at hv
  split
  ·rename_i hs
   exact zj1 hg (zz4 h) (hσ v hs)
  ·rename_i hs; rw [if_neg hs] at hv; exact absurd rfl hv
def nbound (σ : Int → List Int) : Nat := ((List.range 12).filter fun u : Nat => !(σ (u : Int)).isEmpty).length
theorem ztT (σ : Int → List Int) : nbound σ ≤ 12 := by
 unfold nbound
 exact Nat.le_trans (List.length_filter_le _ _) (by simp)
theorem zvY {σ : Int → List Int} {n : Int} {t : List Int} (hn : n < 0) (h12 : -12 ≤ n) (ht : t ≠ []) (hb : σ (-1 - n) = []) : nbound σ < nbound (bindS σ n t) := by
 unfold nbound
 have hmono : ∀ u : Nat, (!(σ (u : Int)).isEmpty) = true → (!(bindS σ n t (u : Int)).isEmpty) = true := by
  intro u hu
  simp only [Bool.not_eq_true', List.isEmpty_eq_false_iff] at hu ⊢
  unfold bindS
  split
  ·exact ht
  ·first
   | exact zvN _ hu
   | (rw [if_pos hu]; exact zvN _ hu)
 have gen : ∀ (l : List Nat) (w : Nat), w ∈ l → (σ (w : Int)) = [] → bindS σ n t (w : Int) ≠ [] → (l.filter fun u : Nat => !(σ (u : Int)).isEmpty).length < (l.filter fun u : Nat => !(bindS σ n t (u : Int)).isEmpty).length := by
  intro l
  induction l with
  | nil => intro w hw; cases hw
  | cons u r ih =>
   intro w hw h1 h2
   have hle : ∀ l : List Nat, (l.filter fun u : Nat => !(σ (u : Int)).isEmpty).length ≤ (l.filter fun u : Nat => !(bindS σ n t (u : Int)).isEmpty).length := by
    intro l
    induction l with
    | nil => simp
    | cons v q ihq =>
     simp only [List.filter_cons]
     by_cases hv : (!(σ (v : Int)).isEmpty) = true
     ·rw [if_pos hv, if_pos (hmono v hv)]; simp; exact ihq
     ·rw [if_neg hv]
      split
      ·simp; omega
      ·exact ihq
   simp only [List.filter_cons]
   rcases List.mem_cons.1 hw with rfl | hw
   ·rw [if_neg (by simp [h1]), if_pos (by simpa using h2)]
    have := hle r
    simp; omega
   ·have hr := ih w hw h1 h2
    by_cases hv : (!(σ (u : Int)).isEmpty) = true
    ·rw [if_pos hv, if_pos (hmono u hv)]; simp; exact hr
    ·rw [if_neg hv]
     split
     ·simp; omega
     ·exact hr
 refine gen _ (-1 - n).toNat (by simp; omega) ?_ ?_
 ·rw [show (((-1 - n).toNat : Nat) : Int) = -1 - n by omega]; exact hb
 ·rw [show (((-1 - n).toNat : Nat) : Int) = -1 - n by omega]
  unfold bindS; rw [if_pos rfl]; exact ht
end Go.Proofs.YtkgpnekonnopgaaGreatCs.Ev
namespace Go.Proofs.YtkgpnekonnopgaaGreatCs.Ev
open Go
set_option autoImplicit false
set_option linter.unusedVariables false
set_option linter.unusedSimpArgs false
theorem zu9 (a : List Int) (x : Int) (ha : a.length ≤ 17592186044416) : ∀ k i : Nat, i + k = a.length → ∃ r, zbS M a x a.length i = some r ∧ (match r with | .inl _ => x ∉ a.drop i | .inr r => 0 ≤ r.1.1 ∧ x ∈ a.drop i) := by
 intro k
 induction k with
 | zero =>
  intro i hi
  obtain rfl : i = a.length := by omega
  exact ⟨.inl (), zeY _ _ _ _ (by simp [zbG]), by simp⟩
 | succ k ih =>
  intro i hi
  have h1 : i < a.length := by omega
  obtain ⟨r, hr, hm⟩ := ih (i + 1) (by omega)
  rw [List.drop_eq_getElem_cons h1]
  by_cases hx : x = a[i]
  ·refine ⟨.inr (((i : Int), ()), ()), zeY _ _ _ _ ?_, Int.natCast_nonneg i, hx ▸ List.mem_cons_self⟩
   simp only [zbG]
   rw [if_pos (by simpa using h1), zd h1]
   simp only [Option.bind_some]
   rw [if_pos (by simpa using hx)]
  ·refine ⟨r, zeY _ _ _ _ ?_, ?_⟩
   ·simp only [zbG]
    rw [if_pos (by simpa using h1), zd h1]
    simp only [Option.bind_some]
    rw [if_neg (by simpa using hx), zb (by omega)]
    exact hr
   ·cases r with
    | inl r => simp only [List.mem_cons, not_or]; exact ⟨hx, hm⟩
    | inr r => exact ⟨hm.1, List.mem_cons_of_mem _ hm.2⟩
theorem zmF (a : List Int) (x : Int) (ha : a.length ≤ 17592186044416) : zaX M a x = some ((decide (x ∈ a), ()), ()) := by
 obtain ⟨r, hr, hm⟩ := zu9 a x ha a.length 0 (by omega)
 rw [show ((0 : Nat) : Int) = 0 from rfl] at hr
 rw [List.drop_zero] at hm
 apply zmD
 cases r with
 | inl r =>
  rw [zc7, zjl a x (r := ((-1, ()), ())) (by simp only [zed, hr, Option.bind_some, Sum.elim_inl])]
  have : decide (x ∈ a) = false := by simpa using hm
  rw [this]; rfl
 | inr r =>
  rw [zc7, zjl a x (r := r) (by simp only [zed, hr, Option.bind_some, Sum.elim_inr])]
  have : decide (x ∈ a) = true := by simpa using hm.2
  rw [this]
  simp [hm.1]
def Up (l : List Int) : Prop := l.Pairwise (· < ·)
theorem Up.ext {l k : List Int} (hl : Up l) (hk : Up k) (h : ∀ x, x ∈ l ↔ x ∈ k) : l = k := by
 induction l generalizing k with
 | nil =>
  cases k with
  | nil => rfl
  | cons y k => exact absurd ((h y).2 (by simp)) (by simp)
 | cons x l ih =>
  cases k with
  | nil => exact absurd ((h x).1 (by simp)) (by simp)
  | cons y k =>
   have hl' := List.pairwise_cons.1 hl
   have hk' := List.pairwise_cons.1 hk
   have hxy : x = y := by
    have a1 := (h x).1 (by simp)
    have a2 := (h y).2 (by simp)
    rcases List.mem_cons.1 a1 with a1 | a1
    ·exact a1
    ·rcases List.mem_cons.1 a2 with a2 | a2
     ·exact a2.symm
     ·have := hl'.1 _ a2; have := hk'.1 _ a1; omega
   subst hxy
   rw [ih hl'.2 hk'.2 fun z => ?_]
   constructor
   ·intro hz
    rcases List.mem_cons.1 ((h z).1 (by simp [hz])) with e | e
    ·have := hl'.1 _ hz; omega
    ·exact e
   ·intro hz
    rcases List.mem_cons.1 ((h z).2 (by simp [hz])) with e | e
    ·have := hk'.1 _ hz; omega
    ·exact e
def upTo (p : Int → Bool) : List Int := ((List.range 12).map Int.ofNat).filter p
theorem zwG (p : Int → Bool) : Up (upTo p) := by
 unfold Up upTo
 exact List.Pairwise.filter _ (by decide)
theorem ziv {p : Int → Bool} {v : Int} : v ∈ upTo p ↔ 0 ≤ v ∧ v ≤ 11 ∧ p v = true := by
 simp only [upTo, List.mem_filter, List.mem_map, List.mem_range]
 constructor
 ·rintro ⟨⟨n, h, rfl⟩, hp⟩
  exact ⟨Int.natCast_nonneg n, by simp only [Int.ofNat_eq_natCast]; omega, hp⟩
 ·rintro ⟨h1, h2, hp⟩
  exact ⟨⟨v.toNat, by omega, by simp only [Int.ofNat_eq_natCast]; omega⟩, hp⟩
theorem zrZ (p : Int → Bool) : (upTo p).length ≤ 12 := by
 unfold upTo
 exact Nat.le_trans (List.length_filter_le _ _) (by simp)
theorem zx3 (p : Int → Bool) (i : Nat) (hi : i ≤ 12) : ∀ o, o = (((List.range i).map Int.ofNat).filter p) → (i < 12 → ((((List.range (i + 1)).map Int.ofNat).filter p) = if p i = true then o ++ [(i : Int)] else o)) := by
 intro o ho _
 subst ho
 rw [List.range_succ, List.map_append, List.filter_append]
 simp only [List.map_cons, List.map_nil, Int.ofNat_eq_natCast]
 cases h : p i <;> simp [h]
def putN : List Int → Int → List Int
 | [], n => [n]
 | x :: r, n => if x < n then x :: putN r n else if x = n then x :: r else n :: x :: r
theorem zvr {l : List Int} {n x : Int} : x ∈ putN l n ↔ x ∈ l ∨ x = n := by
 induction l with
 | nil => simp [putN]
 | cons y r ih =>
  simp only [putN]
  split
  ·simp only [List.mem_cons, ih, or_assoc]
  ·split
   ·rename_i h; subst h
    simp only [List.mem_cons]
    constructor
    ·intro h; exact .inl h
    ·rintro (h | rfl)
     ·exact h
     ·exact .inl rfl
   ·simp only [List.mem_cons]
    constructor
    ·rintro (h | h)
     ·exact .inr h
     ·exact .inl h
    ·rintro (h | h)
     ·exact .inr h
     ·exact .inl h
theorem zAf {l : List Int} (h : Up l) (n : Int) : Up (putN l n) := by
 induction l with
 | nil => simp [putN, Up]
 | cons y r ih =>
  have h' := List.pairwise_cons.1 h
  simp only [putN]
  split
  ·refine List.pairwise_cons.2 ⟨fun z hz => ?_, ih h'.2⟩
   rcases zvr.1 hz with hz | rfl
   ·exact h'.1 _ hz
   ·assumption
  ·split
   ·exact h
   ·refine List.pairwise_cons.2 ⟨fun z hz => ?_, h⟩
    rcases List.mem_cons.1 hz with rfl | hz
    ·omega
    ·have := h'.1 _ hz; omega
theorem zrQ (l : List Int) (n : Int) : (putN l n).length ≤ l.length + 1 := by
 induction l with
 | nil => simp [putN]
 | cons y r ih =>
  simp only [putN]
  split
  ·simp only [List.length_cons]; omega
  ·split <;> simp
theorem zsx (n : Int) : ∀ (P R : List Int), (∀ x ∈ P, x < n) → (∀ y, R.head? = some y → n ≤ y) → putN (P ++ R) n = if R.head? = some n then P ++ R else P ++ n :: R
 | [], [], _, _ => by simp [putN]
 | [], y :: R, _, h => by
  have := h y rfl
  simp only [List.nil_append, putN, List.head?_cons, Option.some.injEq]
  rw [if_neg (by omega)]
 | x :: P, R, h, h' => by
  have ih := zsx n P R (fun y hy => h y (by simp [hy])) h'
  simp only [List.cons_append, putN]
  rw [if_pos (h x (by simp)), ih]
  split <;> rfl
theorem zxf (l : List Int) (hl : l.length ≤ 100000) (n : Int) : ∀ k i : Nat, i + k = l.length → (∀ x ∈ l.take i, x < n) → ∃ j : Nat, j ≤ l.length ∧ zgm M l n i = some (.inl (l, n, j, ())) ∧ (∀ x ∈ l.take j, x < n) ∧ (∀ y, (l.drop j).head? = some y → n ≤ y) := by
 intro k
 induction k with
 | zero =>
  intro i hi h
  obtain rfl : i = l.length := by omega
  exact ⟨l.length, Nat.le_refl _, zjQ _ _ _ (by simp [zfP]), h, by simp⟩
 | succ k ih =>
  intro i hi h
  have h1 : i < l.length := by omega
  by_cases hx : l[i] < n
  ·obtain ⟨j, g2, g3, g4⟩ := ih (i + 1) (by omega) (by
    intro x hx'
    rw [List.take_succ_eq_append_getElem h1, List.mem_append] at hx'
    rcases hx' with hx' | hx'
    ·exact h x hx'
    ·simp at hx'; omega)
   refine ⟨j, g2, zjQ _ _ _ ?_, g4⟩
   simp only [zfP]
   rw [if_pos (by simpa using h1), if_pos (by omega), Int.toNat_natCast, List.getElem?_eq_getElem h1]
   simp only [Option.bind_some]
   rw [if_pos (by simpa using hx), zb (by omega)]
   exact g3
  ·refine ⟨i, by omega, zjQ _ _ _ ?_, h, ?_⟩
   ·simp only [zfP]
    rw [if_pos (by simpa using h1), if_pos (by omega), Int.toNat_natCast, List.getElem?_eq_getElem h1]
    simp only [Option.bind_some]
    rw [if_neg (by simpa using hx)]
   ·intro y hy
    rw [List.drop_eq_getElem_cons h1] at hy
    simp only [List.head?_cons, Option.some.injEq] at hy; omega
theorem zxI (l : List Int) (hl : l.length ≤ 100000) (n : Int) : ziD M l n = some ((putN l n, ()), ()) := by
 obtain ⟨j, g2, g3, g4, g5⟩ := zxf l hl n l.length 0 (by omega) (by simp)
 rw [show ((0 : Nat) : Int) = 0 from rfl] at g3
 have key := zsx n (l.take j) (l.drop j) g4 g5
 rw [List.take_append_drop] at key
 apply zvH
 simp only [znk, g3, Option.bind_some, Sum.elim_inl]
 by_cases h1 : j < l.length
 ·have hh : (l.drop j).head? = some l[j] := by rw [List.drop_eq_getElem_cons h1]; rfl
  rw [if_pos (by simpa using h1), if_pos (by omega), Int.toNat_natCast, List.getElem?_eq_getElem h1]
  simp only [Option.bind_some, Int.toNat_natCast, Int.toNat_zero, List.drop_zero, List.nil_append, List.length_nil, List.length_append, List.length_take, List.length_drop, List.length_cons, List.take_length]
  rw [hh] at key
  by_cases h2 : l[j] = n
  ·rw [if_pos (by simpa using h2), key, if_pos (by rw [h2])]
  ·rw [if_neg (by simpa using h2), if_pos (by omega), if_pos (by omega), if_pos (by omega), if_pos (by omega), if_pos (by omega), key, if_neg (by simpa using h2)]
   simp
 ·have hd : l.drop j = [] := List.drop_of_length_le (by omega)
  rw [hd] at key
  rw [if_neg (by simpa using h1)]
  simp only [Option.bind_some, Int.toNat_natCast, Int.toNat_zero, List.drop_zero, List.nil_append, List.length_nil, List.length_append, List.length_take, List.length_drop, List.length_cons, List.take_length]
  rw [if_pos (by omega), if_pos (by omega), if_pos (by omega), if_pos (by omega), if_pos (by omega), key, hd]
  simp
theorem Up.le12 {L : List Int} (h : Up L) (hb : ∀ v ∈ L, 0 ≤ v ∧ v ≤ 11) : L = upTo (fun v => decide (v ∈ L)) := by
 refine Up.ext h (zwG _) fun x => ?_
 rw [ziv]
 constructor
 ·intro hx; exact ⟨(hb x hx).1, (hb x hx).2, by simpa using hx⟩
 ·rintro ⟨_, _, hx⟩; simpa using hx
theorem Up.len12 {L : List Int} (h : Up L) (hb : ∀ v ∈ L, 0 ≤ v ∧ v ≤ 11) : L.length ≤ 12 := by
 rw [h.le12 hb]; exact zrZ _
theorem zje : ∀ (vs o : List Int), (vs.foldl putN o).length ≤ o.length + vs.length
 | [], o => by simp
 | v :: vs, o => by
  have h1 := zje vs (putN o v)
  have h2 := zrQ o v
  simp only [List.foldl_cons, List.length_cons]
  omega
theorem zh2 : ∀ (vs o : List Int) (x : Int), x ∈ vs.foldl putN o ↔ x ∈ o ∨ x ∈ vs
 | [], o, x => by simp
 | v :: vs, o, x => by
  simp only [List.foldl_cons, zh2 vs, zvr, List.mem_cons, or_assoc]
theorem zsg : ∀ (vs o : List Int), Up o → Up (vs.foldl putN o)
 | [], o, h => h
 | v :: vs, o, h => zsg vs _ (zAf h v)
end Go.Proofs.YtkgpnekonnopgaaGreatCs.Ev
namespace Go.Proofs.YtkgpnekonnopgaaGreatCs.Ev
open Go
set_option autoImplicit false
set_option linter.unusedVariables false
set_option linter.unusedSimpArgs false
theorem zlx (x : List Int) (h : x.length ≤ 1048576) : zbr M x = some ((x, ()), ()) := by
 apply zpL
 simp only [zkj]
 rw [if_pos (by simp; omega)]
 simp
theorem zv3 (v : Int) (a : List Int) (ha : a.length ≤ 1000) : ∀ k i : Nat, i + k = a.length → zeP M v a a.length i = some (if v ∈ a.drop i then .inr ((true, ()), ()) else .inl ()) := by
 intro k
 induction k with
 | zero =>
  intro i hi
  obtain rfl : i = a.length := by omega
  exact zhA _ _ _ _ (by simp [zd3])
 | succ k ih =>
  intro i hi
  have h1 : i < a.length := by omega
  rw [List.drop_eq_getElem_cons h1]
  apply zhA
  simp only [zd3]
  rw [if_pos (by simpa using h1), zd h1, zb (by omega)]
  simp only [Option.bind_some]
  by_cases h : a[i] = v
  ·rw [if_pos (by simpa using h), if_pos (by rw [h]; exact List.mem_cons_self ..)]
  ·rw [if_neg (by simpa using h), ih (i + 1) (by omega)]
   by_cases h2 : v ∈ a.drop (i + 1)
   ·rw [if_pos h2, if_pos (List.mem_cons_of_mem _ h2)]
   ·rw [if_neg h2, if_neg (fun h3 => by rcases List.mem_cons.1 h3 with e | e; exact h e.symm; exact h2 e)]
theorem zvu (a : List Int) (v : Int) (ha : a.length ≤ 1000) : zde M a v = some ((decide (v ∈ a), ()), ()) := by
 apply zpR
 have := zv3 v a ha a.length 0 (by omega)
 rw [show ((0 : Nat) : Int) = 0 from rfl, List.drop_zero] at this
 simp only [zj2, this, Option.bind_some]
 by_cases h : v ∈ a
 ·rw [if_pos h, decide_eq_true h]; rfl
 ·rw [if_neg h, decide_eq_false h]; rfl
theorem zAU {a : List Int} (hg : gS a = true) : ∀ (t : List Int) (k : Int) (i : Nat), 0 ≤ k → sE a k t = some [] → i < t.length → ∃ u x, t.drop i = u ++ x ∧ Tm a u := by
 intro t
 induction t with
 | nil => intro k i _ _ h; simp at h
 | cons n t ih =>
  intro k i hk h hi
  have h0 := h
  simp only [sE] at h
  split at h
  ·cases h
  ·rename_i hk'
   split at h
   ·cases h
   ·rename_i hb
    have hn := zmJ hg n
    cases i with
    | zero =>
     obtain ⟨u, x, e, h1, _⟩ := zrG hg (n :: t) 1 (k - 1) [] (by omega) (by omega) (by rw [← h0]; congr 1; omega)
     exact ⟨u, x, by simpa using e, h1⟩
    | succ i => simpa using ih _ i (by omega) h (by simpa using hi)
theorem Tm.at {a : List Int} (hg : gS a = true) {t : List Int} (h : Tm a t) {i : Nat} (hi : i < t.length) : ∃ u x, t.drop i = u ++ x ∧ Tm a u := zAU hg t 1 i (by omega) h hi
theorem zkS {t u x : List Int} {i : Nat} (h : t.drop i = u ++ x) (hu : 0 < u.length) : i + u.length + x.length = t.length ∧ (t.take (i + u.length)).drop i = u := by
 have hl := congrArg List.length h
 simp only [List.length_drop, List.length_append] at hl
 refine ⟨by omega, ?_⟩
 rw [List.drop_take, h, Nat.add_sub_cancel_left, List.take_left]
theorem zlt (s : TSign) (hg : gS s.1 = true) (t : List Int) (ht : t.length ≤ 1048576) {i : Nat} {u x : List Int} (h : t.drop i = u ++ x) (hu : Tm s.1 u) : zbp M s t i = some ((u, ()), ()) := by
 obtain ⟨c1, c2⟩ := zkS h (Tm.pos hu)
 have hp := Tm.pos hu
 have he := ztC s hg t i (by omega) ht
 rw [h, Tm.rest hg hu x] at he
 apply zub
 simp only [zlN, za, he, Option.bind_some]
 rw [if_pos (by omega), Int.toNat_natCast, show ((t.length : Int) - x.length).toNat = i + u.length by omega, c2, zlx u (by omega)]
 rfl
theorem zqb (s : TSign) (hg : gS s.1 = true) (t : List Int) (ht : t.length ≤ 1048576) : ∀ (u x : List Int) (i : Nat) (k : Int), t.drop i = u ++ x → i ≤ t.length → 0 ≤ k → k + 3 * u.length ≤ 4000000 → sE s.1 k u = some [] → zeo M t i s k = some (.inl (((i + u.length : Nat) : Int), ())) := by
 intro u
 induction u with
 | nil =>
  intro x i k h hi h0 hb hk
  simp only [sE] at hk
  split at hk
  ·apply zkF
   simp only [zfX]
   rw [if_neg (by simp; omega)]
   simp
  ·cases hk
 | cons n u ih =>
  intro x i k h hi h0 hb hk
  have h1 : i < t.length := by
   have hl := congrArg List.length h
   simp at hl; omega
  have hd := h
  rw [List.drop_eq_getElem_cons h1, List.cons_append] at hd
  obtain ⟨hn, hd⟩ := List.cons.inj hd
  simp only [sE] at hk
  split at hk
  ·cases hk
  ·rename_i hk'
   split at hk
   ·cases hk
   ·rename_i hbad
    have ha := zmJ hg n
    simp only [List.length_cons] at hb
    have := ih x (i + 1) (k - 1 + ar s.1 n) hd (by omega) (by omega) (by omega) hk
    apply zkF
    simp only [zfX]
    rw [if_pos (by simp; omega), zd h1, hn]
    simp only [Option.bind_some, za, zxM s n hbad]
    rw [zb (by omega), w64 (x := ar s.1 n - 1) (by omega) (by omega), w64 (by omega) (by omega), show k + (ar s.1 n - 1) = k - 1 + ar s.1 n by omega, this]
    simp; omega
theorem zqJ (s : TSign) (hg : gS s.1 = true) (t : List Int) (ht : t.length ≤ 1000000) {i : Nat} {u x : List Int} (h : t.drop i = u ++ x) (hu : Tm s.1 u) : zas M s t i = some ((u, ()), ()) := by
 obtain ⟨c1, c2⟩ := zkS h (Tm.pos hu)
 have hp := Tm.pos hu
 have he := zqb s hg t (by omega) u x i 1 h (by omega) (by omega) (by omega) hu
 have he' : zco M s t i = some ((((i + u.length : Nat) : Int), ()), ()) := by
  apply zkf
  simp only [zgz, za, he, Option.bind_some, Sum.elim_inl]
 apply zrF
 simp only [zjP, za, he', Option.bind_some]
 rw [if_pos (by omega), Int.toNat_natCast, Int.toNat_natCast, c2, if_pos (by omega)]
theorem ztZ (sub : List (List Int)) (σ : Int → List Int) (hσ : SubF sub σ) (hb : ∀ v, (σ v).length ≤ 100000) (T : List Int) (hT : T.length ≤ 100) (hv : ∀ n ∈ T, -12 ≤ n) :
  ∀ k i : Nat, i + k = T.length → ∀ o : List Int, o.length ≤ 40 → zeO M sub o T T.length i = some (if (o ++ apS σ (T.drop i)).length ≤ 40 then .inl (o ++ apS σ (T.drop i), ()) else .inr (([], false, ()), ())) := by
 intro k
 induction k with
 | zero =>
  intro i hi o ho
  obtain rfl : i = T.length := by omega
  apply znm
  simp only [zhz]
  rw [if_neg (by simp), List.drop_length]
  simp [apS, ho]
 | succ k ih =>
  intro i hi o ho
  have h1 : i < T.length := by omega
  have h2 := hv _ (List.getElem_mem h1)
  have h3 := zwu hb T[i]
  have h4 := hb (-1 - T[i])
  have hs : apS σ (T.drop i) = rp σ T[i] ++ apS σ (T.drop (i + 1)) := by rw [List.drop_eq_getElem_cons h1]; simp only [apS, List.flatMap_cons]
  have go : ∀ x : List Int, rp σ T[i] = x → (if decide (((o ++ x).length : Int) > (40 : Int)) = true then some (.inr (([], false, ()), ())) else zeO M sub (o ++ x) T T.length ((i + 1 : Nat) : Int)) = some (if (o ++ apS σ (T.drop i)).length ≤ 40 then .inl (o ++ apS σ (T.drop i), ()) else .inr (([], false, ()), ())) := by
   intro x hx
   subst hx
   rw [hs, ← List.append_assoc]
   by_cases hl : (o ++ rp σ T[i]).length ≤ 40
   ·rw [if_neg (by simp only [decide_eq_true_eq]; omega), ih (i + 1) (by omega) _ hl]
   ·rw [if_pos (by simp only [decide_eq_true_eq]; omega), if_neg (by rw [List.length_append]; omega)]
  apply znm
  simp only [zhz]
  rw [if_pos (by simpa using h1), zd h1]
  simp only [Option.bind_some]
  by_cases hn : T[i] < 0
  ·rw [if_pos (by simpa using hn), w64 (x := -1 - T[i]) (by omega) (by omega), hσ.idx (by omega) (by omega)]
   simp only [Option.bind_some]
   by_cases hl : 0 < (σ (-1 - T[i])).length
   ·rw [if_pos (by simp; omega), if_pos (by omega)]
    simp only [Option.bind_some, Sum.elim_inl]
    rw [zb (by omega)]
    exact go _ (by unfold rp; rw [if_pos ⟨hn, hl⟩])
   ·rw [if_neg (by simp only [decide_eq_true_eq]; omega), if_pos (by simp; omega)]
    simp only [Option.bind_some, Sum.elim_inl]
    rw [zb (by omega)]
    exact go _ (by unfold rp; rw [if_neg (fun q => hl q.2)])
  ·rw [if_neg (by simpa using hn), if_pos (by simp; omega)]
   simp only [Option.bind_some, Sum.elim_inl]
   rw [zb (by omega)]
   exact go _ (by unfold rp; rw [if_neg (fun q => hn q.1)])
theorem zkO (sub : List (List Int)) (σ : Int → List Int) (hσ : SubF sub σ) (hb : ∀ v, (σ v).length ≤ 100000) (T : List Int) (hT : T.length ≤ 100) (hv : ∀ n ∈ T, -12 ≤ n) : zbx M sub T = some (if (apS σ T).length ≤ 40 then ((apS σ T, true, ()), ()) else (([], false, ()), ())) := by
 apply zvl
 have := ztZ sub σ hσ hb T hT hv T.length 0 (by omega) [] (by simp)
 rw [show ((0 : Nat) : Int) = 0 from rfl, List.drop_zero, List.nil_append] at this
 simp only [zmU, this, Option.bind_some]
 split <;> rfl
end Go.Proofs.YtkgpnekonnopgaaGreatCs.Ev
namespace Go.Proofs.YtkgpnekonnopgaaGreatCs.Ev
open Go
set_option autoImplicit false
set_option linter.unusedVariables false
set_option linter.unusedSimpArgs false
theorem zAP (t : List Int) (v : Int) (ht : t.length ≤ 17592186044416) (h0 : -1000 ≤ v) (h1 : v ≤ 1000) : zil M t v = some ((decide (-1 - v ∈ t), ()), ()) := by
 apply zss
 simp only [zkl]
 rw [w64 (x := -1 - v) (by omega) (by omega), zmF t _ ht]
 rfl
def inV (ts : List (List Int)) (v : Int) : Bool := ts.any fun t => decide (-1 - v ∈ t)
theorem zvK (ts : List (List Int)) (v : Int) (h0 : -1000 ≤ v) (h1 : v ≤ 1000) (hl : ts.length ≤ 17592186044416) (hx : ∀ t ∈ ts, t.length ≤ 17592186044416) : ∀ k i : Nat, i + k = ts.length → ∃ r, zU M ts (v, ()) ts.length i = some r ∧ (match r with | .inl _ => inV (ts.drop i) v = false | .inr r => 0 ≤ r.1.1 ∧ inV (ts.drop i) v = true) := by
 intro k
 induction k with
 | zero =>
  intro i hi
  obtain rfl : i = ts.length := by omega
  exact ⟨.inl (), za4 _ _ _ _ (by simp [zR]), by simp [inV]⟩
 | succ k ih =>
  intro i hi
  have h2 : i < ts.length := by omega
  obtain ⟨r, hr, hm⟩ := ih (i + 1) (by omega)
  rw [List.drop_eq_getElem_cons h2]
  have hc := zAP ts[i] v (hx _ (List.getElem_mem h2)) h0 h1
  cases hp : decide (-1 - v ∈ ts[i]) with
  | false =>
   refine ⟨r, za4 _ _ _ _ ?_, ?_⟩
   ·simp only [zR]
    rw [if_pos (by simpa using h2), zd h2]
    simp only [Option.bind_some, hc, hp, Bool.false_eq_true, if_false]
    rw [zb (by omega)]
    exact hr
   ·cases r with
    | inl r => simp only [inV, List.any_cons, hp, Bool.false_or]; exact hm
    | inr r => simp only [inV, List.any_cons, hp, Bool.false_or]; exact hm
  | true =>
   refine ⟨.inr (((i : Int), ()), ()), za4 _ _ _ _ ?_, Int.natCast_nonneg i, ?_⟩
   ·simp only [zR]
    rw [if_pos (by simpa using h2), zd h2]
    simp only [Option.bind_some, hc, hp, if_true]
   ·simp only [inV, List.any_cons, hp, Bool.true_or]
theorem zu1 (ts : List (List Int)) (v : Int) (h0 : -1000 ≤ v) (h1 : v ≤ 1000) (hl : ts.length ≤ 17592186044416) (hx : ∀ t ∈ ts, t.length ≤ 17592186044416) : zap M ts (v, ()) = some ((inV ts v, ()), ()) := by
 obtain ⟨r, hr, hm⟩ := zvK ts v h0 h1 hl hx ts.length 0 (by omega)
 rw [show ((0 : Nat) : Int) = 0 from rfl] at hr
 rw [List.drop_zero] at hm
 apply zf3
 cases r with
 | inl r =>
  rw [zao, zcD ts (v, ()) (r := ((-1, ()), ())) (by simp only [zav, hr, Option.bind_some, Sum.elim_inl])]
  simp only at hm
  simp [hm]
 | inr r =>
  rw [zao, zcD ts (v, ()) (r := r) (by simp only [zav, hr, Option.bind_some, Sum.elim_inr])]
  simp only at hm
  simp [hm]
theorem zt7 (ts : List (List Int)) (hl : ts.length ≤ 17592186044416) (hx : ∀ t ∈ ts, t.length ≤ 17592186044416) : ∀ k i : Nat, i + k = 12 → ∀ o : List Int, o = ((List.range i).map Int.ofNat).filter (inV ts) → zfw M ts o i = some (.inl (upTo (inV ts), ())) := by
 intro k
 induction k with
 | zero =>
  intro i hi o ho
  obtain rfl : i = 12 := by omega
  subst ho
  exact zmy _ _ _ (by simp [zgU, upTo])
 | succ k ih =>
  intro i hi o ho
  have hp := zx3 (inV ts) i (by omega) o ho (by omega)
  have hol : o.length ≤ 12 := by rw [ho]; exact Nat.le_trans (List.length_filter_le _ _) (by simp; omega)
  apply zmy
  simp only [zgU]
  rw [if_pos (by simp; omega), zu1 ts i (by omega) (by omega) hl hx]
  simp only [Option.bind_some]
  cases hv : inV ts (i : Int) with
  | true =>
   rw [hv, if_pos rfl] at hp
   rw [if_pos rfl, if_pos (by simp; omega)]
   simp only [Option.bind_some, Sum.elim_inl]
   rw [zb (by omega)]
   exact ih (i + 1) (by omega) _ hp.symm
  | false =>
   rw [hv, if_neg (by simp)] at hp
   rw [if_neg (by simp)]
   simp only [Option.bind_some, Sum.elim_inl]
   rw [zb (by omega)]
   exact ih (i + 1) (by omega) _ hp.symm
theorem zy4 (ts : List (List Int)) (hl : ts.length ≤ 17592186044416) (hx : ∀ t ∈ ts, t.length ≤ 17592186044416) : zjt M ts = some ((upTo (inV ts), ()), ()) := by
 apply zun
 simp only [zmi]
 have := zt7 ts hl hx 12 0 (by omega) [] (by simp)
 rw [show ((0 : Nat) : Int) = 0 from rfl] at this
 rw [this]
 rfl
end Go.Proofs.YtkgpnekonnopgaaGreatCs.Ev
namespace Go.Proofs.YtkgpnekonnopgaaGreatCs.Ev
open Go
set_option autoImplicit false
set_option linter.unusedVariables false
set_option linter.unusedSimpArgs false
theorem zAq {a : List Int} : ∀ (t : List Int) (k : Int), sE a k t = some [] → ∀ n ∈ t, -12 ≤ n ∧ n < a.length := by
 intro t
 induction t with
 | nil => intro k _ n hn; cases hn
 | cons m t ih =>
  intro k h n hn
  simp only [sE] at h
  split at h
  ·cases h
  ·split at h
   ·cases h
   ·rename_i hb
    unfold badN at hb
    rcases List.mem_cons.1 hn with rfl | hn
    ·omega
    ·exact ih _ h n hn
theorem zqH {a t : List Int} (h : isT a t = true) : t.length ≤ 40 ∧ ∀ n ∈ t, -12 ≤ n ∧ n < a.length := by
 simp only [isT, Bool.and_eq_true, decide_eq_true_eq] at h
 exact ⟨h.1, zAq t 1 h.2⟩
end Go.Proofs.YtkgpnekonnopgaaGreatCs.Ev
namespace Go.Proofs.YtkgpnekonnopgaaGreatCs.Ev
open Go
set_option autoImplicit false
set_option linter.unusedVariables false
set_option linter.unusedSimpArgs false
def litOK (a : List Int) (x : TLit) : Bool := isT a x.2.1 && isT a x.2.2.1
def clOK (a : List Int) (c : List TLit) : Bool := decide (c.length ≤ 8) && c.all (litOK a)
theorem zzJ (s : TSign) (hg : gS s.1 = true) (x : TLit) (h : smL x) : zho M s x = some ((litOK s.1 x, ()), ()) := by
 apply zkq
 simp only [zg9, za, znj s hg x.2.1 h.1, znj s hg x.2.2.1 h.2, Option.bind_some, litOK]
 cases isT s.1 x.2.1 <;> simp
theorem zzS (s : TSign) (hg : gS s.1 = true) (x : TLit) : zg0 M s x = some ((litOK s.1 x, ()), ()) := by
 apply zq1
 simp only [zi2, za, zr3 s hg x.2.1, zr3 s hg x.2.2.1, Option.bind_some, litOK]
 cases isT s.1 x.2.1 <;> simp
theorem zso (s : TSign) (hg : gS s.1 = true) (a : List TLit) (ha : a.length ≤ 1048576) (hx : ∀ x ∈ a, smL x) : ∀ k i : Nat, i + k = a.length → zaY M a s a a.length i = some (if (a.drop i).all (litOK s.1) = true then .inl (a, ()) else .inr ((false, ()), ())) := by
 intro k
 induction k with
 | zero =>
  intro i hi
  obtain rfl : i = a.length := by omega
  apply zaL
  simp [zaM]
 | succ k ih =>
  intro i hi
  apply zaL
  have h1 : i < a.length := by omega
  simp only [zaM]
  rw [if_pos (by simpa using h1), zd h1, zb (by omega)]
  simp only [Option.bind_some, za, zk, zzJ s hg a[i] (hx _ (List.getElem_mem h1)), ih (i + 1) (by omega)]
  rw [List.drop_eq_getElem_cons h1, List.all_cons]
  generalize litOK s.1 a[i] = b
  cases b <;> rfl
theorem zgy (s : TSign) (hg : gS s.1 = true) (a : List TLit) (ha : a.length ≤ 1048576) (hx : ∀ x ∈ a, smL x) : za3 M s a = some ((clOK s.1 a, ()), ()) := by
 apply zgw
 simp only [zdk, za]
 have := zso s hg a ha hx a.length 0 (by omega)
 rw [show ((0 : Nat) : Int) = 0 from rfl] at this
 rw [this, List.drop_zero, clOK]
 cases a.all (litOK s.1)
 ·simp
 ·simp; omega
theorem zrr (s : TSign) (hg : gS s.1 = true) (x : TLit) : zej M x s = some ((!litOK s.1 x, ()), ()) := by
 apply zn2
 simp only [zgI, za, zk, zzS s hg x, Option.bind_some]
theorem zvv (s : TSign) (hg : gS s.1 = true) (a : List TLit) (ha : a.length ≤ 1048576) : ∀ k i : Nat, i + k = a.length → ∃ r, zq M a (s, ()) a.length i = some r ∧ (match r with | .inl _ => (a.drop i).all (litOK s.1) = true | .inr r => 0 ≤ r.1.1 ∧ (a.drop i).all (litOK s.1) = false) := by
 intro k
 induction k with
 | zero =>
  intro i hi
  obtain rfl : i = a.length := by omega
  refine ⟨.inl (), zae _ _ _ _ (by simp [zp]), by simp⟩
 | succ k ih =>
  intro i hi
  have h1 : i < a.length := by omega
  obtain ⟨r, hr, hm⟩ := ih (i + 1) (by omega)
  rw [List.drop_eq_getElem_cons h1, List.all_cons]
  by_cases hp : litOK s.1 a[i] = true
  ·refine ⟨r, zae _ _ _ _ ?_, by rw [hp, Bool.true_and]; exact hm⟩
   simp only [zp]
   rw [if_pos (by simpa using h1), zd h1, zb (by omega)]
   simp only [Option.bind_some, zk, zrr s hg, hp, Bool.not_true, Bool.false_eq_true, if_false]
   exact hr
  ·rw [Bool.not_eq_true] at hp
   refine ⟨.inr (((i : Int), ()), ()), zae _ _ _ _ ?_, Int.natCast_nonneg i, by rw [hp, Bool.false_and]⟩
   simp only [zp]
   rw [if_pos (by simpa using h1), zd h1]
   simp only [Option.bind_some, zk, zrr s hg, hp, Bool.not_false, if_true]
theorem zuJ (s : TSign) (hg : gS s.1 = true) (a : List TLit) (ha : a.length ≤ 1048576) : zL M a (s, ()) = some ((!(a.all (litOK s.1)), ()), ()) := by
 apply zdb
 simp only [zaj]
 obtain ⟨r, hr, hm⟩ := zvv s hg a ha a.length 0 (by omega)
 rw [show ((0 : Nat) : Int) = 0 from rfl] at hr
 rw [List.drop_zero] at hm
 cases r with
 | inl r =>
  rw [zbm a (s, ()) (r := ((-1, ()), ())) (by simp only [zQ, hr, Option.bind_some, Sum.elim_inl])]
  simp only at hm
  simp [hm]
 | inr r =>
  rw [zbm a (s, ()) (r := r) (by simp only [zQ, hr, Option.bind_some, Sum.elim_inr])]
  simp only at hm
  simp [hm]
theorem zsr (s : TSign) (hg : gS s.1 = true) (a : List TLit) (ha : a.length ≤ 1048576) : zfh M s a = some ((clOK s.1 a, ()), ()) := by
 apply zoQ
 simp only [zhG, za, zuJ s hg a ha, Option.bind_some, clOK]
 by_cases h : a.length ≤ 8
 ·rw [if_pos (by simp; omega)]; simp [h]
 ·rw [if_neg (by simp; omega)]; simp [h]
end Go.Proofs.YtkgpnekonnopgaaGreatCs.Ev
namespace Go.Proofs.YtkgpnekonnopgaaGreatCs.Ev
open Go
set_option autoImplicit false
set_option linter.unusedVariables false
set_option linter.unusedSimpArgs false
def tms (c : List TLit) : List (List Int) := c.flatMap fun x => [x.2.1, x.2.2.1]
theorem zh1 (c : List TLit) : (tms c).length = 2 * c.length := by
 induction c with
 | nil => rfl
 | cons x r ih =>
  have : tms (x :: r) = [x.2.1, x.2.2.1] ++ tms r := rfl
  rw [this, List.length_append, ih]; simp; omega
theorem ziU {c : List TLit} {t : List Int} : t ∈ tms c ↔ ∃ x ∈ c, t = x.2.1 ∨ t = x.2.2.1 := by
 simp [tms]
theorem zte (c : List TLit) (hc : c.length ≤ 1048576) : ∀ k i : Nat, i + k = c.length → ∀ o : List (List Int), o.length ≤ 2 * i → zfg M o c c.length i = some (.inl (o ++ tms (c.drop i), ())) := by
 intro k
 induction k with
 | zero =>
  intro i hi o ho
  obtain rfl : i = c.length := by omega
  exact zlv _ _ _ _ (by simp [zgF, tms])
 | succ k ih =>
  intro i hi o ho
  have h1 : i < c.length := by omega
  apply zlv
  simp only [zgF]
  rw [if_pos (by simpa using h1), zd h1]
  simp only [Option.bind_some]
  rw [if_pos (by simp; omega), zb (by omega), ih (i + 1) (by omega) _ (by simp; omega), List.drop_eq_getElem_cons h1]
  have : tms (c[i] :: c.drop (i + 1)) = [c[i].2.1, c[i].2.2.1] ++ tms (c.drop (i + 1)) := rfl
  rw [this, List.append_assoc]
theorem zlG (c : List TLit) (hc : c.length ≤ 1048576) : zce M c = some ((tms c, ()), ()) := by
 apply ztg
 have := zte c hc c.length 0 (by omega) [] (by simp)
 rw [show ((0 : Nat) : Int) = 0 from rfl] at this
 simp only [zlf, this, Option.bind_some, Sum.elim_inl, List.nil_append, List.drop_zero]
end Go.Proofs.YtkgpnekonnopgaaGreatCs.Ev
namespace Go.Proofs.YtkgpnekonnopgaaGreatCs.Ev
open Go
set_option autoImplicit false
set_option linter.unusedVariables false
set_option linter.unusedSimpArgs false
def negs (t : List Int) : List Int := (t.filter fun n => decide (n < 0)).map fun n => -1 - n
theorem zze {x : Int} (h : x < 0) (r : List Int) : negs (x :: r) = (-1 - x) :: negs r := by simp [negs, h]
theorem zyt {x : Int} (h : ¬ x < 0) (r : List Int) : negs (x :: r) = negs r := by simp [negs, h]
theorem zoM (t : List Int) : (negs t).length ≤ t.length := by simp only [negs, List.length_map]; exact List.length_filter_le _ _
theorem zrv {t : List Int} {v : Int} : v ∈ negs t ↔ 0 ≤ v ∧ -1 - v ∈ t := by
 simp only [negs, List.mem_map, List.mem_filter, decide_eq_true_eq]
 constructor
 ·rintro ⟨n, ⟨h1, h2⟩, rfl⟩
  exact ⟨by omega, by rw [show -1 - (-1 - n) = n by omega]; exact h1⟩
 ·rintro ⟨h1, h2⟩
  exact ⟨-1 - v, ⟨h2, by omega⟩, by omega⟩
theorem zs8 (t : List Int) (ht : t.length ≤ 4000) (hw : ∀ n ∈ t, -1000 ≤ n) : ∀ k i : Nat, i + k = t.length → ∀ o : List Int, o.length ≤ i → zfA M o t t.length i = some (.inl ((negs (t.drop i)).foldl putN o, ())) := by
 intro k
 induction k with
 | zero =>
  intro i hi o ho
  obtain rfl : i = t.length := by omega
  exact zmp _ _ _ _ (by simp [zg1, negs])
 | succ k ih =>
  intro i hi o ho
  have h1 : i < t.length := by omega
  have hn := hw _ (List.getElem_mem h1)
  apply zmp
  simp only [zg1]
  rw [if_pos (by simpa using h1), zd h1, List.drop_eq_getElem_cons h1]
  simp only [Option.bind_some]
  by_cases hx : t[i] < 0
  ·have hl := zrQ o (-1 - t[i])
   rw [if_pos (by simpa using hx), w64 (x := -1 - t[i]) (by omega) (by omega), zxI o (by omega)]
   simp only [Option.bind_some, Sum.elim_inl]
   rw [zb (by omega), ih (i + 1) (by omega) _ (by omega)]
   rw [zze hx]
   rfl
  ·rw [if_neg (by simpa using hx)]
   simp only [Option.bind_some, Sum.elim_inl]
   rw [zb (by omega), ih (i + 1) (by omega) _ (by omega)]
   rw [zyt hx]
theorem znD (t : List Int) (ht : t.length ≤ 4000) (hw : ∀ n ∈ t, -1000 ≤ n) : zeV M t = some (((negs t).foldl putN [], ()), ()) := by
 apply zt6
 have := zs8 t ht hw t.length 0 (by omega) [] (by simp)
 rw [show ((0 : Nat) : Int) = 0 from rfl] at this
 simp only [zmm, this, Option.bind_some, Sum.elim_inl, List.drop_zero]
def lvs (x : TLit) : List Int := (negs x.2.1).foldl putN [] ++ (negs x.2.2.1).foldl putN []
theorem zws {x : TLit} {v : Int} : v ∈ lvs x ↔ 0 ≤ v ∧ (-1 - v ∈ x.2.1 ∨ -1 - v ∈ x.2.2.1) := by
 simp only [lvs, List.mem_append, zh2, List.not_mem_nil, false_or, zrv]
 constructor
 ·rintro (⟨h1, h2⟩ | ⟨h1, h2⟩)
  ·exact ⟨h1, .inl h2⟩
  ·exact ⟨h1, .inr h2⟩
 ·rintro ⟨h1, h2 | h2⟩
  ·exact .inl ⟨h1, h2⟩
  ·exact .inr ⟨h1, h2⟩
theorem zvV (c : List TLit) (n j : Int) (vs : List Int) (hl : vs.length ≤ 500) : ∀ k i : Nat, i + k = vs.length → ∀ o : List Int, o.length ≤ 400 + i → zcu M o c n j vs vs.length i = some (.inl ((vs.drop i).foldl putN o, c, n, j, ())) := by
 intro k
 induction k with
 | zero =>
  intro i hi o ho
  obtain rfl : i = vs.length := by omega
  exact zkd _ _ _ _ _ _ _ (by simp [zfm])
 | succ k ih =>
  intro i hi o ho
  have h1 : i < vs.length := by omega
  apply zkd
  simp only [zfm]
  rw [if_pos (by simpa using h1), if_pos (by omega), Int.toNat_natCast, List.getElem?_eq_getElem h1]
  simp only [Option.bind_some, zxI o (by omega)]
  have := zrQ o vs[i]
  rw [zb (by omega), ih (i + 1) (by omega) _ (by omega), List.drop_eq_getElem_cons h1]
  rfl
def liV (x : TLit) : Prop := x.2.1.length ≤ 40 ∧ x.2.2.1.length ≤ 40 ∧ (∀ n ∈ x.2.1, -12 ≤ n) ∧ ∀ n ∈ x.2.2.1, -12 ≤ n
theorem foldv (c : List TLit) (hc : ∀ x ∈ c, liV x) : ∀ o : List Int, Up o → (∀ v ∈ o, 0 ≤ v ∧ v ≤ 11) → Up (c.foldl (fun o x => (lvs x).foldl putN o) o) ∧ (∀ v ∈ c.foldl (fun o x => (lvs x).foldl putN o) o, 0 ≤ v ∧ v ≤ 11) ∧ ∀ v, v ∈ c.foldl (fun o x => (lvs x).foldl putN o) o ↔ v ∈ o ∨ ∃ x ∈ c, v ∈ lvs x := by
 induction c with
 | nil => intro o h1 h2; exact ⟨h1, h2, by simp⟩
 | cons x r ih =>
  intro o h1 h2
  have hx := hc x (by simp)
  have hb : ∀ v ∈ (lvs x).foldl putN o, 0 ≤ v ∧ v ≤ 11 := by
   intro v hv
   rcases (zh2 _ _ _).1 hv with h | h
   ·exact h2 v h
   ·obtain ⟨a1, a2⟩ := zws.1 h
    rcases a2 with a2 | a2
    ·have := hx.2.2.1 _ a2; omega
    ·have := hx.2.2.2 _ a2; omega
  obtain ⟨g1, g2, g3⟩ := ih (fun y hy => hc y (by simp [hy])) _ (zsg (lvs x) o h1) hb
  refine ⟨g1, g2, fun v => ?_⟩
  rw [List.foldl_cons, g3 v, zh2]
  simp only [List.mem_cons, exists_eq_or_imp, or_assoc]
theorem zt4 (c : List TLit) (hl : c.length ≤ 1000) (hc : ∀ x ∈ c, liV x) : ∀ k i : Nat, i + k = c.length → ∀ o : List Int, Up o → (∀ v ∈ o, 0 ≤ v ∧ v ≤ 11) → zfx M o c c.length i = some (.inl ((c.drop i).foldl (fun o x => (lvs x).foldl putN o) o, ())) := by
 intro k
 induction k with
 | zero =>
  intro i hi o ho hb
  obtain rfl : i = c.length := by omega
  exact zmv _ _ _ _ (by simp [zgZ])
 | succ k ih =>
  intro i hi o ho hb
  have h1 : i < c.length := by omega
  have hx := hc _ (List.getElem_mem h1)
  have l1 := zoM c[i].2.1
  have l2 := zoM c[i].2.2.1
  have l3 := zje (negs c[i].2.1) []
  have l4 := zje (negs c[i].2.2.1) []
  have x1 := hx.1
  have x2 := hx.2.1
  simp only [List.length_nil] at l3 l4
  have ol := ho.len12 hb
  have step := foldv [c[i]] (by intro y hy; simp at hy; subst hy; exact hx) o ho hb
  simp only [List.foldl_cons, List.foldl_nil] at step
  apply zmv
  simp only [zgZ]
  rw [if_pos (by simpa using h1), zd h1]
  simp only [Option.bind_some]
  rw [znD _ (by omega) (fun n hn => by have := hx.2.2.1 n hn; omega)]
  simp only [Option.bind_some]
  rw [znD _ (by omega) (fun n hn => by have := hx.2.2.2 n hn; omega)]
  simp only [Option.bind_some]
  rw [if_pos (by omega)]
  have hin := zvV c c.length i (lvs c[i]) (by simp only [lvs, List.length_append]; omega) (lvs c[i]).length 0 (by omega) o (by omega)
  rw [show ((0 : Nat) : Int) = 0 from rfl, List.drop_zero] at hin
  have hin' : zcu M o c c.length i ((negs c[i].2.1).foldl putN [] ++ (negs c[i].2.2.1).foldl putN []) ((negs c[i].2.1).foldl putN [] ++ (negs c[i].2.2.1).foldl putN []).length 0 = some (.inl ((lvs c[i]).foldl putN o, c, c.length, i, ())) := hin
  rw [hin']
  simp only [Option.bind_some, Sum.elim_inl]
  rw [zb (by omega), ih (i + 1) (by omega) _ step.1 step.2.1, List.drop_eq_getElem_cons h1]
  rfl
theorem zzq (c : List TLit) (hl : c.length ≤ 1000) (hc : ∀ x ∈ c, liV x) : zjp M c = some ((upTo (inV (tms c)), ()), ()) := by
 apply zuz
 have := zt4 c hl hc c.length 0 (by omega) [] List.Pairwise.nil (by simp)
 rw [show ((0 : Nat) : Int) = 0 from rfl] at this
 simp only [zl0, this, Option.bind_some, Sum.elim_inl, List.drop_zero]
 obtain ⟨g1, g2, g3⟩ := foldv c hc [] List.Pairwise.nil (by simp)
 congr 3
 refine Up.ext g1 (zwG _) fun v => ?_
 rw [g3 v, ziv]
 simp only [List.not_mem_nil, false_or, zws, inV, List.any_eq_true, decide_eq_true_eq]
 constructor
 ·rintro ⟨x, hx, h0, h⟩
  have hh := hc x hx
  refine ⟨h0, ?_, ?_⟩
  ·rcases h with h | h
   ·have := hh.2.2.1 _ h; omega
   ·have := hh.2.2.2 _ h; omega
  ·rcases h with h | h
   ·exact ⟨_, ziU.2 ⟨x, hx, .inl rfl⟩, h⟩
   ·exact ⟨_, ziU.2 ⟨x, hx, .inr rfl⟩, h⟩
 ·rintro ⟨h0, _, t, ht, h⟩
  obtain ⟨x, hx, h1⟩ := ziU.1 ht
  rcases h1 with rfl | rfl
  ·exact ⟨x, hx, h0, .inl h⟩
  ·exact ⟨x, hx, h0, .inr h⟩
theorem zoV {a : List Int} {c : List TLit} (h : clOK a c = true) : c.length ≤ 8 ∧ ∀ x ∈ c, liV x := by
 simp only [clOK, Bool.and_eq_true, decide_eq_true_eq] at h
 refine ⟨h.1, fun x hx => ?_⟩
 have := (List.all_eq_true.1 h.2) x hx
 simp only [litOK, Bool.and_eq_true] at this
 obtain ⟨l1, l2⟩ := zqH this.1
 obtain ⟨r1, r2⟩ := zqH this.2
 exact ⟨l1, r1, fun n hn => (l2 n hn).1, fun n hn => (r2 n hn).1⟩
end Go.Proofs.YtkgpnekonnopgaaGreatCs.Ev
namespace Go.Proofs.YtkgpnekonnopgaaGreatCs.Ev
open Go
set_option autoImplicit false
set_option linter.unusedVariables false
set_option linter.unusedSimpArgs false
def shn (by' n : Int) : Int := if n < 0 then n - by' else n
theorem zvP (by' : Int) (h0 : 0 ≤ by') (h1 : by' ≤ 1000) (t : List Int) (hl : t.length ≤ 1000000) (hx : ∀ n ∈ t, -1000000 ≤ n ∧ n ≤ 1000000) : ∀ k i : Nat, i + k = t.length → zgr M by' ((t.take i).map (shn by') ++ t.drop i) t.length i = some (.inl (t.map (shn by'), ())) := by
 intro k
 induction k with
 | zero =>
  intro i hi
  obtain rfl : i = t.length := by omega
  apply znp
  simp [zhB]
 | succ k ih =>
  intro i hi
  have h2 : i < t.length := by omega
  have hn := hx _ (List.getElem_mem h2)
  have hlen : ((t.take i).map (shn by') ++ t.drop i).length = t.length := by simp; omega
  have hget : ((t.take i).map (shn by') ++ t.drop i)[i]? = some t[i] := by
   rw [List.getElem?_append_right (by simp; omega)]
   simp [Nat.min_eq_left (Nat.le_of_lt h2), h2]
  have hnext : (t.take (i + 1)).map (shn by') ++ t.drop (i + 1) = ((t.take i).map (shn by') ++ t.drop i).set i (shn by' t[i]) := by
   rw [List.take_succ_eq_append_getElem h2, List.map_append, List.set_append_right _ _ (by simp; omega)]
   have e : i - ((t.take i).map (shn by')).length = 0 := by simp; omega
   rw [e, List.drop_eq_getElem_cons h2, List.set_cons_zero, List.append_assoc]
   rfl
  have ih' := ih (i + 1) (by omega)
  rw [hnext] at ih'
  apply znp
  simp only [zhB]
  rw [if_pos (by simpa using h2), if_pos (by rw [hlen]; omega), Int.toNat_natCast, hget]
  simp only [Option.bind_some]
  by_cases hneg : t[i] < 0
  ·rw [if_pos (by simpa using hneg), if_pos (by rw [hlen]; omega), w64 (x := t[i] - by') (by omega) (by omega)]
   simp only [Option.bind_some, Sum.elim_inl]
   rw [zb (by omega)]
   have : shn by' t[i] = t[i] - by' := by simp [shn, hneg]
   rw [this] at ih'
   exact ih'
  ·rw [if_neg (by simpa using hneg)]
   simp only [Option.bind_some, Sum.elim_inl]
   rw [zb (by omega)]
   have : shn by' t[i] = t[i] := by simp [shn, hneg]
   rw [this] at ih'
   have hset : ((t.take i).map (shn by') ++ t.drop i).set i t[i] = (t.take i).map (shn by') ++ t.drop i := by
    apply List.ext_getElem?
    intro j
    rw [List.getElem?_set]
    split
    ·rename_i e; subst e; rw [hget, if_pos (by rw [hlen]; exact h2)]
    ·rfl
   rw [hset] at ih'
   exact ih'
theorem zzH (t : List Int) (by' : Int) (h0 : 0 ≤ by') (h1 : by' ≤ 1000) (hl : t.length ≤ 1000000) (hx : ∀ n ∈ t, -1000000 ≤ n ∧ n ≤ 1000000) : zku M t by' = some ((t.map (shn by'), ()), ()) := by
 apply zvw
 simp only [zm4]
 have := zvP by' h0 h1 t hl hx t.length 0 (by omega)
 rw [show ((0 : Nat) : Int) = 0 from rfl] at this
 simp only [List.take_zero, List.map_nil, List.nil_append, List.drop_zero] at this
 rw [if_pos (by omega), this]
 rfl
theorem ztB (by' : Int) (h0 : 0 ≤ by') (h1 : by' ≤ 1000) (t : List Int) (hl : t.length ≤ 1000000) (hx : ∀ n ∈ t, -1000000 ≤ n ∧ n ≤ 1000000) : ∀ k i : Nat, i + k = t.length → ze0 M by' ((t.take i).map (shn by') ++ t.drop i) t.length i = some (.inl (t.map (shn by'), ())) := by
 intro k
 induction k with
 | zero =>
  intro i hi
  obtain rfl : i = t.length := by omega
  apply zlB
  simp [zgD]
 | succ k ih =>
  intro i hi
  have h2 : i < t.length := by omega
  have hn := hx _ (List.getElem_mem h2)
  have hlen : ((t.take i).map (shn by') ++ t.drop i).length = t.length := by simp; omega
  have hget : ((t.take i).map (shn by') ++ t.drop i)[i]? = some t[i] := by
   rw [List.getElem?_append_right (by simp; omega)]
   simp [Nat.min_eq_left (Nat.le_of_lt h2), h2]
  have hnext : (t.take (i + 1)).map (shn by') ++ t.drop (i + 1) = ((t.take i).map (shn by') ++ t.drop i).set i (shn by' t[i]) := by
   rw [List.take_succ_eq_append_getElem h2, List.map_append, List.set_append_right _ _ (by simp; omega)]
   have e : i - ((t.take i).map (shn by')).length = 0 := by simp; omega
   rw [e, List.drop_eq_getElem_cons h2, List.set_cons_zero, List.append_assoc]
   rfl
  have ih' := ih (i + 1) (by omega)
  rw [hnext] at ih'
  apply zlB
  simp only [zgD]
  rw [if_pos (by simpa using h2), if_pos (by rw [hlen]; omega), Int.toNat_natCast, hget]
  simp only [Option.bind_some]
  by_cases hneg : t[i] < 0
  ·rw [if_pos (by simpa using hneg), if_pos (by rw [hlen]; omega), w64 (x := t[i] - by') (by omega) (by omega)]
   simp only [Option.bind_some, Sum.elim_inl]
   rw [zb (by omega)]
   have : shn by' t[i] = t[i] - by' := by simp [shn, hneg]
   rw [this] at ih'
   exact ih'
  ·rw [if_neg (by simpa using hneg)]
   simp only [Option.bind_some, Sum.elim_inl]
   rw [zb (by omega)]
   have : shn by' t[i] = t[i] := by simp [shn, hneg]
   rw [this] at ih'
   have hset : ((t.take i).map (shn by') ++ t.drop i).set i t[i] = (t.take i).map (shn by') ++ t.drop i := by
    apply List.ext_getElem?
    intro j
    rw [List.getElem?_set]
    split
    ·rename_i e; subst e; rw [hget, if_pos (by rw [hlen]; exact h2)]
    ·rfl
   rw [hset] at ih'
   exact ih'
theorem ztU (t : List Int) (by' : Int) (h0 : 0 ≤ by') (h1 : by' ≤ 1000) (hl : t.length ≤ 1000000) (hx : ∀ n ∈ t, -1000000 ≤ n ∧ n ≤ 1000000) : zhp M t by' = some ((t.map (shn by'), ()), ()) := by
 apply ztz
 have ho : zbr M t = some ((t, ()), ()) := by
  apply zpL
  simp only [zkj, List.length_nil, List.nil_append]
  rw [if_pos (by omega)]
 simp only [zkW, ho, Option.bind_some]
 have := ztB by' h0 h1 t hl hx t.length 0 (by omega)
 rw [show ((0 : Nat) : Int) = 0 from rfl] at this
 simp only [List.take_zero, List.map_nil, List.nil_append, List.drop_zero] at this
 rw [this]
 rfl
end Go.Proofs.YtkgpnekonnopgaaGreatCs.Ev
namespace Go.Proofs.YtkgpnekonnopgaaGreatCs.Ev
open Go
set_option autoImplicit false
set_option linter.unusedVariables false
set_option linter.unusedSimpArgs false
def nmb (m : List (Int × Int)) (n : Int) : List (Int × Int) := if mhas m n = true then m else mput m n (-1 - (m.length : Int))
def rnm : List (Int × Int) → List Int → List Int × List (Int × Int)
 | m, [] => ([], m)
 | m, n :: r => if 0 ≤ n then (n :: (rnm m r).1, (rnm m r).2) else (mget (nmb m n) n 0 :: (rnm (nmb m n) r).1, (rnm (nmb m n) r).2)
def rnL : List (Int × Int) → List (List Int) → List (List Int)
 | _, [] => []
 | m, t :: r => (rnm m t).1 :: rnL (rnm m t).2 r
theorem zy9 {α : Type} (m : List (Int × α)) (k : Int) (y : α) : (mput m k y).length ≤ m.length + 1 := by
 induction m with
 | nil => simp [mput]
 | cons p r ih =>
  obtain ⟨a, b⟩ := p
  simp only [mput]
  split <;> simp only [List.length_cons] <;> omega
theorem zwt (m : List (Int × Int)) (n : Int) : (nmb m n).length ≤ m.length + 1 := by
 unfold nmb
 split
 ·omega
 ·exact zy9 _ _ _
theorem zqI : ∀ (t : List Int) (m : List (Int × Int)), (rnm m t).1.length = t.length ∧ (rnm m t).2.length ≤ m.length + t.length
 | [], m => by simp [rnm]
 | n :: r, m => by
  simp only [rnm]
  split
  ·have := zqI r m
   simp only [List.length_cons]; omega
  ·have h1 := zqI r (nmb m n)
   have h2 := zwt m n
   simp only [List.length_cons]; omega
theorem zwg (outs : List (List Int)) (i : Nat) (hi : i < outs.length) (ho : outs.length ≤ 1000000) (l : List (List Int)) (N I : Int) (t : List Int) (ht : t.length ≤ 1000000) : ∀ (k j : Nat) (m : List (Int × Int)) (P : List Int), j + k = t.length → P.length = j → m.length + k ≤ 2000000 →
  zdO M m (outs.set i (P ++ t.drop j)) i l N I t t.length j = some (.inl ((rnm m (t.drop j)).2, outs.set i (P ++ (rnm m (t.drop j)).1), l, N, I, ())) := by
 intro k
 induction k with
 | zero =>
  intro j m P hj hP hm
  obtain rfl : j = t.length := by omega
  apply zj8
  simp [zfr, rnm]
 | succ k ih =>
  intro j m P hj hP hm
  have h1 : j < t.length := by omega
  rw [List.drop_eq_getElem_cons h1]
  apply zj8
  simp only [zfr]
  rw [if_pos (by simpa using h1), zd h1]
  simp only [Option.bind_some]
  by_cases h0 : 0 ≤ t[j]
  ·rw [if_pos (by simpa using h0)]
   simp only [Option.bind_some, Sum.elim_inl]
   have := ih (j + 1) m (P ++ [t[j]]) (by omega) (by simp [hP]) (by omega)
   rw [List.append_assoc, List.append_assoc] at this
   simp only [List.cons_append, List.nil_append] at this
   rw [zb (by omega), this]
   simp only [rnm, if_pos h0]
  ·rw [if_neg (by simpa using h0)]
   have hl := zwt m t[j]
   have hmap : (if (!(mhas m t[j])) = true then (some (.inl ((mput m t[j] (IntKind.i64.wrap ((-1 : Int) - (List.length m : Int)))), outs.set i (P ++ t[j] :: t.drop (j + 1)), (i : Int), (j : Int), t[j], l, N, I, t, (t.length : Int), (j : Int), ()))) else (some (.inl (m, outs.set i (P ++ t[j] :: t.drop (j + 1)), (i : Int), (j : Int), t[j], l, N, I, t, (t.length : Int), (j : Int), ())))
     : Option (((List (Int × Int)) × (List (List Int)) × Int × Int × Int × (List (List Int)) × Int × Int × (List Int) × Int × Int × Unit) ⊕ (((List (Int × Int)) × (List (List Int)) × Int × (List (List Int)) × Int × Int × (List Int) × Int × Int × Unit) ⊕ (((List (Int × Int)) × (List (List Int)) × (List (List Int)) × Int × Int × Unit) ⊕ ((((List (List Int)) × Unit) × (Unit)))))))
     = some (.inl (nmb m t[j], outs.set i (P ++ t[j] :: t.drop (j + 1)), (i : Int), (j : Int), t[j], l, N, I, t, (t.length : Int), (j : Int), ())) := by
    unfold nmb
    cases mhas m t[j] with
    | true => rfl
    | false => rw [w64 (by omega) (by omega)]; rfl
   rw [hmap]
   simp only [Option.bind_some, Sum.elim_inl]
   have hset : (outs.set i (P ++ t[j] :: t.drop (j + 1)))[i]? = some (P ++ t[j] :: t.drop (j + 1)) := by simp [hi]
   have hel : (P ++ t[j] :: t.drop (j + 1))[j]? = some t[j] := by
    rw [List.getElem?_append_right (by omega), hP, Nat.sub_self]; rfl
   rw [if_pos (by rw [List.length_set]; omega), Int.toNat_natCast, hset]
   simp only [Option.bind_some]
   rw [if_pos (by simp; omega), Int.toNat_natCast, hel]
   simp only [Option.bind_some, Sum.elim_inl]
   rw [List.set_set, show (P ++ t[j] :: t.drop (j + 1)).set j (mget (nmb m t[j]) t[j] 0) = (P ++ [mget (nmb m t[j]) t[j] 0]) ++ t.drop (j + 1) by
    rw [List.set_append_right _ _ (by omega), hP, Nat.sub_self, List.set_cons_zero]; simp]
   have := ih (j + 1) (nmb m t[j]) (P ++ [mget (nmb m t[j]) t[j] 0]) (by omega) (by simp [hP]) (by omega)
   rw [zb (by omega), this]
   simp only [rnm, if_neg h0]
   simp
theorem zuB (l : List (List Int)) (hl : l.length ≤ 1000) (hx : ∀ t ∈ l, t.length ≤ 1000) : ∀ (k j : Nat) (m : List (Int × Int)) (D : List (List Int)), j + k = l.length → D.length = j → m.length ≤ 1000 * j → zfc M m (D ++ List.replicate k []) l l.length j = some (.inl (D ++ rnL m (l.drop j), ())) := by
 intro k
 induction k with
 | zero =>
  intro j m D hj hD hm
  obtain rfl : j = l.length := by omega
  apply zlD
  simp [zgj, rnL]
 | succ k ih =>
  intro j m D hj hD hm
  have h1 : j < l.length := by omega
  have ht := hx _ (List.getElem_mem h1)
  apply zlD
  simp only [zgj]
  have hlen : (D ++ List.replicate (k + 1) ([] : List Int)).length = l.length := by simp; omega
  have hget : (D ++ List.replicate (k + 1) ([] : List Int))[j]? = some [] := by
   rw [List.getElem?_append_right (by omega), hD, Nat.sub_self]; rfl
  rw [if_pos (by simpa using h1), zd h1]
  simp only [Option.bind_some]
  rw [if_pos (by omega), if_pos (by rw [hlen]; omega), Int.toNat_natCast, hget]
  simp only [Option.bind_some]
  have hin := zwg (D ++ List.replicate (k + 1) []) j (by omega) (by omega) l l.length j l[j] (by omega) l[j].length 0 m [] (by omega) rfl (by omega)
  rw [show ((0 : Nat) : Int) = 0 from rfl] at hin
  simp only [List.nil_append, List.drop_zero] at hin
  rw [hin]
  simp only [Option.bind_some, Sum.elim_inl]
  have hset : (D ++ List.replicate (k + 1) []).set j (rnm m l[j]).1 = (D ++ [(rnm m l[j]).1]) ++ List.replicate k [] := by
   rw [List.set_append_right _ _ (by omega), hD, Nat.sub_self, List.replicate_succ, List.set_cons_zero]; simp
  have hrl := (zqI l[j] m).2
  rw [zb (by omega), hset, ih (j + 1) _ _ (by omega) (by simp [hD]) (by omega), List.drop_eq_getElem_cons h1]
  simp [rnL]
theorem zyx (l : List (List Int)) (hl : l.length ≤ 1000) (hx : ∀ t ∈ l, t.length ≤ 1000) : zjF M l = some ((rnL [] l, ()), ()) := by
 apply zux
 have := zuB l hl hx l.length 0 [] [] (by omega) rfl (by simp)
 rw [show ((0 : Nat) : Int) = 0 from rfl] at this
 simp only [List.nil_append, List.drop_zero] at this
 simp only [zmf]
 rw [if_pos ⟨by omega, by omega, trivial⟩, Int.toNat_natCast, this]
 rfl
theorem zvn (a b : List Int) (hab : a.length = b.length) (ha : a.length ≤ 17592186044416) : ∀ k i : Nat, i + k = a.length → zbU M a b a.length i = some (if a.drop i = b.drop i then .inl () else .inr ((false, ()), ())) := by
 intro k
 induction k with
 | zero =>
  intro i hi
  obtain rfl : i = a.length := by omega
  apply zhP
  simp only [zcF]
  rw [if_neg (by simp), List.drop_length, hab, List.drop_length, if_pos rfl]
 | succ k ih =>
  intro i hi
  have h1 : i < a.length := by omega
  have h2 : i < b.length := by omega
  apply zhP
  simp only [zcF]
  rw [if_pos (by simpa using h1), zd h1, zd h2]
  simp only [Option.bind_some]
  rw [List.drop_eq_getElem_cons h1, List.drop_eq_getElem_cons h2]
  by_cases he : a[i] = b[i]
  ·rw [if_neg (by simpa using he), zb (by omega), ih (i + 1) (by omega)]
   by_cases hd : a.drop (i + 1) = b.drop (i + 1)
   ·rw [if_pos hd, if_pos (by rw [he, hd])]
   ·rw [if_neg hd, if_neg (fun h => hd (List.cons.inj h).2)]
  ·rw [if_pos (by simpa using he), if_neg (fun h => he (List.cons.inj h).1)]
theorem zhk (a b : List Int) (ha : a.length ≤ 17592186044416) : zu M a b = some ((decide (a = b), ()), ()) := by
 apply znI
 simp only [zgG]
 by_cases hl : a.length = b.length
 ·have := zvn a b hl ha a.length 0 (by omega)
  rw [show ((0 : Nat) : Int) = 0 from rfl, List.drop_zero, List.drop_zero] at this
  rw [if_neg (by simp [hl]), this]
  by_cases h : a = b
  ·rw [if_pos h]; simp [h]
  ·rw [if_neg h]; simp [h]
 ·have : ¬ a = b := fun h => hl (by rw [h])
  rw [if_pos (by simp; omega)]
  simp [this]
end Go.Proofs.YtkgpnekonnopgaaGreatCs.Ev
namespace Go.Proofs.YtkgpnekonnopgaaGreatCs.Ev
open Go
set_option autoImplicit false
set_option linter.unusedVariables false
set_option linter.unusedSimpArgs false
theorem zw1 (n : Int) (t : List Int) (ht : t.length ≤ 1048576) : ∀ k i c : Nat, i + k = t.length → c ≤ i → zgq M n c t t.length i = some (.inl (((c + (t.drop i).count n : Nat) : Int), ())) := by
 intro k
 induction k with
 | zero =>
  intro i c hi hc
  obtain rfl : i = t.length := by omega
  apply zmQ
  simp only [zht]
  rw [if_neg (by simp), List.drop_length]
  simp
 | succ k ih =>
  intro i c hi hc
  have h1 : i < t.length := by omega
  apply zmQ
  simp only [zht]
  rw [if_pos (by simpa using h1), zd h1]
  simp only [Option.bind_some]
  rw [List.drop_eq_getElem_cons h1, List.count_cons]
  by_cases h : t[i] = n
  ·rw [if_pos (by simpa using h)]
   simp only [Option.bind_some, Sum.elim_inl]
   rw [zb (by omega), zb (by omega), ih (i + 1) (c + 1) (by omega) (by omega)]
   simp [h]; omega
  ·rw [if_neg (by simpa using h)]
   simp only [Option.bind_some, Sum.elim_inl]
   rw [zb (by omega), ih (i + 1) c (by omega) (by omega)]
   simp [h]
theorem zxE (t : List Int) (n : Int) (ht : t.length ≤ 1048576) : zix M t n = some ((((t.count n : Nat) : Int), ()), ()) := by
 apply zvt
 have := zw1 n t ht t.length 0 0 (by omega) (by omega)
 rw [show ((0 : Nat) : Int) = 0 from rfl, List.drop_zero, Nat.zero_add] at this
 simp only [zm0, this, Option.bind_some, Sum.elim_inl]
theorem zxd (n : Int) (t : List Int) (ht : t.length ≤ 1048576) : ∀ k i c : Nat, i + k = t.length → c ≤ i → ze4 M n c t t.length i = some (.inl (((c + (t.drop i).count n : Nat) : Int), ())) := by
 intro k
 induction k with
 | zero =>
  intro i c hi hc
  obtain rfl : i = t.length := by omega
  apply zlE
  simp only [zgi]
  rw [if_neg (by simp), List.drop_length]
  simp
 | succ k ih =>
  intro i c hi hc
  have h1 : i < t.length := by omega
  apply zlE
  simp only [zgi]
  rw [if_pos (by simpa using h1), zd h1]
  simp only [Option.bind_some]
  rw [List.drop_eq_getElem_cons h1, List.count_cons]
  by_cases h : t[i] = n
  ·rw [if_pos (by simpa using h)]
   simp only [Option.bind_some, Sum.elim_inl]
   rw [zb (by omega), zb (by omega), ih (i + 1) (c + 1) (by omega) (by omega)]
   simp [h]; omega
  ·rw [if_neg (by simpa using h)]
   simp only [Option.bind_some, Sum.elim_inl]
   rw [zb (by omega), ih (i + 1) c (by omega) (by omega)]
   simp [h]
theorem zyd (t : List Int) (n : Int) (ht : t.length ≤ 1048576) : zhn M t n = some ((((t.count n : Nat) : Int), ()), ()) := by
 apply ztl
 have := zxd n t ht t.length 0 0 (by omega) (by omega)
 rw [show ((0 : Nat) : Int) = 0 from rfl, List.drop_zero, Nat.zero_add] at this
 simp only [zk4, this, Option.bind_some, Sum.elim_inl]
def wgh (a b : List Int) : Bool := decide (∀ v : Nat, v < 12 → b.count (-1 - (v : Int)) ≤ a.count (-1 - (v : Int)))
def gtLex : List Int → List Int → Bool
 | x :: a, y :: b => if x = y then gtLex a b else decide (0 ≤ x) && (decide (0 ≤ y) && decide (y < x))
 | _, _ => false
def gtT (a b : List Int) : Bool := wgh a b && (decide (b.length ≤ a.length) && (decide (b.length < a.length) || gtLex a b))
def cmpK (a b : List Int) : Int := if a = b then 0 else if gtT a b = true then 1 else if gtT b a = true then -1 else 2
theorem zut (a b : List Int) (ha : a.length ≤ 1048576) (hb : b.length ≤ 1048576) : ∀ k v : Nat, v + k = 12 → zdf M a b v = some (if decide (∀ w : Nat, w < 12 → v ≤ w → b.count (-1 - (w : Int)) ≤ a.count (-1 - (w : Int))) = true then .inl () else .inr ((false, ()), ())) := by
 intro k
 induction k with
 | zero =>
  intro v hv
  obtain rfl : v = 12 := by omega
  apply zjY
  simp only [zeI]
  rw [if_neg (by simp), if_pos (by simp; omega)]
 | succ k ih =>
  intro v hv
  apply zjY
  simp only [zeI]
  rw [if_pos (by simp; omega), w64 (by omega) (by omega)]
  simp only [Option.bind_some, zxE a _ ha, zxE b _ hb]
  by_cases h : b.count (-1 - (v : Int)) ≤ a.count (-1 - (v : Int))
  ·rw [if_neg (by simp; omega), zb (by omega), ih (v + 1) (by omega)]
   have : (∀ w : Nat, w < 12 → v + 1 ≤ w → b.count (-1 - (w : Int)) ≤ a.count (-1 - (w : Int))) ↔ ∀ w : Nat, w < 12 → v ≤ w → b.count (-1 - (w : Int)) ≤ a.count (-1 - (w : Int)) := by
    constructor
    ·intro q w h1 h2
     by_cases e : w = v
     ·subst e; exact h
     ·exact q w h1 (by omega)
    ·intro q w h1 h2; exact q w h1 (by omega)
   simp only [this]
  ·rw [if_pos (by simp; omega), if_neg (by simp only [decide_eq_true_eq]; intro q; exact h (q v (by omega) (Nat.le_refl _)))]
theorem zy1 (a b : List Int) (ha : a.length ≤ 1048576) (hb : b.length ≤ 1048576) : zg2 M a b = some ((wgh a b, ()), ()) := by
 apply zqP
 have := zut a b ha hb 12 0 (by omega)
 rw [show ((0 : Nat) : Int) = 0 from rfl] at this
 simp only [zi8, this, Option.bind_some]
 have e : decide (∀ w : Nat, w < 12 → 0 ≤ w → b.count (-1 - (w : Int)) ≤ a.count (-1 - (w : Int))) = wgh a b := by
  unfold wgh
  simp
 rw [e]
 cases wgh a b <;> rfl
theorem zuh (a b r : List Int) (ha : a.length ≤ 1048576) (hb : b.length ≤ 1048576) (hr : r.length ≤ 100000) (hv : ∀ v ∈ r, 0 ≤ v ∧ v ≤ 1000) : ∀ k i : Nat, i + k = r.length → zer M a b r r.length i = some (if (r.drop i).all (fun v => decide (b.count (-1 - v) ≤ a.count (-1 - v))) = true then .inl () else .inr ((false, ()), ())) := by
 intro k
 induction k with
 | zero =>
  intro i hi
  obtain rfl : i = r.length := by omega
  apply zkG
  simp only [zfR]
  rw [if_neg (by simp), if_pos (by simp)]
 | succ k ih =>
  intro i hi
  have h1 : i < r.length := by omega
  have h2 := hv _ (List.getElem_mem h1)
  apply zkG
  simp only [zfR]
  rw [if_pos (by simpa using h1), if_pos (by omega), Int.toNat_natCast, List.getElem?_eq_getElem h1]
  simp only [Option.bind_some]
  rw [w64 (by omega) (by omega)]
  simp only [Option.bind_some, zyd a _ ha, zyd b _ hb]
  rw [List.drop_eq_getElem_cons h1, List.all_cons]
  by_cases h : b.count (-1 - r[i]) ≤ a.count (-1 - r[i])
  ·rw [if_neg (by simp; omega), zb (by omega), ih (i + 1) (by omega), decide_eq_true h, Bool.true_and]
  ·rw [if_pos (by simp; omega), decide_eq_false h, Bool.false_and, if_neg (by simp)]
theorem zzf (a b : List Int) (ha : a.length ≤ 1048576) (hb : b.length ≤ 4000) (hw : ∀ n ∈ b, -12 ≤ n) : zie M a b = some ((wgh a b, ()), ()) := by
 apply zse
 have hm : ∀ v, v ∈ (negs b).foldl putN [] ↔ 0 ≤ v ∧ -1 - v ∈ b := by
  intro v; rw [zh2, zrv]; simp
 have hl : ((negs b).foldl putN []).length ≤ 100000 := by
  have := zje (negs b) []
  have := zoM b
  simp at *; omega
 have hv : ∀ v ∈ (negs b).foldl putN [], 0 ≤ v ∧ v ≤ 1000 := by
  intro v h
  have h := (hm v).1 h
  have := hw _ h.2
  omega
 have := zuh a b _ ha (by omega) hl hv _ 0 (by rw [Nat.zero_add])
 rw [show ((0 : Nat) : Int) = 0 from rfl, List.drop_zero] at this
 simp only [zkt, znD b hb (fun n hn => by have := hw n hn; omega), Option.bind_some, this]
 have e : ((negs b).foldl putN []).all (fun v => decide (b.count (-1 - v) ≤ a.count (-1 - v))) = wgh a b := by
  unfold wgh
  rw [Bool.eq_iff_iff]
  simp only [List.all_eq_true, decide_eq_true_eq]
  constructor
  ·intro q v hv
   by_cases h : -1 - (v : Int) ∈ b
   ·exact q v ((hm v).2 ⟨by omega, h⟩)
   ·rw [List.count_eq_zero_of_not_mem h]; omega
  ·intro q v hv
   have h := (hm v).1 hv
   have := hw _ h.2
   have := q v.toNat (by omega)
   rwa [show ((v.toNat : Nat) : Int) = v by omega] at this
 rw [e]
 cases wgh a b <;> rfl
theorem zm8 (a b : List Int) (hl : a.length = b.length) (ha : a.length ≤ 1048576) : ∀ k i : Nat, i + k = a.length → zdo M b a a.length i = some (if a.drop i = b.drop i then .inl () else .inr ((gtLex (a.drop i) (b.drop i), ()), ())) := by
 intro k
 induction k with
 | zero =>
  intro i hi
  obtain rfl : i = a.length := by omega
  apply zjZ
  simp only [zeH]
  rw [if_neg (by simp), List.drop_length, hl, List.drop_length, if_pos rfl]
 | succ k ih =>
  intro i hi
  have h1 : i < a.length := by omega
  have h2 : i < b.length := by omega
  apply zjZ
  simp only [zeH]
  rw [if_pos (by simpa using h1), zd h1, zd h2]
  simp only [Option.bind_some]
  rw [List.drop_eq_getElem_cons h1, List.drop_eq_getElem_cons h2]
  by_cases he : a[i] = b[i]
  ·rw [if_neg (by simpa using he), zb (by omega), ih (i + 1) (by omega)]
   by_cases hd : a.drop (i + 1) = b.drop (i + 1)
   ·rw [if_pos hd, if_pos (by rw [he, hd])]
   ·rw [if_neg hd, if_neg (fun h => hd (List.cons.inj h).2), gtLex, if_pos he]
  ·rw [if_pos (by simpa using he), if_neg (fun h => he (List.cons.inj h).1), gtLex, if_neg he]
   by_cases p : 0 ≤ a[i]
   ·rw [if_pos (by simpa using p)]
    by_cases q : 0 ≤ b[i]
    ·rw [if_pos (by simpa using q)]
     simp [p, q]
    ·rw [if_neg (by simpa using q)]
     simp [q]
   ·rw [if_neg (by simpa using p)]
    simp [p]
theorem zne (a b : List Int) (hl : a.length = b.length) (ha : a.length ≤ 1048576) : ∀ k i : Nat, i + k = a.length → zdl M a b a.length i = some (if a.drop i = b.drop i then .inl () else .inr ((gtLex (a.drop i) (b.drop i), ()), ())) := by
 intro k
 induction k with
 | zero =>
  intro i hi
  obtain rfl : i = a.length := by omega
  apply zjU
  simp only [zeM]
  rw [if_neg (by simp), List.drop_length, hl, List.drop_length, if_pos rfl]
 | succ k ih =>
  intro i hi
  have h1 : i < a.length := by omega
  have h2 : i < b.length := by omega
  apply zjU
  simp only [zeM]
  rw [if_pos (by simpa using h1), zd h1, zd h2]
  simp only [Option.bind_some]
  rw [List.drop_eq_getElem_cons h1, List.drop_eq_getElem_cons h2]
  by_cases he : a[i] = b[i]
  ·rw [if_neg (by simpa using he), zb (by omega), ih (i + 1) (by omega)]
   by_cases hd : a.drop (i + 1) = b.drop (i + 1)
   ·rw [if_pos hd, if_pos (by rw [he, hd])]
   ·rw [if_neg hd, if_neg (fun h => hd (List.cons.inj h).2), gtLex, if_pos he]
  ·rw [if_pos (by simpa using he), if_neg (fun h => he (List.cons.inj h).1), gtLex, if_neg he]
   by_cases p : 0 ≤ a[i]
   ·rw [if_pos (by simpa using p)]
    by_cases q : 0 ≤ b[i]
    ·rw [if_pos (by simpa using q)]
     simp [p, q]
    ·rw [if_neg (by simpa using q)]
     simp [q]
   ·rw [if_neg (by simpa using p)]
    simp [p]
theorem zsp (a : List Int) : gtLex a a = false := by
 induction a with
 | nil => rfl
 | cons x a ih => rw [gtLex, if_pos rfl, ih]
def smT (a : List Int) : Prop := a.length ≤ 4000 ∧ ∀ n ∈ a, -12 ≤ n
theorem zlm (a b : List Int) (ha : smT a) (hb : smT b) : zcM M a b = some ((gtT a b, ()), ()) := by
 have la := ha.1
 have lb := hb.1
 apply zrR
 simp only [zjM, zy1 a b (by omega) (by omega), Option.bind_some, gtT]
 by_cases h1 : a.length < b.length
 ·rw [if_pos (by simpa using h1), decide_eq_false (by omega)]; simp
 ·rw [if_neg (by simpa using h1), decide_eq_true (show b.length ≤ a.length by omega)]
  cases wgh a b with
  | false => rfl
  | true =>
   rw [if_neg (by simp)]
   by_cases h2 : b.length < a.length
   ·rw [if_pos (by simpa using h2), decide_eq_true h2]; rfl
   ·rw [if_neg (by simpa using h2), decide_eq_false h2]
    have := zm8 a b (by omega) (by omega) a.length 0 (by omega)
    rw [show ((0 : Nat) : Int) = 0 from rfl, List.drop_zero, List.drop_zero] at this
    rw [this]
    by_cases e : a = b
    ·rw [if_pos e, e, zsp]; rfl
    ·rw [if_neg e]; rfl
theorem zln (a b : List Int) (ha : smT a) (hb : smT b) : zcP M a b = some ((gtT a b, ()), ()) := by
 have la := ha.1
 have lb := hb.1
 apply zr4
 simp only [zjL, zzf a b (by omega) (by omega) hb.2, Option.bind_some, gtT]
 cases wgh a b with
 | false => rfl
 | true =>
  rw [if_neg (by simp)]
  by_cases h1 : a.length < b.length
  ·rw [if_pos (by simpa using h1), decide_eq_false (by omega)]; simp
  ·rw [if_neg (by simpa using h1), decide_eq_true (show b.length ≤ a.length by omega)]
   by_cases h2 : b.length < a.length
   ·rw [if_pos (by simpa using h2), decide_eq_true h2]; rfl
   ·rw [if_neg (by simpa using h2), decide_eq_false h2]
    have := zne a b (by omega) (by omega) a.length 0 (by omega)
    rw [show ((0 : Nat) : Int) = 0 from rfl, List.drop_zero, List.drop_zero] at this
    rw [this]
    by_cases e : a = b
    ·rw [if_pos e, e, zsp]; rfl
    ·rw [if_neg e]; rfl
theorem zv1 (a b : List Int) (hab : a.length = b.length) (ha : a.length ≤ 17592186044416) : ∀ k i : Nat, i + k = a.length → zfF M a b a.length i = some (if a.drop i = b.drop i then .inl () else .inr ((false, ()), ())) := by
 intro k
 induction k with
 | zero =>
  intro i hi
  obtain rfl : i = a.length := by omega
  apply zms
  simp only [zgS]
  rw [if_neg (by simp), List.drop_length, hab, List.drop_length, if_pos rfl]
 | succ k ih =>
  intro i hi
  have h1 : i < a.length := by omega
  have h2 : i < b.length := by omega
  apply zms
  simp only [zgS]
  rw [if_pos (by simpa using h1), zd h1, zd h2]
  simp only [Option.bind_some]
  rw [List.drop_eq_getElem_cons h1, List.drop_eq_getElem_cons h2]
  by_cases he : a[i] = b[i]
  ·rw [if_neg (by simpa using he), zb (by omega), ih (i + 1) (by omega)]
   by_cases hd : a.drop (i + 1) = b.drop (i + 1)
   ·rw [if_pos hd, if_pos (by rw [he, hd])]
   ·rw [if_neg hd, if_neg (fun h => hd (List.cons.inj h).2)]
  ·rw [if_pos (by simpa using he), if_neg (fun h => he (List.cons.inj h).1)]
theorem zhL (a b : List Int) (ha : a.length ≤ 17592186044416) : zaO M a b = some ((decide (a = b), ()), ()) := by
 apply zus
 simp only [zlY]
 by_cases hl : a.length = b.length
 ·have := zv1 a b hl ha a.length 0 (by omega)
  rw [show ((0 : Nat) : Int) = 0 from rfl, List.drop_zero, List.drop_zero] at this
  rw [if_neg (by simp [hl]), this]
  by_cases h : a = b
  ·rw [if_pos h]; simp [h]
  ·rw [if_neg h]; simp [h]
 ·have : ¬ a = b := fun h => hl (by rw [h])
  rw [if_pos (by simp; omega)]
  simp [this]
theorem zsS (a b : List Int) (ha : smT a) (hb : smT b) : zfU M a b = some ((cmpK a b, ()), ()) ∧ zhK M a b = some ((cmpK a b, ()), ()) := by
 have la := ha.1
 refine ⟨zpu _ _ ?_, zr6 _ _ ?_⟩
 ·simp only [zh6, zhk a b (by omega), zlm a b ha hb, zlm b a hb ha, Option.bind_some, cmpK, decide_eq_true_eq]
  split
  ·rfl
  ·split
   ·rfl
   ·split <;> rfl
 ·simp only [zjN, zhL a b (by omega), zln a b ha hb, zln b a hb ha, Option.bind_some, cmpK, decide_eq_true_eq]
  split
  ·rfl
  ·split
   ·rfl
   ·split <;> rfl
end Go.Proofs.YtkgpnekonnopgaaGreatCs.Ev
namespace Go.Proofs.YtkgpnekonnopgaaGreatCs.Ev
open Go
set_option autoImplicit false
set_option linter.unusedVariables false
set_option linter.unusedSimpArgs false
def tab (f : Nat → List Int) : List (List Int) := (List.range 12).map f
theorem zdB (f : Nat → List Int) : (tab f).length = 12 := by simp [tab]
theorem zhY (f : Nat → List Int) {k : Nat} (h : k < 12) : (tab f)[k]? = some (f k) := by simp [tab, h]
theorem zcn {f g : Nat → List Int} (h : ∀ k, k < 12 → f k = g k) : tab f = tab g := List.map_congr_left fun k hk => h k (by simpa using hk)
theorem zmK (f : Nat → List Int) {k : Nat} (h : k < 12) (y : List Int) : (tab f).set k y = tab fun j => if j = k then y else f j := by
 apply List.ext_getElem?
 intro j
 rw [List.getElem?_set, zdB]
 by_cases e : k = j
 ·subst e
  rw [if_pos rfl, if_pos h, zhY _ h, if_pos rfl]
 ·rw [if_neg e]
  by_cases hj : j < 12
  ·rw [zhY _ hj, zhY _ hj, if_neg (Ne.symm e)]
  ·rw [List.getElem?_eq_none (by rw [zdB]; omega), List.getElem?_eq_none (by rw [zdB]; omega)]
theorem zwC : List.replicate 12 ([] : List Int) = tab fun _ => [] := rfl
abbrev tabS (σ : Int → List Int) : List (List Int) := tab fun k => σ (k : Int)
theorem zcB (σ : Int → List Int) : SubF (tabS σ) σ := ⟨zdB _, fun v h0 h1 => by rw [zhY _ (by omega)]; congr 1; rw [show ((v.toNat : Nat) : Int) = v by omega]⟩
theorem zzV (f : Nat → List Int) {k : Nat} (h : k < 12) : idx (tab f) (k : Int) = some (f k) := by
 rw [zzG, zhY f h]
theorem ztw {f : Nat → List Int} {t : List Int} (h : t ∈ tab f) : ∃ k, k < 12 ∧ t = f k := by
 obtain ⟨k, hk, rfl⟩ := List.mem_map.1 h
 exact ⟨k, by simpa using hk, rfl⟩
theorem zwB {n : Int} (hn : n < 0) (h12 : -12 ≤ n) (t : List Int) : (List.replicate 12 ([] : List Int)).set (-1 - n).toNat t = tabS (oneS n t) := by
 rw [zwC, zmK _ (by omega)]
 refine zcn fun k hk => ?_
 unfold oneS
 by_cases e : k = (-1 - n).toNat
 ·rw [if_pos e, if_pos (by omega)]
 ·rw [if_neg e, if_neg (by omega)]
theorem zoJ {n : Int} {t : List Int} (ht : t.length ≤ 40) : ∀ v, (oneS n t v).length ≤ 100000 := by
 intro v; unfold oneS; split
 ·omega
 ·simp
def putS (σ : Int → List Int) (n : Int) (t : List Int) (k : Nat) : List Int := if σ (k : Int) ≠ [] then apS (oneS n t) (σ (k : Int)) else []
theorem zw3 (σ : Int → List Int) (n : Int) (t : List Int) (hn : n < 0) (h12 : -12 ≤ n) (ht : t.length ≤ 40) (hσ : ∀ k : Nat, k < 12 → smT (σ (k : Int)) ∧ (σ (k : Int)).length ≤ 40) : ∀ (j k : Nat), k + j = 12 → ze2 M (tabS σ) (-1 - n) t (tabS (oneS n t)) (tab fun i => if i < k then putS σ n t i else []) 12 k = some (.inl (-1 - n, t, tab (putS σ n t), ())) := by
 intro j
 induction j with
 | zero =>
  intro k hk
  obtain rfl : k = 12 := by omega
  apply zlI
  simp only [zgh]
  rw [if_neg (by simp)]
  have : tab (fun i => if i < 12 then putS σ n t i else []) = tab (putS σ n t) := zcn fun i hi => by rw [if_pos hi]
  rw [this]
 | succ j ih =>
  intro k hk
  have h1 : k < 12 := by omega
  obtain ⟨s1, s2⟩ := hσ k h1
  have hnext : ∀ y, y = putS σ n t k → (tab fun i => if i < k then putS σ n t i else []).set k y = tab fun i => if i < k + 1 then putS σ n t i else [] := by
   intro y hy
   rw [zmK _ h1]
   refine zcn fun i hi => ?_
   by_cases e : i = k
   ·rw [if_pos e, if_pos (by omega), hy, e]
   ·rw [if_neg e]
    by_cases q : i < k
    ·rw [if_pos q, if_pos (by omega)]
    ·rw [if_neg q, if_neg (by omega)]
  apply zlI
  simp only [zgh]
  rw [if_pos (by simp; omega), zzV _ h1]
  simp only [Option.bind_some]
  by_cases hs : σ (k : Int) = []
  ·rw [if_neg (by simp [hs])]
   simp only [Option.bind_some, Sum.elim_inl]
   rw [zb (by omega), ← ih (k + 1) (by omega)]
   congr 1
   refine zcn fun i hi => ?_
   by_cases q : i < k
   ·rw [if_pos q, if_pos (by omega)]
   ·rw [if_neg q]
    by_cases e : i = k
    ·rw [if_pos (by omega), e]; unfold putS; rw [if_neg (by simpa using hs)]
    ·rw [if_neg (by omega)]
  ·have hl := List.length_pos_iff.2 hs
   rw [if_pos (by simp; omega), zdj _ _ (zcB (oneS n t)) (zoJ ht) _ (by omega) s1.2]
   simp only [Option.bind_some]
   rw [if_pos (by rw [zdB]; omega), Int.toNat_natCast, zhY _ h1]
   simp only [Option.bind_some, Sum.elim_inl]
   rw [zb (by omega), hnext _ (by unfold putS; rw [if_pos hs]), ih (k + 1) (by omega)]
theorem zu7 (σ : Int → List Int) {n : Int} (hn : n < 0) (h12 : -12 ≤ n) (t : List Int) : (tab (putS σ n t)).set (-1 - n).toNat t = tabS (bindS σ n t) := by
 rw [zmK _ (by omega)]
 refine zcn fun k hk => ?_
 unfold bindS putS
 by_cases e : k = (-1 - n).toNat
 ·rw [if_pos e, if_pos (by omega)]
 ·rw [if_neg e, if_neg (show ¬ ((k : Int) = -1 - n) by omega)]
theorem zzn (σ : Int → List Int) (n : Int) (t : List Int) (hn : n < 0) (h12 : -12 ≤ n) (ht : t.length ≤ 40) (hσ : ∀ k : Nat, k < 12 → smT (σ (k : Int)) ∧ (σ (k : Int)).length ≤ 40) : zgb M (tabS σ) (-1 - n) t = some ((tabS (bindS σ n t), ()), ()) := by
 have hl := zw3 σ n t hn h12 ht hσ 12 0 (by omega)
 rw [show ((0 : Nat) : Int) = 0 from rfl] at hl
 have e0 : (tab fun i => if i < 0 then putS σ n t i else []) = List.replicate 12 ([] : List Int) := by rw [zwC]; exact zcn fun i _ => by rw [if_neg (by omega)]
 rw [e0] at hl
 apply zuA
 simp only [zml]
 rw [if_pos ⟨by decide, by decide, trivial⟩, show (12 : Int).toNat = 12 from rfl]
 rw [if_pos (by simp; omega), List.getElem?_eq_getElem (by simp; omega)]
 simp only [Option.bind_some]
 rw [if_pos ⟨by decide, by decide, trivial⟩, zwB hn h12, show ((List.replicate 12 ([] : List Int)).length : Int) = 12 from by simp, hl]
 simp only [Option.bind_some, Sum.elim_inl, zlx t (by omega)]
 rw [if_pos (by rw [zdB]; omega), zhY _ (by omega)]
 simp only [Option.bind_some, zu7 σ hn h12 t]
theorem zxT (s : TSign) (x y : List Int) (σ : Int → List Int) (n : Int) (t : List Int) (hn : n < 0) (h12 : -12 ≤ n) (ht : t.length ≤ 40) (hσ : ∀ k : Nat, k < 12 → smT (σ (k : Int)) ∧ (σ (k : Int)).length ≤ 40) : ∀ (j k : Nat), k + j = 12 → (zB M x y s (tab fun i => if i < k then putS σ n t i else σ (i : Int)) n t (tabS (oneS n t)) 12 k = some (.inl (x, y, s, tab (putS σ n t), n, t, ())) ∧ ∀ i, k ≤ i → i < 12 → (putS σ n t i).length ≤ 40) ∨
  (zB M x y s (tab fun i => if i < k then putS σ n t i else σ (i : Int)) n t (tabS (oneS n t)) 12 k = some (.inr (([], false, ()), ())) ∧ ∃ i, i < 12 ∧ 40 < (putS σ n t i).length) := by
 intro j
 induction j with
 | zero =>
  intro k hk
  obtain rfl : k = 12 := by omega
  refine .inl ⟨zcE _ _ _ _ _ _ _ _ _ ?_, fun i h1 h2 => by omega⟩
  simp only [zbf]
  rw [if_neg (by simp)]
  have : tab (fun i => if i < 12 then putS σ n t i else σ (i : Int)) = tab (putS σ n t) := zcn fun i hi => by rw [if_pos hi]
  rw [this, za]
 | succ j ih =>
  intro k hk
  have h1 : k < 12 := by omega
  obtain ⟨s1, s2⟩ := hσ k h1
  have hcur : (tab fun i => if i < k then putS σ n t i else σ (i : Int))[k]? = some (σ (k : Int)) := by rw [zhY _ h1, if_neg (by omega)]
  have hlen : ((tab fun i => if i < k then putS σ n t i else σ (i : Int)).length : Int) = 12 := by rw [zdB]; rfl
  by_cases hs : σ (k : Int) = []
  ·have hp : putS σ n t k = [] := by unfold putS; rw [if_neg (by simpa using hs)]
   have e : (tab fun i => if i < k then putS σ n t i else σ (i : Int)) = tab fun i => if i < k + 1 then putS σ n t i else σ (i : Int) := by
    refine zcn fun i hi => ?_
    by_cases q : i < k
    ·rw [if_pos q, if_pos (by omega)]
    ·rw [if_neg q]
     by_cases e : i = k
     ·rw [if_pos (by omega), e, hp, hs]
     ·rw [if_neg (by omega)]
   have step : ∀ r, zB M x y s (tab fun i => if i < k + 1 then putS σ n t i else σ (i : Int)) n t (tabS (oneS n t)) 12 ((k + 1 : Nat) : Int) = some r → zB M x y s (tab fun i => if i < k then putS σ n t i else σ (i : Int)) n t (tabS (oneS n t)) 12 k = some r := by
    intro r hr
    apply zcE
    simp only [zbf]
    rw [if_pos (by simp; omega), if_pos (by rw [hlen]; omega), Int.toNat_natCast, hcur]
    simp only [Option.bind_some]
    rw [if_neg (by simp [hs])]
    simp only [Option.bind_some, Sum.elim_inl, za]
    rw [zb (by omega), e]
    exact hr
   rcases ih (k + 1) (by omega) with ⟨q1, q2⟩ | ⟨q1, q2⟩
   ·refine .inl ⟨step _ q1, fun i hi hi' => ?_⟩
    by_cases e : i = k
    ·rw [e, hp]; simp
    ·exact q2 i (by omega) hi'
   ·exact .inr ⟨step _ q1, q2⟩
  ·have hl := List.length_pos_iff.2 hs
   have hp : putS σ n t k = apS (oneS n t) (σ (k : Int)) := by unfold putS; rw [if_pos hs]
   have happ := zkO _ _ (zcB (oneS n t)) (zoJ ht) (σ (k : Int)) (by omega) s1.2
   rw [← hp] at happ
   by_cases h40 : (putS σ n t k).length ≤ 40
   ·rw [if_pos h40] at happ
    have e : (tab fun i => if i < k then putS σ n t i else σ (i : Int)).set k (putS σ n t k) = tab fun i => if i < k + 1 then putS σ n t i else σ (i : Int) := by
     rw [zmK _ h1]
     refine zcn fun i hi => ?_
     by_cases e : i = k
     ·rw [if_pos e, if_pos (by omega), e]
     ·rw [if_neg e]
      by_cases q : i < k
      ·rw [if_pos q, if_pos (by omega)]
      ·rw [if_neg q, if_neg (by omega)]
    have step : ∀ r, zB M x y s (tab fun i => if i < k + 1 then putS σ n t i else σ (i : Int)) n t (tabS (oneS n t)) 12 ((k + 1 : Nat) : Int) = some r → zB M x y s (tab fun i => if i < k then putS σ n t i else σ (i : Int)) n t (tabS (oneS n t)) 12 k = some r := by
     intro r hr
     apply zcE
     simp only [zbf]
     rw [if_pos (by simp; omega), if_pos (by rw [hlen]; omega), Int.toNat_natCast, hcur]
     simp only [Option.bind_some]
     rw [if_pos (by simp; omega), happ]
     simp only [Option.bind_some]
     rw [if_pos (by rw [hlen]; omega)]
     try simp only [Option.bind_some]
     rw [if_neg (by simp)]
     simp only [Option.bind_some, Sum.elim_inl, za]
     rw [zb (by omega), e]
     exact hr
    rcases ih (k + 1) (by omega) with ⟨q1, q2⟩ | ⟨q1, q2⟩
    ·refine .inl ⟨step _ q1, fun i hi hi' => ?_⟩
     by_cases e : i = k
     ·rw [e]; exact h40
     ·exact q2 i (by omega) hi'
    ·exact .inr ⟨step _ q1, q2⟩
   ·rw [if_neg h40] at happ
    refine .inr ⟨zcE _ _ _ _ _ _ _ _ _ ?_, k, h1, by omega⟩
    simp only [zbf]
    rw [if_pos (by simp; omega), if_pos (by rw [hlen]; omega), Int.toNat_natCast, hcur]
    simp only [Option.bind_some]
    rw [if_pos (by simp; omega), happ]
    simp only [Option.bind_some]
    rw [if_pos (by rw [hlen]; omega)]
    try simp only [Option.bind_some]
    rw [if_pos (by simp)]
    rfl
theorem zv4 (s : TSign) (hg : gS s.1 = true) (x y : List Int) (l : List (List Int)) (hl : l.length ≤ 100) (hx : ∀ t ∈ l, t.length ≤ 1048576) : ∀ k i : Nat, i + k = l.length → zdy M x y s l l.length i = some (if (l.drop i).all (fun t => t.isEmpty || isT s.1 t) = true then .inl (x, y, s, ()) else .inr ((false, ()), ())) := by
 intro k
 induction k with
 | zero =>
  intro i hi
  obtain rfl : i = l.length := by omega
  apply zlA
  simp only [zgp]
  rw [if_neg (by simp)]
  simp
 | succ k ih =>
  intro i hi
  have h1 : i < l.length := by omega
  have h2 := hx _ (List.getElem_mem h1)
  apply zlA
  simp only [zgp]
  rw [if_pos (by simpa using h1), zd h1, zb (by omega)]
  simp only [Option.bind_some, za, ih (i + 1) (by omega)]
  rw [List.drop_eq_getElem_cons h1, List.all_cons]
  by_cases he : l[i] = []
  ·rw [if_neg (by simp [he])]
   simp [he]
  ·have hp := List.length_pos_iff.2 he
   rw [if_pos (by simp; omega), znj s hg _ h2]
   simp only [Option.bind_some]
   have : l[i].isEmpty = false := by cases h : l[i] with
    | nil => exact absurd h he
    | cons _ _ => rfl
   rw [this, Bool.false_or]
   cases isT s.1 l[i] with
   | false => rfl
   | true => simp
theorem ztK (s : TSign) (hg : gS s.1 = true) (l : List (List Int)) (hl : l.length ≤ 100) (hx : ∀ t ∈ l, t.length ≤ 1048576) (x y : List Int) (lx : x.length ≤ 1048576) (ly : y.length ≤ 1048576) : zhm M s l x y = some ((l.all (fun t => t.isEmpty || isT s.1 t) && (isT s.1 x && isT s.1 y), ()), ()) := by
 apply zs2
 have := zv4 s hg x y l hl hx l.length 0 (by omega)
 rw [show ((0 : Nat) : Int) = 0 from rfl, List.drop_zero] at this
 simp only [zld, za, this, Option.bind_some]
 cases l.all fun t => t.isEmpty || isT s.1 t with
 | false => rfl
 | true =>
  simp only [if_true, Sum.elim_inl, za, znj s hg x lx, znj s hg y ly, Option.bind_some]
  cases isT s.1 x <;> rfl
theorem zyE (a b : List Int) (s : TSign) (f : List (List Int)) (x y : List Int) (hx : x.length ≤ 1048576) : ∀ k i : Nat, i + k = lcp x y → zdS M a b s f x y i = some (.inl (a, b, s, f, x, y, (lcp x y : Int), ())) := by
 intro k
 have hle := zsH x y
 induction k with
 | zero =>
  intro i hi
  obtain rfl : i = lcp x y := by omega
  apply zkA
  simp only [zfj, za]
  by_cases h1 : lcp x y < x.length
  ·rw [if_pos (by simpa using h1)]
   by_cases h2 : lcp x y < y.length
   ·rw [if_pos (by simpa using h2), if_pos (by omega), Int.toNat_natCast, List.getElem?_eq_getElem h1]
    simp only [Option.bind_some]
    rw [if_pos (by omega), List.getElem?_eq_getElem h2]
    simp only [Option.bind_some]
    rw [if_neg (by simpa using zsh x y h1 h2)]
   ·rw [if_neg (by simpa using h2)]
  ·rw [if_neg (by simpa using h1)]
 | succ k ih =>
  intro i hi
  have h1 : i < x.length := by omega
  have h2 : i < y.length := by omega
  have he := ztu x y i (by omega)
  rw [List.getElem?_eq_getElem h1, List.getElem?_eq_getElem h2] at he
  apply zkA
  simp only [zfj, za]
  rw [if_pos (by simpa using h1), if_pos (by simpa using h2), if_pos (by omega), Int.toNat_natCast, List.getElem?_eq_getElem h1]
  simp only [Option.bind_some]
  rw [if_pos (by omega), List.getElem?_eq_getElem h2]
  simp only [Option.bind_some]
  rw [if_pos (by simpa using Option.some.inj he), zb (by omega)]
  exact ih (i + 1) (by omega)
theorem zyS (s : TSign) (f : List (List Int)) (x y : List Int) (hx : x.length ≤ 1048576) : ∀ k i : Nat, i + k = lcp x y → zcY M x y s f i = some (.inl (x, y, s, f, (lcp x y : Int), ())) := by
 intro k
 have hle := zsH x y
 induction k with
 | zero =>
  intro i hi
  obtain rfl : i = lcp x y := by omega
  apply zjd
  simp only [zec, za]
  by_cases h1 : lcp x y < x.length
  ·rw [if_pos (by simpa using h1)]
   by_cases h2 : lcp x y < y.length
   ·rw [if_pos (by simpa using h2), zd h1, zd h2]
    simp only [Option.bind_some]
    rw [if_neg (by simpa using zsh x y h1 h2)]
   ·rw [if_neg (by simpa using h2)]
  ·rw [if_neg (by simpa using h1)]
 | succ k ih =>
  intro i hi
  have h1 : i < x.length := by omega
  have h2 : i < y.length := by omega
  have he := ztu x y i (by omega)
  rw [List.getElem?_eq_getElem h1, List.getElem?_eq_getElem h2] at he
  apply zjd
  simp only [zec, za]
  rw [if_pos (by simpa using h1), if_pos (by simpa using h2), zd h1, zd h2]
  simp only [Option.bind_some]
  rw [if_pos (by simpa using Option.some.inj he), zb (by omega)]
  exact ih (i + 1) (by omega)
end Go.Proofs.YtkgpnekonnopgaaGreatCs.Ev
