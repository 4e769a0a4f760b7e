/- Texts laid together: PAa, PBa, PB, VAa, VAc, VAb, QD, WAc, QE, QHa, PEb, QIa, QJa, QH, QKa, WAa, WAd; no condition but those that each theorem names. -/
import Derived.Test.YtkgpnekonnopgaaGreatIrEq
namespace Go.Proofs.YtkgpnekonnopgaaGreatIr.Ev
open Go
set_option autoImplicit false
set_option linter.unusedVariables false
set_option linter.unusedSimpArgs false
theorem w64 {x : Int} (h : -9223372036854775808 ≤ x) (k : x < 9223372036854775808) : IntKind.i64.wrap x = x := by
 rw [IntKind.wrap_i64]
 omega
theorem w8 {x : Int} (h : 0 ≤ x) (k : x < 256) : IntKind.u8.wrap x = x := by
 simp only [IntKind.wrap, IntKind.bits, IntKind.signed, Bool.false_and, Bool.false_eq_true, if_false]
 omega
theorem zA0 {α : Type} (xs : List α) (i : Nat) : idx xs (i : Int) = xs[i]? := by simp [idx]
theorem zwi {α : Type} (xs : List α) : idx xs 0 = xs[0]? := by simp [idx]
theorem zd {α : Type} {xs : List α} {i : Nat} (h : i < xs.length) : idx xs (i : Int) = some xs[i] := by simp [idx, h]
theorem zb {i : Nat} (h : i < 4611686018427387904) : IntKind.i64.wrap ((i : Int) + 1) = ((i + 1 : Nat) : Int) := by
 rw [w64 (by omega) (by omega)]; rfl
abbrev TSign := List Int × Unit
abbrev TLit := Bool × List Int × List Int × Unit
def smL (x : TLit) : Prop := x.2.1.length ≤ 1048576 ∧ x.2.2.1.length ≤ 1048576
end Go.Proofs.YtkgpnekonnopgaaGreatIr.Ev
namespace Go.Proofs.YtkgpnekonnopgaaGreatIr.Ev
open Go
set_option autoImplicit false
set_option linter.unusedVariables false
set_option linter.unusedSimpArgs false
theorem zdA (x lo hi : Int) : zaL M x lo hi = some ((decide (lo ≤ x) && decide (x ≤ hi), ()), ()) := by
 apply zxk
 simp only [zoO, decide_eq_true_eq]
 by_cases h : x ≥ lo
 ·rw [if_pos h]; simp [h]
 ·rw [if_neg h]; simp; omega
theorem zv6 (a : List Int) (lo up : Int) (ha : a.length ≤ 17592186044416) : ∀ k i : Nat, i + k = a.length → zgK M lo up a a.length i = some (if (a.drop i).all (fun x => decide (lo ≤ x) && decide (x ≤ up)) = true then .inl () else .inr ((false, ()), ())) := by
 intro k
 induction k with
 | zero =>
  intro i hi
  obtain rfl : i = a.length := by omega
  apply zn0
  simp [zih]
 | succ k ih =>
  intro i hi
  apply zn0
  have h1 : i < a.length := by omega
  simp only [zih]
  rw [if_pos (by simpa using h1), zd h1, zb (by omega)]
  simp only [Option.bind_some, zdA, ih (i + 1) (by omega)]
  rw [List.drop_eq_getElem_cons h1, List.all_cons]
  generalize (decide (lo ≤ a[i]) && decide (a[i] ≤ up)) = b
  cases b <;> rfl
theorem zxK (a : List Int) (lo hi : Int) (ha : a.length ≤ 17592186044416) : zge M a lo hi = some ((a.all (fun x => decide (lo ≤ x) && decide (x ≤ hi)), ()), ()) := by
 apply zv5
 simp only [znO]
 have := zv6 a lo hi ha a.length 0 (by omega)
 rw [show ((0 : Nat) : Int) = 0 from rfl] at this
 rw [this, List.drop_zero]
 cases a.all (fun x => decide (lo ≤ x) && decide (x ≤ hi)) <;> simp
def gS (a : List Int) : Bool := decide (1 ≤ a.length) && (decide (a.length ≤ 10) && (a.all (fun x => decide (0 ≤ x) && decide (x ≤ 3)) && decide (a[0]? = some 0)))
theorem zgP (s : TSign) (ha : s.1.length ≤ 17592186044416) : zgR M s = some ((gS s.1, ()), ()) := by
 apply ztB
 simp only [zll, zdA, zxK s.1 0 3 ha, Option.bind_some, gS]
 rcases hs : s.1 with _ | ⟨x, r⟩
 ·simp
 ·rw [zwi]
  simp only [List.length_cons, List.getElem?_cons_zero, Option.bind_some]
  by_cases h : r.length + 1 ≤ 10
  ·rw [if_pos (by simp; omega)]
   cases (x :: r).all (fun x => decide (0 ≤ x) && decide (x ≤ 3)) <;> simp [h]
   rw [Bool.eq_iff_iff]; simp
  ·rw [if_neg (by simp; omega)]
   simp [h]
theorem zAN (x : Int) : zhs M x = some ((!(decide (0 ≤ x) && decide (x ≤ 3)), ()), ()) := by
 apply zr3
 simp only [zjR, decide_eq_true_eq]
 by_cases h : x < 0
 ·rw [if_pos h]; simp; omega
 ·rw [if_neg h]
  have h0 : 0 ≤ x := by omega
  rw [decide_eq_true h0, Bool.true_and]
  by_cases h3 : x ≤ 3
  ·rw [decide_eq_true h3, decide_eq_false (by omega)]; rfl
  ·rw [decide_eq_false h3, decide_eq_true (by omega)]; rfl
theorem zwg (a : List Int) (ha : a.length ≤ 17592186044416) : ∀ k i : Nat, i + k = a.length → ∃ r, zaa M a () a.length i = some r ∧ (match r with | .inl _ => (a.drop i).all (fun x => decide (0 ≤ x) && decide (x ≤ 3)) = true | .inr r => 0 ≤ r.1.1 ∧ (a.drop i).all (fun x => decide (0 ≤ x) && decide (x ≤ 3)) = false) := by
 intro k
 induction k with
 | zero =>
  intro i hi
  obtain rfl : i = a.length := by omega
  refine ⟨.inl (), zbl _ _ _ _ (by simp [z8]), by simp⟩
 | succ k ih =>
  intro i hi
  have h1 : i < a.length := by omega
  obtain ⟨r, hr, hm⟩ := ih (i + 1) (by omega)
  rw [List.drop_eq_getElem_cons h1, List.all_cons]
  by_cases hp : (decide (0 ≤ a[i]) && decide (a[i] ≤ 3)) = true
  ·refine ⟨r, zbl _ _ _ _ ?_, by rw [hp, Bool.true_and]; exact hm⟩
   simp only [z8]
   rw [if_pos (by simpa using h1), zd h1, zb (by omega)]
   simp only [Option.bind_some, zAN, hp, Bool.not_true, Bool.false_eq_true, if_false]
   exact hr
  ·rw [Bool.not_eq_true] at hp
   refine ⟨.inr (((i : Int), ()), ()), zbl _ _ _ _ ?_, Int.natCast_nonneg i, by rw [hp, Bool.false_and]⟩
   simp only [z8]
   rw [if_pos (by simpa using h1), zd h1]
   simp only [Option.bind_some, zAN, hp, Bool.not_false, if_true]
theorem zv8 (a : List Int) (ha : a.length ≤ 17592186044416) : zaD M a () = some ((!(a.all (fun x => decide (0 ≤ x) && decide (x ≤ 3))), ()), ()) := by
 apply zgy
 simp only [zbo]
 obtain ⟨r, hr, hm⟩ := zwg a ha a.length 0 (by omega)
 rw [show ((0 : Nat) : Int) = 0 from rfl] at hr
 rw [List.drop_zero] at hm
 cases r with
 | inl r =>
  rw [zcY a () (r := ((-1, ()), ())) (by simp only [zaT, hr, Option.bind_some, Sum.elim_inl])]
  simp only at hm
  simp [hm]
 | inr r =>
  rw [zcY a () (r := r) (by simp only [zaT, hr, Option.bind_some, Sum.elim_inr])]
  simp only at hm
  simp [hm]
theorem zoq (s : TSign) (ha : s.1.length ≤ 17592186044416) : zgJ M s = some ((gS s.1, ()), ()) := by
 apply ztt
 simp only [zkP, zv8 s.1 ha, Option.bind_some, gS, decide_eq_true_eq]
 rcases hs : s.1 with _ | ⟨x, r⟩
 ·simp
 ·rw [zwi]
  simp only [List.length_cons, List.getElem?_cons_zero, Option.bind_some]
  rw [if_neg (by omega)]
  by_cases h : r.length + 1 ≤ 10
  ·rw [if_neg (by omega)]
   by_cases hx : x = 0
   ·subst hx; simp [h]
   ·rw [if_pos (by simpa using hx)]; simp [hx]
  ·rw [if_pos (by omega)]
   simp [h]
theorem za (x : TSign) : (x.1, ()) = x := rfl
theorem zm (x : TLit) : (x.1, x.2.1, x.2.2.1, ()) = x := rfl
theorem zck (x : TSign) : (x.1, ()) = x := rfl
end Go.Proofs.YtkgpnekonnopgaaGreatIr.Ev
namespace Go.Proofs.YtkgpnekonnopgaaGreatIr.Ev
open Go
set_option autoImplicit false
set_option linter.unusedVariables false
set_option linter.unusedSimpArgs false
def ar (a : List Int) (n : Int) : Int := if n < 0 then 0 else (a[n.toNat]?).getD 0
def badN (a : List Int) (n : Int) : Prop := n < -12 ∨ (a.length : Int) ≤ n
instance (a : List Int) (n : Int) : Decidable (badN a n) := inferInstanceAs (Decidable (_ ∨ _))
def sE (a : List Int) : Int → List Int → Option (List Int)
 | k, [] => if k ≤ 0 then some [] else none
 | k, n :: t => if k ≤ 0 then some (n :: t) else if badN a n then none else sE a (k - 1 + ar a n) t
theorem znv {a : List Int} (hg : gS a = true) (n : Int) : 0 ≤ ar a n ∧ ar a n ≤ 3 := by
 unfold ar
 split
 ·omega
 ·cases h : a[n.toNat]? with
  | none => simp
  | some x =>
   simp only [gS, Bool.and_eq_true, List.all_eq_true, decide_eq_true_eq] at hg
   have := hg.2.2.1 x (List.mem_of_getElem? h)
   simpa using this
theorem zy0 {a : List Int} {n : Int} (h : ¬ badN a n) (h0 : ¬ n < 0) : idx a n = some (ar a n) := by
 unfold badN at h
 have h1 : n.toNat < a.length := by omega
 unfold ar idx
 rw [if_pos (by omega), if_neg h0, List.getElem?_eq_getElem h1]
 rfl
theorem zo3 (a : List Int) (t : List Int) : sE a 0 t = some t := by cases t <;> simp [sE]
theorem zqI {a : List Int} (hg : gS a = true) : ∀ (u : List Int) (j k : Int) (x : List Int), 0 ≤ j → 0 ≤ k → sE a j u = some [] → sE a (j + k) (u ++ x) = sE a k x := by
 intro u
 induction u with
 | nil =>
  intro j k x hj hk h
  simp only [sE] at h
  split at h
  ·obtain rfl : j = 0 := by omega
   simp
  ·cases h
 | cons n u ih =>
  intro j k x hj hk h
  simp only [sE] at h
  split at h
  ·cases h
  ·rename_i hj'
   split at h
   ·cases h
   ·rename_i hb
    have hn := znv hg n
    rw [List.cons_append]
    conv => lhs; unfold sE
    rw [if_neg (by omega), if_neg hb]
    have := ih (j - 1 + ar a n) k x (by omega) hk h
    rw [← this]
    congr 1; omega
theorem ztb {a : List Int} (hg : gS a = true) : ∀ (t : List Int) (j k : Int) (r : List Int), 0 ≤ j → 0 ≤ k → sE a (j + k) t = some r → ∃ u x, t = u ++ x ∧ sE a j u = some [] ∧ sE a k x = some r := by
 intro t
 induction t with
 | nil =>
  intro j k r hj hk h
  simp only [sE] at h
  split at h
  ·obtain rfl : j = 0 := by omega
   obtain rfl : k = 0 := by omega
   exact ⟨[], [], rfl, by simp [sE], by simpa [sE] using h⟩
  ·cases h
 | cons n t ih =>
  intro j k r hj hk h
  by_cases h0 : j = 0
  ·subst h0
   exact ⟨[], n :: t, rfl, by simp [sE], by simpa using h⟩
  ·simp only [sE] at h
   split at h
   ·omega
   ·split at h
    ·cases h
    ·rename_i hb
     have hn := znv hg n
     obtain ⟨u, x, rfl, h1, h2⟩ := ih (j - 1 + ar a n) k r (by omega) hk (by rw [← h]; congr 1; omega)
     refine ⟨n :: u, x, rfl, ?_, h2⟩
     unfold sE
     rw [if_neg (by omega), if_neg hb]
     exact h1
abbrev Tm (a : List Int) (u : List Int) : Prop := sE a 1 u = some []
theorem zBs {a : List Int} (hg : gS a = true) : ∀ (k : Nat) (t r : List Int), sE a k t = some r → ∃ us : List (List Int), us.length = k ∧ t = us.flatten ++ r ∧ ∀ u ∈ us, Tm a u := by
 intro k
 induction k with
 | zero =>
  intro t r h
  rw [show ((0 : Nat) : Int) = 0 from rfl, zo3] at h
  obtain rfl := Option.some.inj h
  exact ⟨[], rfl, rfl, by simp⟩
 | succ k ih =>
  intro t r h
  obtain ⟨u, x, rfl, h1, h2⟩ := ztb hg t 1 k r (by omega) (by omega) (by rw [← h]; congr 1; omega)
  obtain ⟨us, hl, rfl, hu⟩ := ih x r h2
  exact ⟨u :: us, by simp [hl], by simp, by simpa using ⟨h1, hu⟩⟩
theorem Tm.parts {a : List Int} (hg : gS a = true) {u : List Int} (h : Tm a u) : ∃ (n : Int) (us : List (List Int)), u = n :: us.flatten ∧ ¬ badN a n ∧ (us.length : Int) = ar a n ∧ ∀ v ∈ us, Tm a v := by
 cases u with
 | nil => simp [Tm, sE] at h
 | cons n t =>
  simp only [Tm, sE] at h
  rw [if_neg (by omega)] at h
  split at h
  ·cases h
  ·rename_i hb
   have hn := znv hg n
   obtain ⟨us, hl, ht, hu⟩ := zBs hg (ar a n).toNat t [] (by rw [← h]; congr 1; omega)
   exact ⟨n, us, by rw [ht]; simp, hb, by omega, hu⟩
theorem Tm.rest {a : List Int} (hg : gS a = true) {u : List Int} (h : Tm a u) (x : List Int) : sE a 1 (u ++ x) = some x := by
 have := zqI hg u 1 0 x (by omega) (by omega) h
 rw [zo3] at this
 simpa using this
theorem Tm.pos {a u : List Int} (h : Tm a u) : 0 < u.length := by
 cases u with
 | nil => simp [Tm, sE] at h
 | cons n t => simp
theorem zwG (s : TSign) (hg : gS s.1 = true) (t : List Int) (ht : t.length ≤ 1048576) : ∀ (k i : Nat) (need : Int), i + k = t.length → 0 ≤ need → need + 3 * k ≤ 4000000 →
  zdE M t i s need = some (match sE s.1 need (t.drop i) with | none => .inr (((-1 : Int), ()), ()) | some r => .inl ((t.length : Int) - r.length, ())) := by
 have hs : s.1.length ≤ 10 := by simp only [gS, Bool.and_eq_true, decide_eq_true_eq] at hg; exact hg.2.1
 intro k
 induction k with
 | zero =>
  intro i need hi h0 hn
  obtain rfl : i = t.length := by omega
  apply zaw
  simp only [zab, List.drop_length, sE, decide_eq_true_eq]
  by_cases h : need > 0
  ·rw [if_pos h, if_pos (by omega), if_neg (by omega)]
  ·rw [if_neg h, if_pos (by omega)]; simp
 | succ k ih =>
  intro i need hi h0 hn
  apply zaw
  have h1 : i < t.length := by omega
  rw [List.drop_eq_getElem_cons h1]
  simp only [zab, sE, decide_eq_true_eq]
  by_cases h : need > 0
  ·rw [if_pos h, if_neg (by omega), if_neg (by omega), zd h1]
   simp only [Option.bind_some, zdA]
   rw [w64 (x := (s.1.length : Int) - 1) (by omega) (by omega)]
   by_cases hb : badN s.1 t[i]
   ·rw [if_pos hb, if_pos (by unfold badN at hb; simp; omega)]
   ·rw [if_neg hb, if_neg (by unfold badN at hb; simp; omega)]
    have ha := znv hg t[i]
    have hw : IntKind.i64.wrap (need - 1) = need - 1 := w64 (by omega) (by omega)
    by_cases hx : t[i] ≥ 0
    ·rw [if_pos hx, zy0 hb (by omega), hw]
     simp only [Option.bind_some, Sum.elim_inl]
     rw [w64 (x := need - 1 + _) (by omega) (by omega), zb (by omega)]
     exact ih (i + 1) _ (by omega) (by omega) (by omega)
    ·have : ar s.1 t[i] = 0 := by unfold ar; rw [if_pos (by omega)]
     rw [if_neg hx, hw, this]
     simp only [Option.bind_some, Sum.elim_inl]
     rw [zb (by omega), Int.add_zero]
     exact ih (i + 1) _ (by omega) (by omega) (by omega)
  ·rw [if_neg h, if_pos (by omega)]
   simp only [List.length_cons, List.length_drop]
   congr 3
   omega
theorem zun (s : TSign) (hg : gS s.1 = true) (t : List Int) (i : Nat) (hi : i ≤ t.length) (ht : t.length ≤ 1048576) :
  zeS M s t i = some ((match sE s.1 1 (t.drop i) with | none => (-1 : Int) | some r => (t.length : Int) - r.length, ()), ()) := by
 apply zje
 simp only [zf8]
 rw [zwG s hg t ht (t.length - i) i 1 (by omega) (by omega) (by omega)]
 cases sE s.1 1 (t.drop i) <;> rfl
theorem zBF {a : List Int} : ∀ (t : List Int) (k : Int) (r : List Int), sE a k t = some r → r.length ≤ t.length := by
 intro t
 induction t with
 | nil => intro k r h; simp only [sE] at h; split at h <;> simp_all
 | cons n t ih =>
  intro k r h
  simp only [sE] at h
  split at h
  ·obtain rfl := Option.some.inj h; simp
  ·split at h
   ·cases h
   ·have := ih _ _ h; simp; omega
def isT (a t : List Int) : Bool := decide (t.length ≤ 40) && decide (Tm a t)
theorem znV (s : TSign) (hg : gS s.1 = true) (t : List Int) (ht : t.length ≤ 1048576) : zcr M s t = some ((isT s.1 t, ()), ()) := by
 apply ziE
 have := zun s hg t 0 (by omega) ht
 rw [show ((0 : Nat) : Int) = 0 from rfl, List.drop_zero] at this
 simp only [zfh, zdA, Option.bind_some, this, isT]
 by_cases h0 : t = []
 ·subst h0; simp [Tm, sE]
 ·have : 0 < t.length := List.length_pos_iff.2 h0
  by_cases h : t.length ≤ 40
  ·rw [if_pos (by simp; omega)]
   simp only [Option.some.injEq, Prod.mk.injEq, and_true]
   rw [Bool.eq_iff_iff]
   simp only [Bool.and_eq_true, decide_eq_true_eq, Tm, beq_iff_eq]
   cases hE : sE s.1 1 t with
   | none => simp
   | some r =>
    have := zBF _ _ _ hE
    simp only [Option.some.injEq]
    constructor
    ·intro h'; exact ⟨h, List.eq_nil_of_length_eq_zero (by omega)⟩
    ·rintro ⟨-, rfl⟩; simp
  ·rw [if_neg (by simp; omega)]
   simp [h]
theorem zzn (s : TSign) (n : Int) (h : ¬ badN s.1 n) : zep M s n = some ((ar s.1 n, ()), ()) := by
 apply zsI
 simp only [zkD, decide_eq_true_eq]
 by_cases hn : n < 0
 ·rw [if_pos hn]; simp [ar, hn]
 ·rw [if_neg hn, zy0 h hn]; rfl
theorem zvq (s : TSign) (hg : gS s.1 = true) (t : List Int) (ht : t.length ≤ 40) : ∀ (k i : Nat) (left : Int), i + k = t.length → 0 ≤ left → left + 3 * k ≤ 4000000 →
  ∃ r, zbw M s left t t.length i = some r ∧ Sum.elim (fun y => y.1 == 0) (fun r => r.1.1) r = decide (sE s.1 left (t.drop i) = some []) := by
 intro k
 induction k with
 | zero =>
  intro i left hi h0 hn
  obtain rfl : i = t.length := by omega
  refine ⟨.inl (left, ()), zjN _ _ _ _ _ ?_, ?_⟩
  ·simp [zd4]
  ·rw [List.drop_length]
   simp only [Sum.elim_inl, sE]
   rw [Bool.eq_iff_iff]; simp; omega
 | succ k ih =>
  intro i left hi h0 hn
  have h1 : i < t.length := by omega
  rw [List.drop_eq_getElem_cons h1]
  have pre : ∀ r, (if (left == 0) = true then some (.inr ((false, ()), ())) else if decide (t[i] < -12) = true then some (.inr ((false, ()), ())) else if decide (t[i] ≥ (s.1.length : Int)) = true then some (.inr ((false, ()), ())) else (zep M (s.1, ()) t[i]).bind fun r2 => zbw M (s.1, ()) (IntKind.i64.wrap (left + IntKind.i64.wrap (r2.1.1 - 1))) t t.length (IntKind.i64.wrap ((i : Int) + 1))) = some r → zbw M s left t t.length i = some r := by
   intro r hr
   apply zjN
   simp only [zd4]
   rw [if_pos (by simpa using h1), zd h1]
   exact hr
  by_cases hl : left = 0
  ·subst hl
   refine ⟨.inr ((false, ()), ()), pre _ rfl, (decide_eq_false (by rw [zo3]; exact fun h => by cases h)).symm⟩
  ·by_cases hb : badN s.1 t[i]
   ·refine ⟨.inr ((false, ()), ()), pre _ ?_, by simp [sE, hb]; omega⟩
    rw [if_neg (by simpa using hl)]
    unfold badN at hb
    by_cases h2 : t[i] < -12
    ·rw [if_pos (by simpa using h2)]
    ·rw [if_neg (by simpa using h2), if_pos (by simp; omega)]
   ·have ha := znv hg t[i]
    obtain ⟨r, hr, hm⟩ := ih (i + 1) (left - 1 + ar s.1 t[i]) (by omega) (by omega) (by omega)
    refine ⟨r, pre _ ?_, ?_⟩
    ·have hb' := hb
     unfold badN at hb'
     rw [if_neg (by simpa using hl), if_neg (by simp; omega), if_neg (by simp; omega), zzn (s.1, ()) _ hb]
     simp only [Option.bind_some]
     rw [w64 (x := ar s.1 t[i] - 1) (by omega) (by omega), w64 (by omega) (by omega), zb (by omega), show left + (ar s.1 t[i] - 1) = left - 1 + ar s.1 t[i] by omega]
     exact hr
    ·rw [hm]
     conv => rhs; unfold sE
     rw [if_neg (by omega), if_neg hb]
theorem zsX (s : TSign) (hg : gS s.1 = true) (t : List Int) : zdp M s t = some ((isT s.1 t, ()), ()) := by
 apply zrH
 simp only [zjb, decide_eq_true_eq, isT]
 by_cases h : t.length ≤ 40
 ·obtain ⟨r, hr, hm⟩ := zvq s hg t h t.length 0 1 (by omega) (by omega) (by omega)
  rw [show ((0 : Nat) : Int) = 0 from rfl] at hr
  rw [List.drop_zero] at hm
  rw [if_neg (by omega), show ((s.1, ()) : TSign) = s from rfl, hr]
  cases r with
  | inl r => simp only [Sum.elim_inl, Option.bind_some] at hm ⊢; rw [hm]; simp [h, Tm]
  | inr r => obtain ⟨⟨b, _⟩, _⟩ := r; simp only [Sum.elim_inr, Option.bind_some] at hm ⊢; rw [hm]; simp [h, Tm]
 ·rw [if_pos (by omega)]; simp [h]
end Go.Proofs.YtkgpnekonnopgaaGreatIr.Ev
namespace Go.Proofs.YtkgpnekonnopgaaGreatIr.Ev
open Go
set_option autoImplicit false
set_option linter.unusedVariables false
set_option linter.unusedSimpArgs false
def rp (σ : Int → List Int) (n : Int) : List Int := if n < 0 ∧ 0 < (σ (-1 - n)).length then σ (-1 - n) else [n]
def apS (σ : Int → List Int) (T : List Int) : List Int := T.flatMap (rp σ)
theorem zBM {σ : Int → List Int} (h : ∀ v, (σ v).length ≤ 60) (n : Int) : (rp σ n).length ≤ 60 := by
 unfold rp
 split
 ·exact h _
 ·simp
theorem zgC {σ : Int → List Int} (h : ∀ v, (σ v).length ≤ 60) : ∀ T : List Int, (apS σ T).length ≤ 60 * T.length
 | [] => by simp [apS]
 | n :: T => by
  have h1 := zBM h n
  have h2 := zgC h T
  simp only [apS, List.flatMap_cons, List.length_append, List.length_cons] at h2 ⊢
  omega
theorem zgi (σ : Int → List Int) (n : Int) (t : List Int) : apS σ (n :: t) = rp σ n ++ apS σ t := by simp only [apS, List.flatMap_cons]
theorem zxS (σ : Int → List Int) (t u : List Int) : apS σ (t ++ u) = apS σ t ++ apS σ u := by simp only [apS, List.flatMap_append]
theorem zo6 {σ : Int → List Int} {n : Int} (h : 0 ≤ n) : rp σ n = [n] := by unfold rp; rw [if_neg (fun q => by omega)]
theorem zlx {σ : Int → List Int} {n : Int} (h : σ (-1 - n) = []) : rp σ n = [n] := by unfold rp; rw [if_neg (fun q => by rw [h] at q; simp at q)]
theorem zl0 {σ : Int → List Int} {n : Int} (hn : n < 0) (h : σ (-1 - n) ≠ []) : rp σ n = σ (-1 - n) := by unfold rp; rw [if_pos ⟨hn, List.length_pos_iff.2 h⟩]
theorem zBU {a : List Int} (hg : gS a = true) {σ : Int → List Int} (hσ : ∀ v, σ v ≠ [] → Tm a (σ v)) : ∀ (t : List Int) (k : Int), sE a k t = some [] → sE a k (apS σ t) = some [] := by
 intro t
 induction t with
 | nil => intro k h; exact h
 | cons n r ih =>
  intro k h
  rw [zgi]
  by_cases hk : k ≤ 0
  ·simp only [sE, if_pos hk] at h
   cases h
  ·simp only [sE, if_neg hk] at h
   by_cases hb : badN a n
   ·rw [if_pos hb] at h; cases h
   ·rw [if_neg hb] at h
    by_cases hs : n < 0 ∧ σ (-1 - n) ≠ []
    ·rw [zl0 hs.1 hs.2]
     have h1 : ar a n = 0 := by unfold ar; rw [if_pos hs.1]
     rw [h1] at h
     have hT : sE a 1 (σ (-1 - n)) = some [] := hσ _ hs.2
     have := zqI hg (σ (-1 - n)) 1 (k - 1) (apS σ r) (by omega) (by omega) hT
     rw [show 1 + (k - 1) = k by omega] at this
     rw [this]
     exact ih _ (by rw [show k - 1 = k - 1 + 0 by omega]; exact h)
    ·have hr : rp σ n = [n] := by
      by_cases hn : n < 0
      ·exact zlx (by
        by_cases e : σ (-1 - n) = []
        ·exact e
        ·exact absurd ⟨hn, e⟩ hs)
      ·exact zo6 (by omega)
     rw [hr, List.singleton_append]
     simp only [sE, if_neg hk, if_neg hb]
     exact ih _ h
theorem zkU {a : List Int} (hg : gS a = true) {σ : Int → List Int} (hσ : ∀ v, σ v ≠ [] → Tm a (σ v)) {t : List Int} (h : Tm a t) : Tm a (apS σ t) := zBU hg hσ t 1 h
theorem zuO {a : List Int} (hg : gS a = true) {x z : List Int} (h : Tm a x) (k : Tm a (x ++ z)) : z = [] := by
 have := zqI hg x 1 0 z (by omega) (by omega) h
 rw [show (1 : Int) + 0 = 1 from rfl, zo3] at this
 have k' : sE a 1 (x ++ z) = some [] := k
 rw [k'] at this
 exact (Option.some.inj this).symm
def lcp : List Int → List Int → Nat
 | n :: x, m :: y => if n = m then lcp x y + 1 else 0
 | _, _ => 0
theorem ztI : ∀ (x y : List Int), lcp x y ≤ x.length ∧ lcp x y ≤ y.length
 | [], _ => by simp [lcp]
 | _ :: _, [] => by simp [lcp]
 | n :: x, m :: y => by
  have := ztI x y
  simp only [lcp, List.length_cons]
  split <;> omega
theorem zwe : ∀ (x y : List Int), x.take (lcp x y) = y.take (lcp x y)
 | [], y => by simp [lcp]
 | _ :: _, [] => by simp [lcp]
 | n :: x, m :: y => by
  simp only [lcp]
  split
  ·rename_i h; rw [h, List.take_succ_cons, List.take_succ_cons, zwe x y]
  ·simp
theorem ztx : ∀ (x y : List Int) (h1 : lcp x y < x.length) (h2 : lcp x y < y.length), x[lcp x y] ≠ y[lcp x y]
 | [], _, h, _ => by simp at h
 | _ :: _, [], _, h => by simp at h
 | n :: x, m :: y, h1, h2 => by
  by_cases e : n = m
  ·have e1 : lcp (n :: x) (m :: y) = lcp x y + 1 := by simp only [lcp, if_pos e]
   simp only [e1] at h1 h2 ⊢
   simpa using ztx x y (by simpa using h1) (by simpa using h2)
  ·have e1 : lcp (n :: x) (m :: y) = 0 := by simp only [lcp, if_neg e]
   simp only [e1]
   simpa using e
theorem ztU : ∀ (x y : List Int) (i : Nat), i < lcp x y → x[i]? = y[i]?
 | [], _, _, h => by simp [lcp] at h
 | _ :: _, [], _, h => by simp [lcp] at h
 | n :: x, m :: y, i, h => by
  simp only [lcp] at h
  split at h
  ·rename_i e
   cases i with
   | zero => simp [e]
   | succ i => simpa using ztU x y i (by omega)
  ·omega
theorem zxE {a : List Int} (hg : gS a = true) {x y : List Int} (hx : Tm a x) (hy : Tm a y) (h : lcp x y = x.length ∨ lcp x y = y.length) : x = y := by
 have ht := zwe x y
 rcases h with h | h
 ·rw [h, List.take_length] at ht
  have e : y = x ++ y.drop x.length := by
   conv => lhs; rw [← List.take_append_drop x.length y]
   rw [← ht]
  have := zuO hg hx (by rw [← e]; exact hy)
  rw [e, this, List.append_nil]
 ·rw [h, List.take_length] at ht
  have e : x = y ++ x.drop y.length := by
   conv => lhs; rw [← List.take_append_drop y.length x]
   rw [ht]
  have := zuO hg hy (by rw [← e]; exact hx)
  rw [e, this, List.append_nil]
end Go.Proofs.YtkgpnekonnopgaaGreatIr.Ev
namespace Go.Proofs.YtkgpnekonnopgaaGreatIr.Ev
open Go
set_option autoImplicit false
set_option linter.unusedVariables false
set_option linter.unusedSimpArgs false
def SubF (sub : List (List Int)) (σ : Int → List Int) : Prop := sub.length = 12 ∧ ∀ v, 0 ≤ v → v ≤ 11 → sub[v.toNat]? = some (σ v)
theorem SubF.idx {sub : List (List Int)} {σ : Int → List Int} (h : SubF sub σ) {v : Int} (v0 : 0 ≤ v) (v1 : v ≤ 11) : idx sub v = some (σ v) := by
 have := h.2 v v0 v1
 obtain ⟨q1, q2⟩ := List.getElem?_eq_some_iff.1 this
 have e := zd (xs := sub) q1
 rw [show ((v.toNat : Nat) : Int) = v by omega, q2] at e
 exact e
theorem zxP {σ : Int → List Int} (h : ∀ v, (σ v).length ≤ 100000) (n : Int) : (rp σ n).length ≤ 100000 := by
 unfold rp
 split
 ·exact h _
 ·simp
theorem zvh (sub : List (List Int)) (σ : Int → List Int) (hσ : SubF sub σ) (hb : ∀ v, (σ v).length ≤ 100000) (T : List Int) (hT : T.length ≤ 100) (hv : ∀ n ∈ T, -12 ≤ n) :
  ∀ k i : Nat, i + k = T.length → ∀ o : List Int, o.length ≤ 100000 * i → zdX M sub o T T.length i = some (.inl (o ++ apS σ (T.drop i), ())) := by
 intro k
 induction k with
 | zero =>
  intro i hi o ho
  obtain rfl : i = T.length := by omega
  apply zmc
  simp only [zgS]
  rw [if_neg (by simp)]
  simp [apS]
 | succ k ih =>
  intro i hi o ho
  have h1 : i < T.length := by omega
  have h2 := hv _ (List.getElem_mem h1)
  have h3 := zxP hb T[i]
  have h4 := hb (-1 - T[i])
  have hs : apS σ (T.drop i) = rp σ T[i] ++ apS σ (T.drop (i + 1)) := by rw [List.drop_eq_getElem_cons h1]; simp only [apS, List.flatMap_cons]
  have go : ∀ x : List Int, rp σ T[i] = x → zdX M sub (o ++ x) T T.length ((i + 1 : Nat) : Int) = some (.inl (o ++ apS σ (T.drop i), ())) := by
   intro x hx
   subst hx
   rw [ih (i + 1) (by omega) _ (by simp; omega), hs, List.append_assoc]
  apply zmc
  simp only [zgS]
  rw [if_pos (by simpa using h1), zd h1]
  simp only [Option.bind_some]
  by_cases hn : T[i] < 0
  ·rw [if_pos (by simpa using hn), w64 (x := -1 - T[i]) (by omega) (by omega), hσ.idx (by omega) (by omega)]
   simp only [Option.bind_some]
   by_cases hl : 0 < (σ (-1 - T[i])).length
   ·rw [if_pos (by simp; omega), if_pos (by omega)]
    simp only [Option.bind_some, Sum.elim_inl]
    rw [zb (by omega)]
    exact go _ (by unfold rp; rw [if_pos ⟨hn, hl⟩])
   ·rw [if_neg (by simp only [decide_eq_true_eq]; omega), if_pos (by simp; omega)]
    simp only [Option.bind_some, Sum.elim_inl]
    rw [zb (by omega)]
    exact go _ (by unfold rp; rw [if_neg (fun q => hl q.2)])
  ·rw [if_neg (by simpa using hn), if_pos (by simp; omega)]
   simp only [Option.bind_some, Sum.elim_inl]
   rw [zb (by omega)]
   exact go _ (by unfold rp; rw [if_neg (fun q => hn q.1)])
theorem zdL (sub : List (List Int)) (σ : Int → List Int) (hσ : SubF sub σ) (hb : ∀ v, (σ v).length ≤ 100000) (T : List Int) (hT : T.length ≤ 100) (hv : ∀ n ∈ T, -12 ≤ n) : zA M sub T = some ((apS σ T, ()), ()) := by
 apply zt2
 have := zvh sub σ hσ hb T hT hv T.length 0 (by omega) [] (by simp)
 rw [show ((0 : Nat) : Int) = 0 from rfl, List.drop_zero, List.nil_append] at this
 simp only [zlv, this, Option.bind_some, Sum.elim_inl]
end Go.Proofs.YtkgpnekonnopgaaGreatIr.Ev
namespace Go.Proofs.YtkgpnekonnopgaaGreatIr.Ev
open Go
set_option autoImplicit false
set_option linter.unusedVariables false
set_option linter.unusedSimpArgs false
def oneS (n : Int) (t : List Int) : Int → List Int := fun u => if u = -1 - n then t else []
def bindS (σ : Int → List Int) (n : Int) (t : List Int) : Int → List Int := fun u => if u = -1 - n then t else if σ u ≠ [] then apS (oneS n t) (σ u) else []
def Free (σ : Int → List Int) (x : List Int) : Prop := ∀ m ∈ x, m < 0 → σ (-1 - m) = []
theorem zAL (σ : Int → List Int) (n : Int) : rp σ n ≠ [] := by
 unfold rp
 split
 ·rename_i h; exact List.length_pos_iff.1 h.2
 ·simp
theorem zwd (σ : Int → List Int) {t : List Int} (h : t ≠ []) : apS σ t ≠ [] := by
 cases t with
 | nil => exact absurd rfl h
 | cons n r =>
  rw [zgi]
  have := zAL σ n
  cases hr : rp σ n with
  | nil => exact absurd hr this
  | cons _ _ => simp
theorem zyc (σ : Int → List Int) : ∀ t : List Int, t.length ≤ (apS σ t).length
 | [] => by simp [apS]
 | n :: t => by
  have h1 := zyc σ t
  have h2 := List.length_pos_iff.2 (zAL σ n)
  rw [zgi]; simp; omega
theorem zsY {σ : Int → List Int} : ∀ {x : List Int}, Free σ x → apS σ x = x
 | [], _ => rfl
 | n :: x, h => by
  rw [zgi, zsY (fun m hm => h m (List.mem_cons_of_mem _ hm))]
  have : rp σ n = [n] := by
   by_cases hn : n < 0
   ·exact zlx (h n (List.mem_cons_self ..) hn)
   ·exact zo6 (by omega)
  rw [this]; rfl
theorem zwo (n k : Int) (t : List Int) (hn : n < 0) (ht : t ≠ []) : rp (oneS n t) k = if k = n then t else [k] := by
 by_cases h : k = n
 ·subst h
  rw [if_pos rfl, zl0 hn (by unfold oneS; rw [if_pos rfl]; exact ht)]
  unfold oneS; rw [if_pos rfl]
 ·rw [if_neg h]
  exact zlx (by unfold oneS; rw [if_neg (by omega)])
theorem zxQ {n m : Int} {t : List Int} (hn : n < 0) (ht : t ≠ []) : ∀ {x : List Int}, m ∈ apS (oneS n t) x → (m ∈ x ∧ m ≠ n) ∨ m ∈ t
 | [], h => by cases h
 | k :: x, h => by
  rw [zgi, zwo n k t hn ht, List.mem_append] at h
  rcases h with h | h
  ·split at h
   ·exact .inr h
   ·rename_i hk
    rw [List.mem_singleton.1 h]
    exact .inl ⟨List.mem_cons_self .., hk⟩
  ·rcases zxQ hn ht h with ⟨h1, h2⟩ | h1
   ·exact .inl ⟨List.mem_cons_of_mem _ h1, h2⟩
   ·exact .inr h1
section
variable {σ : Int → List Int} {n : Int} {t : List Int} (hn : n < 0) (ht : t ≠ []) (hb : σ (-1 - n) = [])
include hn ht hb
theorem zs2 : ∀ x : List Int, apS (bindS σ n t) x = apS (oneS n t) (apS σ x)
 | [] => rfl
 | k :: x => by
  rw [zgi, zgi, zxS, zs2 x]
  congr 1
  by_cases hk : k < 0
  ·by_cases e : k = n
   ·subst e
    rw [zlx hb, zl0 hk (by unfold bindS; rw [if_pos rfl]; exact ht)]
    show bindS σ k t (-1 - k) = apS (oneS k t) [k]
    rw [zgi, zwo k k t hn ht, if_pos rfl]
    unfold bindS; rw [if_pos rfl]; simp [apS]
   ·by_cases hs : σ (-1 - k) = []
    ·rw [zlx hs, zlx (by unfold bindS; rw [if_neg (by omega), if_neg (by simpa using hs)]), zgi, zwo n k t hn ht, if_neg e]
     rfl
    ·have hbs : bindS σ n t (-1 - k) = apS (oneS n t) (σ (-1 - k)) := by unfold bindS; rw [if_neg (by omega), if_pos hs]
     rw [zl0 hk hs, zl0 hk (by rw [hbs]; exact zwd _ hs), hbs]
  ·rw [zo6 (by omega), zo6 (by omega), zgi, zo6 (by omega)]
   rfl
omit hb in
theorem Free.bind {x : List Int} (hx : Free σ x) (hf : Free σ t) (hnt : n ∉ t) : Free (bindS σ n t) (apS (oneS n t) x) := by
 intro m hm h0
 rcases zxQ hn ht hm with ⟨h1, h2⟩ | h1
 ·unfold bindS
  rw [if_neg (by omega), if_neg (by simpa using hx m h1 h0)]
 ·have h2 : m ≠ n := fun e => hnt (e ▸ h1)
  unfold bindS
  rw [if_neg (by omega), if_neg (by simpa using hf m h1 h0)]
omit hb in
theorem zzd (hi : ∀ u, Free σ (σ u)) (hf : Free σ t) (hnt : n ∉ t) : ∀ u, Free (bindS σ n t) (bindS σ n t u) := by
 intro u
 have htt : apS (oneS n t) t = t := zsY (fun m hm h0 => by
  unfold oneS; rw [if_neg (fun e => hnt (by rw [show n = m by omega]; exact hm))])
 have key := Free.bind hn ht hf hf hnt
 rw [htt] at key
 by_cases e : u = -1 - n
 ·have : bindS σ n t u = t := by unfold bindS; rw [if_pos e]
  rw [this]; exact key
 ·by_cases hs : σ u = []
  ·have : bindS σ n t u = [] := by unfold bindS; rw [if_neg e, if_neg (by simpa using hs)]
   rw [this]; intro m hm; cases hm
  ·have : bindS σ n t u = apS (oneS n t) (σ u) := by unfold bindS; rw [if_neg e, if_pos hs]
   rw [this]; exact Free.bind hn ht (hi u) hf hnt
end
theorem zA9 {a : List Int} {n : Int} {t : List Int} (h : Tm a t) : ∀ v, oneS n t v ≠ [] → Tm a (oneS n t v) := by
 intro v hv
 unfold oneS at hv ⊢
 split
 ·exact h
 ·rename_i e; rw [if_neg e] at hv; exact absurd rfl hv
theorem zAy {a : List Int} (hg : gS a = true) {σ : Int → List Int} {n : Int} {t : List Int} (hσ : ∀ v, σ v ≠ [] → Tm a (σ v)) (h : Tm a t) : ∀ v, bindS σ n t v ≠ [] → Tm a (bindS σ n t v) := by
 intro v hv
 unfold bindS at hv ⊢
 split
 ·exact h
 ·rename_i e
  rw [if_neg e] at hv
  split
  ·rename_i hs
   exact zkU hg (zA9 h) (hσ v hs)
  ·rename_i hs; rw [if_neg hs] at hv; exact absurd rfl hv
def nbound (σ : Int → List Int) : Nat := ((List.range 12).filter fun u : Nat => !(σ (u : Int)).isEmpty).length
theorem zuR (σ : Int → List Int) : nbound σ ≤ 12 := by
 unfold nbound
 exact Nat.le_trans (List.length_filter_le _ _) (by simp)
theorem zxm {σ : Int → List Int} {n : Int} {t : List Int} (hn : n < 0) (h12 : -12 ≤ n) (ht : t ≠ []) (hb : σ (-1 - n) = []) : nbound σ < nbound (bindS σ n t) := by
 unfold nbound
 have hmono : ∀ u : Nat, (!(σ (u : Int)).isEmpty) = true → (!(bindS σ n t (u : Int)).isEmpty) = true := by
  intro u hu
  simp only [Bool.not_eq_true', List.isEmpty_eq_false_iff] at hu ⊢
  unfold bindS
  split
  ·exact ht
  ·first
   | exact zwd _ hu
   | (rw [if_pos hu]; exact zwd _ hu)
 have gen : ∀ (l : List Nat) (w : Nat), w ∈ l → (σ (w : Int)) = [] → bindS σ n t (w : Int) ≠ [] → (l.filter fun u : Nat => !(σ (u : Int)).isEmpty).length < (l.filter fun u : Nat => !(bindS σ n t (u : Int)).isEmpty).length := by
  intro l
  induction l with
  | nil => intro w hw; cases hw
  | cons u r ih =>
   intro w hw h1 h2
   have hle : ∀ l : List Nat, (l.filter fun u : Nat => !(σ (u : Int)).isEmpty).length ≤ (l.filter fun u : Nat => !(bindS σ n t (u : Int)).isEmpty).length := by
    intro l
    induction l with
    | nil => simp
    | cons v q ihq =>
     simp only [List.filter_cons]
     by_cases hv : (!(σ (v : Int)).isEmpty) = true
     ·rw [if_pos hv, if_pos (hmono v hv)]; simp; exact ihq
     ·rw [if_neg hv]
      split
      ·simp; omega
      ·exact ihq
   simp only [List.filter_cons]
   rcases List.mem_cons.1 hw with rfl | hw
   ·rw [if_neg (by simp [h1]), if_pos (by simpa using h2)]
    have := hle r
    simp; omega
   ·have hr := ih w hw h1 h2
    by_cases hv : (!(σ (u : Int)).isEmpty) = true
    ·rw [if_pos hv, if_pos (hmono u hv)]; simp; exact hr
    ·rw [if_neg hv]
     split
     ·simp; omega
     ·exact hr
 refine gen _ (-1 - n).toNat (by simp; omega) ?_ ?_
 ·rw [show (((-1 - n).toNat : Nat) : Int) = -1 - n by omega]; exact hb
 ·rw [show (((-1 - n).toNat : Nat) : Int) = -1 - n by omega]
  unfold bindS; rw [if_pos rfl]; exact ht
end Go.Proofs.YtkgpnekonnopgaaGreatIr.Ev
namespace Go.Proofs.YtkgpnekonnopgaaGreatIr.Ev
open Go
set_option autoImplicit false
set_option linter.unusedVariables false
set_option linter.unusedSimpArgs false
theorem zwy (a : List Int) (x : Int) (ha : a.length ≤ 17592186044416) : ∀ k i : Nat, i + k = a.length → ∃ r, zb6 M a x a.length i = some r ∧ (match r with | .inl _ => x ∉ a.drop i | .inr r => 0 ≤ r.1.1 ∧ x ∈ a.drop i) := by
 intro k
 induction k with
 | zero =>
  intro i hi
  obtain rfl : i = a.length := by omega
  exact ⟨.inl (), zfn _ _ _ _ (by simp [zbU]), by simp⟩
 | succ k ih =>
  intro i hi
  have h1 : i < a.length := by omega
  obtain ⟨r, hr, hm⟩ := ih (i + 1) (by omega)
  rw [List.drop_eq_getElem_cons h1]
  by_cases hx : x = a[i]
  ·refine ⟨.inr (((i : Int), ()), ()), zfn _ _ _ _ ?_, Int.natCast_nonneg i, hx ▸ List.mem_cons_self⟩
   simp only [zbU]
   rw [if_pos (by simpa using h1), zd h1]
   simp only [Option.bind_some]
   rw [if_pos (by simpa using hx)]
  ·refine ⟨r, zfn _ _ _ _ ?_, ?_⟩
   ·simp only [zbU]
    rw [if_pos (by simpa using h1), zd h1]
    simp only [Option.bind_some]
    rw [if_neg (by simpa using hx), zb (by omega)]
    exact hr
   ·cases r with
    | inl r => simp only [List.mem_cons, not_or]; exact ⟨hx, hm⟩
    | inr r => exact ⟨hm.1, List.mem_cons_of_mem _ hm.2⟩
theorem zns (a : List Int) (x : Int) (ha : a.length ≤ 17592186044416) : za9 M a x = some ((decide (x ∈ a), ()), ()) := by
 obtain ⟨r, hr, hm⟩ := zwy a x ha a.length 0 (by omega)
 rw [show ((0 : Nat) : Int) = 0 from rfl] at hr
 rw [List.drop_zero] at hm
 apply znu
 cases r with
 | inl r =>
  rw [zds, zj6 a x (r := ((-1, ()), ())) (by simp only [zeA, hr, Option.bind_some, Sum.elim_inl])]
  have : decide (x ∈ a) = false := by simpa using hm
  rw [this]; rfl
 | inr r =>
  rw [zds, zj6 a x (r := r) (by simp only [zeA, hr, Option.bind_some, Sum.elim_inr])]
  have : decide (x ∈ a) = true := by simpa using hm.2
  rw [this]
  simp [hm.1]
def Up (l : List Int) : Prop := l.Pairwise (· < ·)
theorem Up.ext {l k : List Int} (hl : Up l) (hk : Up k) (h : ∀ x, x ∈ l ↔ x ∈ k) : l = k := by
 induction l generalizing k with
 | nil =>
  cases k with
  | nil => rfl
  | cons y k => exact absurd ((h y).2 (by simp)) (by simp)
 | cons x l ih =>
  cases k with
  | nil => exact absurd ((h x).1 (by simp)) (by simp)
  | cons y k =>
   have hl' := List.pairwise_cons.1 hl
   have hk' := List.pairwise_cons.1 hk
   have hxy : x = y := by
    have a1 := (h x).1 (by simp)
    have a2 := (h y).2 (by simp)
    rcases List.mem_cons.1 a1 with a1 | a1
    ·exact a1
    ·rcases List.mem_cons.1 a2 with a2 | a2
     ·exact a2.symm
     ·have := hl'.1 _ a2; have := hk'.1 _ a1; omega
   subst hxy
   rw [ih hl'.2 hk'.2 fun z => ?_]
   constructor
   ·intro hz
    rcases List.mem_cons.1 ((h z).1 (by simp [hz])) with e | e
    ·have := hl'.1 _ hz; omega
    ·exact e
   ·intro hz
    rcases List.mem_cons.1 ((h z).2 (by simp [hz])) with e | e
    ·have := hk'.1 _ hz; omega
    ·exact e
def upTo (p : Int → Bool) : List Int := ((List.range 12).map Int.ofNat).filter p
theorem zxy (p : Int → Bool) : Up (upTo p) := by
 unfold Up upTo
 exact List.Pairwise.filter _ (by decide)
theorem zji {p : Int → Bool} {v : Int} : v ∈ upTo p ↔ 0 ≤ v ∧ v ≤ 11 ∧ p v = true := by
 simp only [upTo, List.mem_filter, List.mem_map, List.mem_range]
 constructor
 ·rintro ⟨⟨n, h, rfl⟩, hp⟩
  exact ⟨Int.natCast_nonneg n, by simp only [Int.ofNat_eq_natCast]; omega, hp⟩
 ·rintro ⟨h1, h2, hp⟩
  exact ⟨⟨v.toNat, by omega, by simp only [Int.ofNat_eq_natCast]; omega⟩, hp⟩
theorem zsH (p : Int → Bool) : (upTo p).length ≤ 12 := by
 unfold upTo
 exact Nat.le_trans (List.length_filter_le _ _) (by simp)
theorem zzk (p : Int → Bool) (i : Nat) (hi : i ≤ 12) : ∀ o, o = (((List.range i).map Int.ofNat).filter p) → (i < 12 → ((((List.range (i + 1)).map Int.ofNat).filter p) = if p i = true then o ++ [(i : Int)] else o)) := by
 intro o ho _
 subst ho
 rw [List.range_succ, List.map_append, List.filter_append]
 simp only [List.map_cons, List.map_nil, Int.ofNat_eq_natCast]
 cases h : p i <;> simp [h]
def putN : List Int → Int → List Int
 | [], n => [n]
 | x :: r, n => if x < n then x :: putN r n else if x = n then x :: r else n :: x :: r
theorem zwm {l : List Int} {n x : Int} : x ∈ putN l n ↔ x ∈ l ∨ x = n := by
 induction l with
 | nil => simp [putN]
 | cons y r ih =>
  simp only [putN]
  split
  ·simp only [List.mem_cons, ih, or_assoc]
  ·split
   ·rename_i h; subst h
    simp only [List.mem_cons]
    constructor
    ·intro h; exact .inl h
    ·rintro (h | rfl)
     ·exact h
     ·exact .inl rfl
   ·simp only [List.mem_cons]
    constructor
    ·rintro (h | h)
     ·exact .inr h
     ·exact .inl h
    ·rintro (h | h)
     ·exact .inr h
     ·exact .inl h
theorem zBj {l : List Int} (h : Up l) (n : Int) : Up (putN l n) := by
 induction l with
 | nil => simp [putN, Up]
 | cons y r ih =>
  have h' := List.pairwise_cons.1 h
  simp only [putN]
  split
  ·refine List.pairwise_cons.2 ⟨fun z hz => ?_, ih h'.2⟩
   rcases zwm.1 hz with hz | rfl
   ·exact h'.1 _ hz
   ·assumption
  ·split
   ·exact h
   ·refine List.pairwise_cons.2 ⟨fun z hz => ?_, h⟩
    rcases List.mem_cons.1 hz with rfl | hz
    ·omega
    ·have := h'.1 _ hz; omega
theorem zs5 (l : List Int) (n : Int) : (putN l n).length ≤ l.length + 1 := by
 induction l with
 | nil => simp [putN]
 | cons y r ih =>
  simp only [putN]
  split
  ·simp only [List.length_cons]; omega
  ·split <;> simp
theorem ztp (n : Int) : ∀ (P R : List Int), (∀ x ∈ P, x < n) → (∀ y, R.head? = some y → n ≤ y) → putN (P ++ R) n = if R.head? = some n then P ++ R else P ++ n :: R
 | [], [], _, _ => by simp [putN]
 | [], y :: R, _, h => by
  have := h y rfl
  simp only [List.nil_append, putN, List.head?_cons, Option.some.injEq]
  rw [if_neg (by omega)]
 | x :: P, R, h, h' => by
  have ih := ztp n P R (fun y hy => h y (by simp [hy])) h'
  simp only [List.cons_append, putN]
  rw [if_pos (h x (by simp)), ih]
  split <;> rfl
theorem zx5 (l : List Int) (hl : l.length ≤ 100000) (n : Int) : ∀ k i : Nat, i + k = l.length → (∀ x ∈ l.take i, x < n) → ∃ j : Nat, j ≤ l.length ∧ zg9 M l n i = some (.inl (l, n, j, ())) ∧ (∀ x ∈ l.take j, x < n) ∧ (∀ y, (l.drop j).head? = some y → n ≤ y) := by
 intro k
 induction k with
 | zero =>
  intro i hi h
  obtain rfl : i = l.length := by omega
  exact ⟨l.length, Nat.le_refl _, zkE _ _ _ (by simp [zf3]), h, by simp⟩
 | succ k ih =>
  intro i hi h
  have h1 : i < l.length := by omega
  by_cases hx : l[i] < n
  ·obtain ⟨j, g2, g3, g4⟩ := ih (i + 1) (by omega) (by
    intro x hx'
    rw [List.take_succ_eq_append_getElem h1, List.mem_append] at hx'
    rcases hx' with hx' | hx'
    ·exact h x hx'
    ·simp at hx'; omega)
   refine ⟨j, g2, zkE _ _ _ ?_, g4⟩
   simp only [zf3]
   rw [if_pos (by simpa using h1), if_pos (by omega), Int.toNat_natCast, List.getElem?_eq_getElem h1]
   simp only [Option.bind_some]
   rw [if_pos (by simpa using hx), zb (by omega)]
   exact g3
  ·refine ⟨i, by omega, zkE _ _ _ ?_, h, ?_⟩
   ·simp only [zf3]
    rw [if_pos (by simpa using h1), if_pos (by omega), Int.toNat_natCast, List.getElem?_eq_getElem h1]
    simp only [Option.bind_some]
    rw [if_neg (by simpa using hx)]
   ·intro y hy
    rw [List.drop_eq_getElem_cons h1] at hy
    simp only [List.head?_cons, Option.some.injEq] at hy; omega
theorem zzx (l : List Int) (hl : l.length ≤ 100000) (n : Int) : zjr M l n = some ((putN l n, ()), ()) := by
 obtain ⟨j, g2, g3, g4, g5⟩ := zx5 l hl n l.length 0 (by omega) (by simp)
 rw [show ((0 : Nat) : Int) = 0 from rfl] at g3
 have key := ztp n (l.take j) (l.drop j) g4 g5
 rw [List.take_append_drop] at key
 apply zwu
 simp only [zn2, g3, Option.bind_some, Sum.elim_inl]
 by_cases h1 : j < l.length
 ·have hh : (l.drop j).head? = some l[j] := by rw [List.drop_eq_getElem_cons h1]; rfl
  rw [if_pos (by simpa using h1), if_pos (by omega), Int.toNat_natCast, List.getElem?_eq_getElem h1]
  simp only [Option.bind_some, Int.toNat_natCast, Int.toNat_zero, List.drop_zero, List.nil_append, List.length_nil, List.length_append, List.length_take, List.length_drop, List.length_cons, List.take_length]
  rw [hh] at key
  by_cases h2 : l[j] = n
  ·rw [if_pos (by simpa using h2), key, if_pos (by rw [h2])]
  ·rw [if_neg (by simpa using h2), if_pos (by omega), if_pos (by omega), if_pos (by omega), if_pos (by omega), if_pos (by omega), key, if_neg (by simpa using h2)]
   simp
 ·have hd : l.drop j = [] := List.drop_of_length_le (by omega)
  rw [hd] at key
  rw [if_neg (by simpa using h1)]
  simp only [Option.bind_some, Int.toNat_natCast, Int.toNat_zero, List.drop_zero, List.nil_append, List.length_nil, List.length_append, List.length_take, List.length_drop, List.length_cons, List.take_length]
  rw [if_pos (by omega), if_pos (by omega), if_pos (by omega), if_pos (by omega), if_pos (by omega), key, hd]
  simp
theorem Up.le12 {L : List Int} (h : Up L) (hb : ∀ v ∈ L, 0 ≤ v ∧ v ≤ 11) : L = upTo (fun v => decide (v ∈ L)) := by
 refine Up.ext h (zxy _) fun x => ?_
 rw [zji]
 constructor
 ·intro hx; exact ⟨(hb x hx).1, (hb x hx).2, by simpa using hx⟩
 ·rintro ⟨_, _, hx⟩; simpa using hx
theorem Up.len12 {L : List Int} (h : Up L) (hb : ∀ v ∈ L, 0 ≤ v ∧ v ≤ 11) : L.length ≤ 12 := by
 rw [h.le12 hb]; exact zsH _
theorem zjY : ∀ (vs o : List Int), (vs.foldl putN o).length ≤ o.length + vs.length
 | [], o => by simp
 | v :: vs, o => by
  have h1 := zjY vs (putN o v)
  have h2 := zs5 o v
  simp only [List.foldl_cons, List.length_cons]
  omega
theorem ziH : ∀ (vs o : List Int) (x : Int), x ∈ vs.foldl putN o ↔ x ∈ o ∨ x ∈ vs
 | [], o, x => by simp
 | v :: vs, o, x => by
  simp only [List.foldl_cons, ziH vs, zwm, List.mem_cons, or_assoc]
theorem zts : ∀ (vs o : List Int), Up o → Up (vs.foldl putN o)
 | [], o, h => h
 | v :: vs, o, h => zts vs _ (zBj h v)
end Go.Proofs.YtkgpnekonnopgaaGreatIr.Ev
namespace Go.Proofs.YtkgpnekonnopgaaGreatIr.Ev
open Go
set_option autoImplicit false
set_option linter.unusedVariables false
set_option linter.unusedSimpArgs false
theorem zmi (x : List Int) (h : x.length ≤ 1048576) : zbE M x = some ((x, ()), ()) := by
 apply zra
 simp only [zkN]
 rw [if_pos (by simp; omega)]
 simp
theorem zxp (v : Int) (a : List Int) (ha : a.length ≤ 1000) : ∀ k i : Nat, i + k = a.length → zfg M v a a.length i = some (if v ∈ a.drop i then .inr ((true, ()), ()) else .inl ()) := by
 intro k
 induction k with
 | zero =>
  intro i hi
  obtain rfl : i = a.length := by omega
  exact zh3 _ _ _ _ (by simp [zek])
 | succ k ih =>
  intro i hi
  have h1 : i < a.length := by omega
  rw [List.drop_eq_getElem_cons h1]
  apply zh3
  simp only [zek]
  rw [if_pos (by simpa using h1), zd h1, zb (by omega)]
  simp only [Option.bind_some]
  by_cases h : a[i] = v
  ·rw [if_pos (by simpa using h), if_pos (by rw [h]; exact List.mem_cons_self ..)]
  ·rw [if_neg (by simpa using h), ih (i + 1) (by omega)]
   by_cases h2 : v ∈ a.drop (i + 1)
   ·rw [if_pos h2, if_pos (List.mem_cons_of_mem _ h2)]
   ·rw [if_neg h2, if_neg (fun h3 => by rcases List.mem_cons.1 h3 with e | e; exact h e.symm; exact h2 e)]
theorem zwR (a : List Int) (v : Int) (ha : a.length ≤ 1000) : zdP M a v = some ((decide (v ∈ a), ()), ()) := by
 apply zrJ
 have := zxp v a ha a.length 0 (by omega)
 rw [show ((0 : Nat) : Int) = 0 from rfl, List.drop_zero] at this
 simp only [zle, this, Option.bind_some]
 by_cases h : v ∈ a
 ·rw [if_pos h, decide_eq_true h]; rfl
 ·rw [if_neg h, decide_eq_false h]; rfl
theorem zB2 {a : List Int} (hg : gS a = true) : ∀ (t : List Int) (k : Int) (i : Nat), 0 ≤ k → sE a k t = some [] → i < t.length → ∃ u x, t.drop i = u ++ x ∧ Tm a u := by
 intro t
 induction t with
 | nil => intro k i _ _ h; simp at h
 | cons n t ih =>
  intro k i hk h hi
  have h0 := h
  simp only [sE] at h
  split at h
  ·cases h
  ·rename_i hk'
   split at h
   ·cases h
   ·rename_i hb
    have hn := znv hg n
    cases i with
    | zero =>
     obtain ⟨u, x, e, h1, _⟩ := ztb hg (n :: t) 1 (k - 1) [] (by omega) (by omega) (by rw [← h0]; congr 1; omega)
     exact ⟨u, x, by simpa using e, h1⟩
    | succ i => simpa using ih _ i (by omega) h (by simpa using hi)
theorem Tm.at {a : List Int} (hg : gS a = true) {t : List Int} (h : Tm a t) {i : Nat} (hi : i < t.length) : ∃ u x, t.drop i = u ++ x ∧ Tm a u := zB2 hg t 1 i (by omega) h hi
theorem zlX {t u x : List Int} {i : Nat} (h : t.drop i = u ++ x) (hu : 0 < u.length) : i + u.length + x.length = t.length ∧ (t.take (i + u.length)).drop i = u := by
 have hl := congrArg List.length h
 simp only [List.length_drop, List.length_append] at hl
 refine ⟨by omega, ?_⟩
 rw [List.drop_take, h, Nat.add_sub_cancel_left, List.take_left]
theorem zmr (s : TSign) (hg : gS s.1 = true) (t : List Int) (ht : t.length ≤ 1048576) {i : Nat} {u x : List Int} (h : t.drop i = u ++ x) (hu : Tm s.1 u) : zbD M s t i = some ((u, ()), ()) := by
 obtain ⟨c1, c2⟩ := zlX h (Tm.pos hu)
 have hp := Tm.pos hu
 have he := zun s hg t i (by omega) ht
 rw [h, Tm.rest hg hu x] at he
 apply zvs
 simp only [zmV, za, he, Option.bind_some]
 rw [if_pos (by omega), Int.toNat_natCast, show ((t.length : Int) - x.length).toNat = i + u.length by omega, c2, zmi u (by omega)]
 rfl
theorem zq6 (s : TSign) (hg : gS s.1 = true) (t : List Int) (ht : t.length ≤ 1048576) : ∀ (u x : List Int) (i : Nat) (k : Int), t.drop i = u ++ x → i ≤ t.length → 0 ≤ k → k + 3 * u.length ≤ 4000000 → sE s.1 k u = some [] → zeL M t i s k = some (.inl (((i + u.length : Nat) : Int), ())) := by
 intro u
 induction u with
 | nil =>
  intro x i k h hi h0 hb hk
  simp only [sE] at hk
  split at hk
  ·apply zlr
   simp only [zgr]
   rw [if_neg (by simp; omega)]
   simp
  ·cases hk
 | cons n u ih =>
  intro x i k h hi h0 hb hk
  have h1 : i < t.length := by
   have hl := congrArg List.length h
   simp at hl; omega
  have hd := h
  rw [List.drop_eq_getElem_cons h1, List.cons_append] at hd
  obtain ⟨hn, hd⟩ := List.cons.inj hd
  simp only [sE] at hk
  split at hk
  ·cases hk
  ·rename_i hk'
   split at hk
   ·cases hk
   ·rename_i hbad
    have ha := znv hg n
    simp only [List.length_cons] at hb
    have := ih x (i + 1) (k - 1 + ar s.1 n) hd (by omega) (by omega) (by omega) hk
    apply zlr
    simp only [zgr]
    rw [if_pos (by simp; omega), zd h1, hn]
    simp only [Option.bind_some, za, zzn s n hbad]
    rw [zb (by omega), w64 (x := ar s.1 n - 1) (by omega) (by omega), w64 (by omega) (by omega), show k + (ar s.1 n - 1) = k - 1 + ar s.1 n by omega, this]
    simp; omega
theorem zrN (s : TSign) (hg : gS s.1 = true) (t : List Int) (ht : t.length ≤ 1000000) {i : Nat} {u x : List Int} (h : t.drop i = u ++ x) (hu : Tm s.1 u) : zaE M s t i = some ((u, ()), ()) := by
 obtain ⟨c1, c2⟩ := zlX h (Tm.pos hu)
 have hp := Tm.pos hu
 have he := zq6 s hg t (by omega) u x i 1 h (by omega) (by omega) (by omega) hu
 have he' : zcE M s t i = some ((((i + u.length : Nat) : Int), ()), ()) := by
  apply zla
  simp only [zg5, za, he, Option.bind_some, Sum.elim_inl]
 apply zsS
 simp only [zkF, za, he', Option.bind_some]
 rw [if_pos (by omega), Int.toNat_natCast, Int.toNat_natCast, c2, if_pos (by omega)]
theorem zvy (sub : List (List Int)) (σ : Int → List Int) (hσ : SubF sub σ) (hb : ∀ v, (σ v).length ≤ 100000) (T : List Int) (hT : T.length ≤ 100) (hv : ∀ n ∈ T, -12 ≤ n) :
  ∀ k i : Nat, i + k = T.length → ∀ o : List Int, o.length ≤ 40 → ze7 M sub o T T.length i = some (if (o ++ apS σ (T.drop i)).length ≤ 40 then .inl (o ++ apS σ (T.drop i), ()) else .inr (([], false, ()), ())) := by
 intro k
 induction k with
 | zero =>
  intro i hi o ho
  obtain rfl : i = T.length := by omega
  apply znK
  simp only [zh9]
  rw [if_neg (by simp), List.drop_length]
  simp [apS, ho]
 | succ k ih =>
  intro i hi o ho
  have h1 : i < T.length := by omega
  have h2 := hv _ (List.getElem_mem h1)
  have h3 := zxP hb T[i]
  have h4 := hb (-1 - T[i])
  have hs : apS σ (T.drop i) = rp σ T[i] ++ apS σ (T.drop (i + 1)) := by rw [List.drop_eq_getElem_cons h1]; simp only [apS, List.flatMap_cons]
  have go : ∀ x : List Int, rp σ T[i] = x → (if decide (((o ++ x).length : Int) > (40 : Int)) = true then some (.inr (([], false, ()), ())) else ze7 M sub (o ++ x) T T.length ((i + 1 : Nat) : Int)) = some (if (o ++ apS σ (T.drop i)).length ≤ 40 then .inl (o ++ apS σ (T.drop i), ()) else .inr (([], false, ()), ())) := by
   intro x hx
   subst hx
   rw [hs, ← List.append_assoc]
   by_cases hl : (o ++ rp σ T[i]).length ≤ 40
   ·rw [if_neg (by simp only [decide_eq_true_eq]; omega), ih (i + 1) (by omega) _ hl]
   ·rw [if_pos (by simp only [decide_eq_true_eq]; omega), if_neg (by rw [List.length_append]; omega)]
  apply znK
  simp only [zh9]
  rw [if_pos (by simpa using h1), zd h1]
  simp only [Option.bind_some]
  by_cases hn : T[i] < 0
  ·rw [if_pos (by simpa using hn), w64 (x := -1 - T[i]) (by omega) (by omega), hσ.idx (by omega) (by omega)]
   simp only [Option.bind_some]
   by_cases hl : 0 < (σ (-1 - T[i])).length
   ·rw [if_pos (by simp; omega), if_pos (by omega)]
    simp only [Option.bind_some, Sum.elim_inl]
    rw [zb (by omega)]
    exact go _ (by unfold rp; rw [if_pos ⟨hn, hl⟩])
   ·rw [if_neg (by simp only [decide_eq_true_eq]; omega), if_pos (by simp; omega)]
    simp only [Option.bind_some, Sum.elim_inl]
    rw [zb (by omega)]
    exact go _ (by unfold rp; rw [if_neg (fun q => hl q.2)])
  ·rw [if_neg (by simpa using hn), if_pos (by simp; omega)]
   simp only [Option.bind_some, Sum.elim_inl]
   rw [zb (by omega)]
   exact go _ (by unfold rp; rw [if_neg (fun q => hn q.1)])
theorem zlJ (sub : List (List Int)) (σ : Int → List Int) (hσ : SubF sub σ) (hb : ∀ v, (σ v).length ≤ 100000) (T : List Int) (hT : T.length ≤ 100) (hv : ∀ n ∈ T, -12 ≤ n) : zbI M sub T = some (if (apS σ T).length ≤ 40 then ((apS σ T, true, ()), ()) else (([], false, ()), ())) := by
 apply zwE
 have := zvy sub σ hσ hb T hT hv T.length 0 (by omega) [] (by simp)
 rw [show ((0 : Nat) : Int) = 0 from rfl, List.drop_zero, List.nil_append] at this
 simp only [znI, this, Option.bind_some]
 split <;> rfl
end Go.Proofs.YtkgpnekonnopgaaGreatIr.Ev
namespace Go.Proofs.YtkgpnekonnopgaaGreatIr.Ev
open Go
set_option autoImplicit false
set_option linter.unusedVariables false
set_option linter.unusedSimpArgs false
theorem zB1 (t : List Int) (v : Int) (ht : t.length ≤ 17592186044416) (h0 : -1000 ≤ v) (h1 : v ≤ 1000) : zi2 M t v = some ((decide (-1 - v ∈ t), ()), ()) := by
 apply ztC
 simp only [zld]
 rw [w64 (x := -1 - v) (by omega) (by omega), zns t _ ht]
 rfl
def inV (ts : List (List Int)) (v : Int) : Bool := ts.any fun t => decide (-1 - v ∈ t)
theorem zvV (ts : List (List Int)) (v : Int) (h0 : -1000 ≤ v) (h1 : v ≤ 1000) (hl : ts.length ≤ 17592186044416) (hx : ∀ t ∈ ts, t.length ≤ 17592186044416) : ∀ k i : Nat, i + k = ts.length → ∃ r, z9 M ts (v, ()) ts.length i = some r ∧ (match r with | .inl _ => inV (ts.drop i) v = false | .inr r => 0 ≤ r.1.1 ∧ inV (ts.drop i) v = true) := by
 intro k
 induction k with
 | zero =>
  intro i hi
  obtain rfl : i = ts.length := by omega
  exact ⟨.inl (), zbg _ _ _ _ (by simp [zZ]), by simp [inV]⟩
 | succ k ih =>
  intro i hi
  have h2 : i < ts.length := by omega
  obtain ⟨r, hr, hm⟩ := ih (i + 1) (by omega)
  rw [List.drop_eq_getElem_cons h2]
  have hc := zB1 ts[i] v (hx _ (List.getElem_mem h2)) h0 h1
  cases hp : decide (-1 - v ∈ ts[i]) with
  | false =>
   refine ⟨r, zbg _ _ _ _ ?_, ?_⟩
   ·simp only [zZ]
    rw [if_pos (by simpa using h2), zd h2]
    simp only [Option.bind_some, hc, hp, Bool.false_eq_true, if_false]
    rw [zb (by omega)]
    exact hr
   ·cases r with
    | inl r => simp only [inV, List.any_cons, hp, Bool.false_or]; exact hm
    | inr r => simp only [inV, List.any_cons, hp, Bool.false_or]; exact hm
  | true =>
   refine ⟨.inr (((i : Int), ()), ()), zbg _ _ _ _ ?_, Int.natCast_nonneg i, ?_⟩
   ·simp only [zZ]
    rw [if_pos (by simpa using h2), zd h2]
    simp only [Option.bind_some, hc, hp, if_true]
   ·simp only [inV, List.any_cons, hp, Bool.true_or]
theorem zvJ (ts : List (List Int)) (v : Int) (h0 : -1000 ≤ v) (h1 : v ≤ 1000) (hl : ts.length ≤ 17592186044416) (hx : ∀ t ∈ ts, t.length ≤ 17592186044416) : zaz M ts (v, ()) = some ((inV ts v, ()), ()) := by
 obtain ⟨r, hr, hm⟩ := zvV ts v h0 h1 hl hx ts.length 0 (by omega)
 rw [show ((0 : Nat) : Int) = 0 from rfl] at hr
 rw [List.drop_zero] at hm
 apply zgw
 cases r with
 | inl r =>
  rw [zaB, zcO ts (v, ()) (r := ((-1, ()), ())) (by simp only [zaK, hr, Option.bind_some, Sum.elim_inl])]
  simp only at hm
  simp [hm]
 | inr r =>
  rw [zaB, zcO ts (v, ()) (r := r) (by simp only [zaK, hr, Option.bind_some, Sum.elim_inr])]
  simp only at hm
  simp [hm]
theorem zvE (ts : List (List Int)) (hl : ts.length ≤ 17592186044416) (hx : ∀ t ∈ ts, t.length ≤ 17592186044416) : ∀ k i : Nat, i + k = 12 → ∀ o : List Int, o = ((List.range i).map Int.ofNat).filter (inV ts) → zgj M ts o i = some (.inl (upTo (inV ts), ())) := by
 intro k
 induction k with
 | zero =>
  intro i hi o ho
  obtain rfl : i = 12 := by omega
  subst ho
  exact zne _ _ _ (by simp [zhr, upTo])
 | succ k ih =>
  intro i hi o ho
  have hp := zzk (inV ts) i (by omega) o ho (by omega)
  have hol : o.length ≤ 12 := by rw [ho]; exact Nat.le_trans (List.length_filter_le _ _) (by simp; omega)
  apply zne
  simp only [zhr]
  rw [if_pos (by simp; omega), zvJ ts i (by omega) (by omega) hl hx]
  simp only [Option.bind_some]
  cases hv : inV ts (i : Int) with
  | true =>
   rw [hv, if_pos rfl] at hp
   rw [if_pos rfl, if_pos (by simp; omega)]
   simp only [Option.bind_some, Sum.elim_inl]
   rw [zb (by omega)]
   exact ih (i + 1) (by omega) _ hp.symm
  | false =>
   rw [hv, if_neg (by simp)] at hp
   rw [if_neg (by simp)]
   simp only [Option.bind_some, Sum.elim_inl]
   rw [zb (by omega)]
   exact ih (i + 1) (by omega) _ hp.symm
theorem zzU (ts : List (List Int)) (hl : ts.length ≤ 17592186044416) (hx : ∀ t ∈ ts, t.length ≤ 17592186044416) : zkd M ts = some ((upTo (inV ts), ()), ()) := by
 apply zvC
 simp only [zmT]
 have := zvE ts hl hx 12 0 (by omega) [] (by simp)
 rw [show ((0 : Nat) : Int) = 0 from rfl] at this
 rw [this]
 rfl
end Go.Proofs.YtkgpnekonnopgaaGreatIr.Ev
namespace Go.Proofs.YtkgpnekonnopgaaGreatIr.Ev
open Go
set_option autoImplicit false
set_option linter.unusedVariables false
set_option linter.unusedSimpArgs false
theorem zBI {a : List Int} : ∀ (t : List Int) (k : Int), sE a k t = some [] → ∀ n ∈ t, -12 ≤ n ∧ n < a.length := by
 intro t
 induction t with
 | nil => intro k _ n hn; cases hn
 | cons m t ih =>
  intro k h n hn
  simp only [sE] at h
  split at h
  ·cases h
  ·split at h
   ·cases h
   ·rename_i hb
    unfold badN at hb
    rcases List.mem_cons.1 hn with rfl | hn
    ·omega
    ·exact ih _ h n hn
theorem zrO {a t : List Int} (h : isT a t = true) : t.length ≤ 40 ∧ ∀ n ∈ t, -12 ≤ n ∧ n < a.length := by
 simp only [isT, Bool.and_eq_true, decide_eq_true_eq] at h
 exact ⟨h.1, zBI t 1 h.2⟩
end Go.Proofs.YtkgpnekonnopgaaGreatIr.Ev
namespace Go.Proofs.YtkgpnekonnopgaaGreatIr.Ev
open Go
set_option autoImplicit false
set_option linter.unusedVariables false
set_option linter.unusedSimpArgs false
def litOK (a : List Int) (x : TLit) : Bool := isT a x.2.1 && isT a x.2.2.1
def clOK (a : List Int) (c : List TLit) : Bool := decide (c.length ≤ 8) && c.all (litOK a)
theorem zA5 (s : TSign) (hg : gS s.1 = true) (x : TLit) (h : smL x) : zhT M s x = some ((litOK s.1 x, ()), ()) := by
 apply zkQ
 simp only [zh0, za, znV s hg x.2.1 h.1, znV s hg x.2.2.1 h.2, Option.bind_some, litOK]
 cases isT s.1 x.2.1 <;> simp
theorem zBn (s : TSign) (hg : gS s.1 = true) (x : TLit) : zhG M s x = some ((litOK s.1 x, ()), ()) := by
 apply zse
 simp only [zjS, za, zsX s hg x.2.1, zsX s hg x.2.2.1, Option.bind_some, litOK]
 cases isT s.1 x.2.1 <;> simp
theorem ztE (s : TSign) (hg : gS s.1 = true) (a : List TLit) (ha : a.length ≤ 1048576) (hx : ∀ x ∈ a, smL x) : ∀ k i : Nat, i + k = a.length → zbb M a s a a.length i = some (if (a.drop i).all (litOK s.1) = true then .inl (a, ()) else .inr ((false, ()), ())) := by
 intro k
 induction k with
 | zero =>
  intro i hi
  obtain rfl : i = a.length := by omega
  apply zaZ
  simp [zaY]
 | succ k ih =>
  intro i hi
  apply zaZ
  have h1 : i < a.length := by omega
  simp only [zaY]
  rw [if_pos (by simpa using h1), zd h1, zb (by omega)]
  simp only [Option.bind_some, za, zm, zA5 s hg a[i] (hx _ (List.getElem_mem h1)), ih (i + 1) (by omega)]
  rw [List.drop_eq_getElem_cons h1, List.all_cons]
  generalize litOK s.1 a[i] = b
  cases b <;> rfl
theorem zfT (s : TSign) (hg : gS s.1 = true) (a : List TLit) (ha : a.length ≤ 1048576) (hx : ∀ x ∈ a, smL x) : zaX M s a = some ((clOK s.1 a, ()), ()) := by
 apply zhd
 simp only [zdM, za]
 have := ztE s hg a ha hx a.length 0 (by omega)
 rw [show ((0 : Nat) : Int) = 0 from rfl] at this
 rw [this, List.drop_zero, clOK]
 cases a.all (litOK s.1)
 ·simp
 ·simp; omega
theorem zss (s : TSign) (hg : gS s.1 = true) (x : TLit) : zeC M x s = some ((!litOK s.1 x, ()), ()) := by
 apply zoP
 simp only [zhm, za, zm, zBn s hg x, Option.bind_some]
theorem zwk (s : TSign) (hg : gS s.1 = true) (a : List TLit) (ha : a.length ≤ 1048576) : ∀ k i : Nat, i + k = a.length → ∃ r, zz M a (s, ()) a.length i = some r ∧ (match r with | .inl _ => (a.drop i).all (litOK s.1) = true | .inr r => 0 ≤ r.1.1 ∧ (a.drop i).all (litOK s.1) = false) := by
 intro k
 induction k with
 | zero =>
  intro i hi
  obtain rfl : i = a.length := by omega
  refine ⟨.inl (), zaq _ _ _ _ (by simp [zw]), by simp⟩
 | succ k ih =>
  intro i hi
  have h1 : i < a.length := by omega
  obtain ⟨r, hr, hm⟩ := ih (i + 1) (by omega)
  rw [List.drop_eq_getElem_cons h1, List.all_cons]
  by_cases hp : litOK s.1 a[i] = true
  ·refine ⟨r, zaq _ _ _ _ ?_, by rw [hp, Bool.true_and]; exact hm⟩
   simp only [zw]
   rw [if_pos (by simpa using h1), zd h1, zb (by omega)]
   simp only [Option.bind_some, zm, zss s hg, hp, Bool.not_true, Bool.false_eq_true, if_false]
   exact hr
  ·rw [Bool.not_eq_true] at hp
   refine ⟨.inr (((i : Int), ()), ()), zaq _ _ _ _ ?_, Int.natCast_nonneg i, by rw [hp, Bool.false_and]⟩
   simp only [zw]
   rw [if_pos (by simpa using h1), zd h1]
   simp only [Option.bind_some, zm, zss s hg, hp, Bool.not_false, if_true]
theorem zwn (s : TSign) (hg : gS s.1 = true) (a : List TLit) (ha : a.length ≤ 1048576) : zR M a (s, ()) = some ((!(a.all (litOK s.1)), ()), ()) := by
 apply zdv
 simp only [zau]
 obtain ⟨r, hr, hm⟩ := zwk s hg a ha a.length 0 (by omega)
 rw [show ((0 : Nat) : Int) = 0 from rfl] at hr
 rw [List.drop_zero] at hm
 cases r with
 | inl r =>
  rw [zbz a (s, ()) (r := ((-1, ()), ())) (by simp only [zY, hr, Option.bind_some, Sum.elim_inl])]
  simp only at hm
  simp [hm]
 | inr r =>
  rw [zbz a (s, ()) (r := r) (by simp only [zY, hr, Option.bind_some, Sum.elim_inr])]
  simp only at hm
  simp [hm]
theorem zp8 (s : TSign) (hg : gS s.1 = true) (a : List TLit) (ha : a.length ≤ 1048576) : zdF M s a = some ((clOK s.1 a, ()), ()) := by
 apply zp5
 simp only [zie, za, zwn s hg a ha, Option.bind_some, clOK]
 by_cases h : a.length ≤ 8
 ·rw [if_pos (by simp; omega)]; simp [h]
 ·rw [if_neg (by simp; omega)]; simp [h]
end Go.Proofs.YtkgpnekonnopgaaGreatIr.Ev
namespace Go.Proofs.YtkgpnekonnopgaaGreatIr.Ev
open Go
set_option autoImplicit false
set_option linter.unusedVariables false
set_option linter.unusedSimpArgs false
def tms (c : List TLit) : List (List Int) := c.flatMap fun x => [x.2.1, x.2.2.1]
theorem ziK (c : List TLit) : (tms c).length = 2 * c.length := by
 induction c with
 | nil => rfl
 | cons x r ih =>
  have : tms (x :: r) = [x.2.1, x.2.2.1] ++ tms r := rfl
  rw [this, List.length_append, ih]; simp; omega
theorem zjE {c : List TLit} {t : List Int} : t ∈ tms c ↔ ∃ x ∈ c, t = x.2.1 ∨ t = x.2.2.1 := by
 simp [tms]
theorem zt7 (c : List TLit) (hc : c.length ≤ 1048576) : ∀ k i : Nat, i + k = c.length → ∀ o : List (List Int), o.length ≤ 2 * i → zfs M o c c.length i = some (.inl (o ++ tms (c.drop i), ())) := by
 intro k
 induction k with
 | zero =>
  intro i hi o ho
  obtain rfl : i = c.length := by omega
  exact zmh _ _ _ _ (by simp [zg4, tms])
 | succ k ih =>
  intro i hi o ho
  have h1 : i < c.length := by omega
  apply zmh
  simp only [zg4]
  rw [if_pos (by simpa using h1), zd h1]
  simp only [Option.bind_some]
  rw [if_pos (by simp; omega), zb (by omega), ih (i + 1) (by omega) _ (by simp; omega), List.drop_eq_getElem_cons h1]
  have : tms (c[i] :: c.drop (i + 1)) = [c[i].2.1, c[i].2.2.1] ++ tms (c.drop (i + 1)) := rfl
  rw [this, List.append_assoc]
theorem zmj (c : List TLit) (hc : c.length ≤ 1048576) : zcv M c = some ((tms c, ()), ()) := by
 apply zt1
 have := zt7 c hc c.length 0 (by omega) [] (by simp)
 rw [show ((0 : Nat) : Int) = 0 from rfl] at this
 simp only [zlz, this, Option.bind_some, Sum.elim_inl, List.nil_append, List.drop_zero]
end Go.Proofs.YtkgpnekonnopgaaGreatIr.Ev
namespace Go.Proofs.YtkgpnekonnopgaaGreatIr.Ev
open Go
set_option autoImplicit false
set_option linter.unusedVariables false
set_option linter.unusedSimpArgs false
def negs (t : List Int) : List Int := (t.filter fun n => decide (n < 0)).map fun n => -1 - n
theorem zAC {x : Int} (h : x < 0) (r : List Int) : negs (x :: r) = (-1 - x) :: negs r := by simp [negs, h]
theorem zAj {x : Int} (h : ¬ x < 0) (r : List Int) : negs (x :: r) = negs r := by simp [negs, h]
theorem zp4 (t : List Int) : (negs t).length ≤ t.length := by simp only [negs, List.length_map]; exact List.length_filter_le _ _
theorem ztc {t : List Int} {v : Int} : v ∈ negs t ↔ 0 ≤ v ∧ -1 - v ∈ t := by
 simp only [negs, List.mem_map, List.mem_filter, decide_eq_true_eq]
 constructor
 ·rintro ⟨n, ⟨h1, h2⟩, rfl⟩
  exact ⟨by omega, by rw [show -1 - (-1 - n) = n by omega]; exact h1⟩
 ·rintro ⟨h1, h2⟩
  exact ⟨-1 - v, ⟨h2, by omega⟩, by omega⟩
theorem ztY (t : List Int) (ht : t.length ≤ 4000) (hw : ∀ n ∈ t, -1000 ≤ n) : ∀ k i : Nat, i + k = t.length → ∀ o : List Int, o.length ≤ i → zfY M o t t.length i = some (.inl ((negs (t.drop i)).foldl putN o, ())) := by
 intro k
 induction k with
 | zero =>
  intro i hi o ho
  obtain rfl : i = t.length := by omega
  exact zno _ _ _ _ (by simp [zhJ, negs])
 | succ k ih =>
  intro i hi o ho
  have h1 : i < t.length := by omega
  have hn := hw _ (List.getElem_mem h1)
  apply zno
  simp only [zhJ]
  rw [if_pos (by simpa using h1), zd h1, List.drop_eq_getElem_cons h1]
  simp only [Option.bind_some]
  by_cases hx : t[i] < 0
  ·have hl := zs5 o (-1 - t[i])
   rw [if_pos (by simpa using hx), w64 (x := -1 - t[i]) (by omega) (by omega), zzx o (by omega)]
   simp only [Option.bind_some, Sum.elim_inl]
   rw [zb (by omega), ih (i + 1) (by omega) _ (by omega)]
   rw [zAC hx]
   rfl
  ·rw [if_neg (by simpa using hx)]
   simp only [Option.bind_some, Sum.elim_inl]
   rw [zb (by omega), ih (i + 1) (by omega) _ (by omega)]
   rw [zAj hx]
theorem zot (t : List Int) (ht : t.length ≤ 4000) (hw : ∀ n ∈ t, -1000 ≤ n) : zfk M t = some (((negs t).foldl putN [], ()), ()) := by
 apply zvd
 have := ztY t ht hw t.length 0 (by omega) [] (by simp)
 rw [show ((0 : Nat) : Int) = 0 from rfl] at this
 simp only [zmM, this, Option.bind_some, Sum.elim_inl, List.drop_zero]
def lvs (x : TLit) : List Int := (negs x.2.1).foldl putN [] ++ (negs x.2.2.1).foldl putN []
theorem zxt {x : TLit} {v : Int} : v ∈ lvs x ↔ 0 ≤ v ∧ (-1 - v ∈ x.2.1 ∨ -1 - v ∈ x.2.2.1) := by
 simp only [lvs, List.mem_append, ziH, List.not_mem_nil, false_or, ztc]
 constructor
 ·rintro (⟨h1, h2⟩ | ⟨h1, h2⟩)
  ·exact ⟨h1, .inl h2⟩
  ·exact ⟨h1, .inr h2⟩
 ·rintro ⟨h1, h2 | h2⟩
  ·exact .inl ⟨h1, h2⟩
  ·exact .inr ⟨h1, h2⟩
theorem zxf (c : List TLit) (n j : Int) (vs : List Int) (hl : vs.length ≤ 500) : ∀ k i : Nat, i + k = vs.length → ∀ o : List Int, o.length ≤ 400 + i → zcL M o c n j vs vs.length i = some (.inl ((vs.drop i).foldl putN o, c, n, j, ())) := by
 intro k
 induction k with
 | zero =>
  intro i hi o ho
  obtain rfl : i = vs.length := by omega
  exact zkS _ _ _ _ _ _ _ (by simp [zfL])
 | succ k ih =>
  intro i hi o ho
  have h1 : i < vs.length := by omega
  apply zkS
  simp only [zfL]
  rw [if_pos (by simpa using h1), if_pos (by omega), Int.toNat_natCast, List.getElem?_eq_getElem h1]
  simp only [Option.bind_some, zzx o (by omega)]
  have := zs5 o vs[i]
  rw [zb (by omega), ih (i + 1) (by omega) _ (by omega), List.drop_eq_getElem_cons h1]
  rfl
def liV (x : TLit) : Prop := x.2.1.length ≤ 40 ∧ x.2.2.1.length ≤ 40 ∧ (∀ n ∈ x.2.1, -12 ≤ n) ∧ ∀ n ∈ x.2.2.1, -12 ≤ n
theorem foldv (c : List TLit) (hc : ∀ x ∈ c, liV x) : ∀ o : List Int, Up o → (∀ v ∈ o, 0 ≤ v ∧ v ≤ 11) → Up (c.foldl (fun o x => (lvs x).foldl putN o) o) ∧ (∀ v ∈ c.foldl (fun o x => (lvs x).foldl putN o) o, 0 ≤ v ∧ v ≤ 11) ∧ ∀ v, v ∈ c.foldl (fun o x => (lvs x).foldl putN o) o ↔ v ∈ o ∨ ∃ x ∈ c, v ∈ lvs x := by
 induction c with
 | nil => intro o h1 h2; exact ⟨h1, h2, by simp⟩
 | cons x r ih =>
  intro o h1 h2
  have hx := hc x (by simp)
  have hb : ∀ v ∈ (lvs x).foldl putN o, 0 ≤ v ∧ v ≤ 11 := by
   intro v hv
   rcases (ziH _ _ _).1 hv with h | h
   ·exact h2 v h
   ·obtain ⟨a1, a2⟩ := zxt.1 h
    rcases a2 with a2 | a2
    ·have := hx.2.2.1 _ a2; omega
    ·have := hx.2.2.2 _ a2; omega
  obtain ⟨g1, g2, g3⟩ := ih (fun y hy => hc y (by simp [hy])) _ (zts (lvs x) o h1) hb
  refine ⟨g1, g2, fun v => ?_⟩
  rw [List.foldl_cons, g3 v, ziH]
  simp only [List.mem_cons, exists_eq_or_imp, or_assoc]
theorem zvf (c : List TLit) (hl : c.length ≤ 1000) (hc : ∀ x ∈ c, liV x) : ∀ k i : Nat, i + k = c.length → ∀ o : List Int, Up o → (∀ v ∈ o, 0 ≤ v ∧ v ≤ 11) → zgd M o c c.length i = some (.inl ((c.drop i).foldl (fun o x => (lvs x).foldl putN o) o, ())) := by
 intro k
 induction k with
 | zero =>
  intro i hi o ho hb
  obtain rfl : i = c.length := by omega
  exact znm _ _ _ _ (by simp [zhE])
 | succ k ih =>
  intro i hi o ho hb
  have h1 : i < c.length := by omega
  have hx := hc _ (List.getElem_mem h1)
  have l1 := zp4 c[i].2.1
  have l2 := zp4 c[i].2.2.1
  have l3 := zjY (negs c[i].2.1) []
  have l4 := zjY (negs c[i].2.2.1) []
  have x1 := hx.1
  have x2 := hx.2.1
  simp only [List.length_nil] at l3 l4
  have ol := ho.len12 hb
  have step := foldv [c[i]] (by intro y hy; simp at hy; subst hy; exact hx) o ho hb
  simp only [List.foldl_cons, List.foldl_nil] at step
  apply znm
  simp only [zhE]
  rw [if_pos (by simpa using h1), zd h1]
  simp only [Option.bind_some]
  rw [zot _ (by omega) (fun n hn => by have := hx.2.2.1 n hn; omega)]
  simp only [Option.bind_some]
  rw [zot _ (by omega) (fun n hn => by have := hx.2.2.2 n hn; omega)]
  simp only [Option.bind_some]
  rw [if_pos (by omega)]
  have hin := zxf c c.length i (lvs c[i]) (by simp only [lvs, List.length_append]; omega) (lvs c[i]).length 0 (by omega) o (by omega)
  rw [show ((0 : Nat) : Int) = 0 from rfl, List.drop_zero] at hin
  have hin' : zcL M o c c.length i ((negs c[i].2.1).foldl putN [] ++ (negs c[i].2.2.1).foldl putN []) ((negs c[i].2.1).foldl putN [] ++ (negs c[i].2.2.1).foldl putN []).length 0 = some (.inl ((lvs c[i]).foldl putN o, c, c.length, i, ())) := hin
  rw [hin']
  simp only [Option.bind_some, Sum.elim_inl]
  rw [zb (by omega), ih (i + 1) (by omega) _ step.1 step.2.1, List.drop_eq_getElem_cons h1]
  rfl
theorem zz1 (c : List TLit) (hl : c.length ≤ 1000) (hc : ∀ x ∈ c, liV x) : zj8 M c = some ((upTo (inV (tms c)), ()), ()) := by
 apply zu9
 have := zvf c hl hc c.length 0 (by omega) [] List.Pairwise.nil (by simp)
 rw [show ((0 : Nat) : Int) = 0 from rfl] at this
 simp only [zmN, this, Option.bind_some, Sum.elim_inl, List.drop_zero]
 obtain ⟨g1, g2, g3⟩ := foldv c hc [] List.Pairwise.nil (by simp)
 congr 3
 refine Up.ext g1 (zxy _) fun v => ?_
 rw [g3 v, zji]
 simp only [List.not_mem_nil, false_or, zxt, inV, List.any_eq_true, decide_eq_true_eq]
 constructor
 ·rintro ⟨x, hx, h0, h⟩
  have hh := hc x hx
  refine ⟨h0, ?_, ?_⟩
  ·rcases h with h | h
   ·have := hh.2.2.1 _ h; omega
   ·have := hh.2.2.2 _ h; omega
  ·rcases h with h | h
   ·exact ⟨_, zjE.2 ⟨x, hx, .inl rfl⟩, h⟩
   ·exact ⟨_, zjE.2 ⟨x, hx, .inr rfl⟩, h⟩
 ·rintro ⟨h0, _, t, ht, h⟩
  obtain ⟨x, hx, h1⟩ := zjE.1 ht
  rcases h1 with rfl | rfl
  ·exact ⟨x, hx, h0, .inl h⟩
  ·exact ⟨x, hx, h0, .inr h⟩
theorem zpP {a : List Int} {c : List TLit} (h : clOK a c = true) : c.length ≤ 8 ∧ ∀ x ∈ c, liV x := by
 simp only [clOK, Bool.and_eq_true, decide_eq_true_eq] at h
 refine ⟨h.1, fun x hx => ?_⟩
 have := (List.all_eq_true.1 h.2) x hx
 simp only [litOK, Bool.and_eq_true] at this
 obtain ⟨l1, l2⟩ := zrO this.1
 obtain ⟨r1, r2⟩ := zrO this.2
 exact ⟨l1, r1, fun n hn => (l2 n hn).1, fun n hn => (r2 n hn).1⟩
end Go.Proofs.YtkgpnekonnopgaaGreatIr.Ev
namespace Go.Proofs.YtkgpnekonnopgaaGreatIr.Ev
open Go
set_option autoImplicit false
set_option linter.unusedVariables false
set_option linter.unusedSimpArgs false
def shn (by' n : Int) : Int := if n < 0 then n - by' else n
theorem zv3 (by' : Int) (h0 : 0 ≤ by') (h1 : by' ≤ 1000) (t : List Int) (hl : t.length ≤ 1000000) (hx : ∀ n ∈ t, -1000000 ≤ n ∧ n ≤ 1000000) : ∀ k i : Nat, i + k = t.length → zgU M by' ((t.take i).map (shn by') ++ t.drop i) t.length i = some (.inl (t.map (shn by'), ())) := by
 intro k
 induction k with
 | zero =>
  intro i hi
  obtain rfl : i = t.length := by omega
  apply znB
  simp [zh7]
 | succ k ih =>
  intro i hi
  have h2 : i < t.length := by omega
  have hn := hx _ (List.getElem_mem h2)
  have hlen : ((t.take i).map (shn by') ++ t.drop i).length = t.length := by simp; omega
  have hget : ((t.take i).map (shn by') ++ t.drop i)[i]? = some t[i] := by
   rw [List.getElem?_append_right (by simp; omega)]
   simp [Nat.min_eq_left (Nat.le_of_lt h2), h2]
  have hnext : (t.take (i + 1)).map (shn by') ++ t.drop (i + 1) = ((t.take i).map (shn by') ++ t.drop i).set i (shn by' t[i]) := by
   rw [List.take_succ_eq_append_getElem h2, List.map_append, List.set_append_right _ _ (by simp; omega)]
   have e : i - ((t.take i).map (shn by')).length = 0 := by simp; omega
   rw [e, List.drop_eq_getElem_cons h2, List.set_cons_zero, List.append_assoc]
   rfl
  have ih' := ih (i + 1) (by omega)
  rw [hnext] at ih'
  apply znB
  simp only [zh7]
  rw [if_pos (by simpa using h2), if_pos (by rw [hlen]; omega), Int.toNat_natCast, hget]
  simp only [Option.bind_some]
  by_cases hneg : t[i] < 0
  ·rw [if_pos (by simpa using hneg), if_pos (by rw [hlen]; omega), w64 (x := t[i] - by') (by omega) (by omega)]
   simp only [Option.bind_some, Sum.elim_inl]
   rw [zb (by omega)]
   have : shn by' t[i] = t[i] - by' := by simp [shn, hneg]
   rw [this] at ih'
   exact ih'
  ·rw [if_neg (by simpa using hneg)]
   simp only [Option.bind_some, Sum.elim_inl]
   rw [zb (by omega)]
   have : shn by' t[i] = t[i] := by simp [shn, hneg]
   rw [this] at ih'
   have hset : ((t.take i).map (shn by') ++ t.drop i).set i t[i] = (t.take i).map (shn by') ++ t.drop i := by
    apply List.ext_getElem?
    intro j
    rw [List.getElem?_set]
    split
    ·rename_i e; subst e; rw [hget, if_pos (by rw [hlen]; exact h2)]
    ·rfl
   rw [hset] at ih'
   exact ih'
theorem zBe (t : List Int) (by' : Int) (h0 : 0 ≤ by') (h1 : by' ≤ 1000) (hl : t.length ≤ 1000000) (hx : ∀ n ∈ t, -1000000 ≤ n ∧ n ≤ 1000000) : zk3 M t by' = some ((t.map (shn by'), ()), ()) := by
 apply zwL
 simp only [znS]
 have := zv3 by' h0 h1 t hl hx t.length 0 (by omega)
 rw [show ((0 : Nat) : Int) = 0 from rfl] at this
 simp only [List.take_zero, List.map_nil, List.nil_append, List.drop_zero] at this
 rw [if_pos (by omega), this]
 rfl
theorem zt5 (by' : Int) (h0 : 0 ≤ by') (h1 : by' ≤ 1000) (t : List Int) (hl : t.length ≤ 1000000) (hx : ∀ n ∈ t, -1000000 ≤ n ∧ n ≤ 1000000) : ∀ k i : Nat, i + k = t.length → zfw M by' ((t.take i).map (shn by') ++ t.drop i) t.length i = some (.inl (t.map (shn by'), ())) := by
 intro k
 induction k with
 | zero =>
  intro i hi
  obtain rfl : i = t.length := by omega
  apply zmv
  simp [zg1]
 | succ k ih =>
  intro i hi
  have h2 : i < t.length := by omega
  have hn := hx _ (List.getElem_mem h2)
  have hlen : ((t.take i).map (shn by') ++ t.drop i).length = t.length := by simp; omega
  have hget : ((t.take i).map (shn by') ++ t.drop i)[i]? = some t[i] := by
   rw [List.getElem?_append_right (by simp; omega)]
   simp [Nat.min_eq_left (Nat.le_of_lt h2), h2]
  have hnext : (t.take (i + 1)).map (shn by') ++ t.drop (i + 1) = ((t.take i).map (shn by') ++ t.drop i).set i (shn by' t[i]) := by
   rw [List.take_succ_eq_append_getElem h2, List.map_append, List.set_append_right _ _ (by simp; omega)]
   have e : i - ((t.take i).map (shn by')).length = 0 := by simp; omega
   rw [e, List.drop_eq_getElem_cons h2, List.set_cons_zero, List.append_assoc]
   rfl
  have ih' := ih (i + 1) (by omega)
  rw [hnext] at ih'
  apply zmv
  simp only [zg1]
  rw [if_pos (by simpa using h2), if_pos (by rw [hlen]; omega), Int.toNat_natCast, hget]
  simp only [Option.bind_some]
  by_cases hneg : t[i] < 0
  ·rw [if_pos (by simpa using hneg), if_pos (by rw [hlen]; omega), w64 (x := t[i] - by') (by omega) (by omega)]
   simp only [Option.bind_some, Sum.elim_inl]
   rw [zb (by omega)]
   have : shn by' t[i] = t[i] - by' := by simp [shn, hneg]
   rw [this] at ih'
   exact ih'
  ·rw [if_neg (by simpa using hneg)]
   simp only [Option.bind_some, Sum.elim_inl]
   rw [zb (by omega)]
   have : shn by' t[i] = t[i] := by simp [shn, hneg]
   rw [this] at ih'
   have hset : ((t.take i).map (shn by') ++ t.drop i).set i t[i] = (t.take i).map (shn by') ++ t.drop i := by
    apply List.ext_getElem?
    intro j
    rw [List.getElem?_set]
    split
    ·rename_i e; subst e; rw [hget, if_pos (by rw [hlen]; exact h2)]
    ·rfl
   rw [hset] at ih'
   exact ih'
theorem zuX (t : List Int) (by' : Int) (h0 : 0 ≤ by') (h1 : by' ≤ 1000) (hl : t.length ≤ 1000000) (hx : ∀ n ∈ t, -1000000 ≤ n ∧ n ≤ 1000000) : zhY M t by' = some ((t.map (shn by'), ()), ()) := by
 apply zuJ
 have ho : zbE M t = some ((t, ()), ()) := by
  apply zra
  simp only [zkN, List.length_nil, List.nil_append]
  rw [if_pos (by omega)]
 simp only [zlG, ho, Option.bind_some]
 have := zt5 by' h0 h1 t hl hx t.length 0 (by omega)
 rw [show ((0 : Nat) : Int) = 0 from rfl] at this
 simp only [List.take_zero, List.map_nil, List.nil_append, List.drop_zero] at this
 rw [this]
 rfl
end Go.Proofs.YtkgpnekonnopgaaGreatIr.Ev
namespace Go.Proofs.YtkgpnekonnopgaaGreatIr.Ev
open Go
set_option autoImplicit false
set_option linter.unusedVariables false
set_option linter.unusedSimpArgs false
def nmb (m : List (Int × Int)) (n : Int) : List (Int × Int) := if mhas m n = true then m else mput m n (-1 - (m.length : Int))
def rnm : List (Int × Int) → List Int → List Int × List (Int × Int)
 | m, [] => ([], m)
 | m, n :: r => if 0 ≤ n then (n :: (rnm m r).1, (rnm m r).2) else (mget (nmb m n) n 0 :: (rnm (nmb m n) r).1, (rnm (nmb m n) r).2)
def rnL : List (Int × Int) → List (List Int) → List (List Int)
 | _, [] => []
 | m, t :: r => (rnm m t).1 :: rnL (rnm m t).2 r
theorem zAu {α : Type} (m : List (Int × α)) (k : Int) (y : α) : (mput m k y).length ≤ m.length + 1 := by
 induction m with
 | nil => simp [mput]
 | cons p r ih =>
  obtain ⟨a, b⟩ := p
  simp only [mput]
  split <;> simp only [List.length_cons] <;> omega
theorem zxu (m : List (Int × Int)) (n : Int) : (nmb m n).length ≤ m.length + 1 := by
 unfold nmb
 split
 ·omega
 ·exact zAu _ _ _
theorem zrL : ∀ (t : List Int) (m : List (Int × Int)), (rnm m t).1.length = t.length ∧ (rnm m t).2.length ≤ m.length + t.length
 | [], m => by simp [rnm]
 | n :: r, m => by
  simp only [rnm]
  split
  ·have := zrL r m
   simp only [List.length_cons]; omega
  ·have h1 := zrL r (nmb m n)
   have h2 := zxu m n
   simp only [List.length_cons]; omega
theorem zw8 (outs : List (List Int)) (i : Nat) (hi : i < outs.length) (ho : outs.length ≤ 1000000) (l : List (List Int)) (N I : Int) (t : List Int) (ht : t.length ≤ 1000000) : ∀ (k j : Nat) (m : List (Int × Int)) (P : List Int), j + k = t.length → P.length = j → m.length + k ≤ 2000000 →
  zd7 M m (outs.set i (P ++ t.drop j)) i l N I t t.length j = some (.inl ((rnm m (t.drop j)).2, outs.set i (P ++ (rnm m (t.drop j)).1), l, N, I, ())) := by
 intro k
 induction k with
 | zero =>
  intro j m P hj hP hm
  obtain rfl : j = t.length := by omega
  apply zkV
  simp [zfK, rnm]
 | succ k ih =>
  intro j m P hj hP hm
  have h1 : j < t.length := by omega
  rw [List.drop_eq_getElem_cons h1]
  apply zkV
  simp only [zfK]
  rw [if_pos (by simpa using h1), zd h1]
  simp only [Option.bind_some]
  by_cases h0 : 0 ≤ t[j]
  ·rw [if_pos (by simpa using h0)]
   simp only [Option.bind_some, Sum.elim_inl]
   have := ih (j + 1) m (P ++ [t[j]]) (by omega) (by simp [hP]) (by omega)
   rw [List.append_assoc, List.append_assoc] at this
   simp only [List.cons_append, List.nil_append] at this
   rw [zb (by omega), this]
   simp only [rnm, if_pos h0]
  ·rw [if_neg (by simpa using h0)]
   have hl := zxu m t[j]
   have hmap : (if (!(mhas m t[j])) = true then (some (.inl ((mput m t[j] (IntKind.i64.wrap ((-1 : Int) - (List.length m : Int)))), outs.set i (P ++ t[j] :: t.drop (j + 1)), (i : Int), (j : Int), t[j], l, N, I, t, (t.length : Int), (j : Int), ()))) else (some (.inl (m, outs.set i (P ++ t[j] :: t.drop (j + 1)), (i : Int), (j : Int), t[j], l, N, I, t, (t.length : Int), (j : Int), ())))
     : Option (((List (Int × Int)) × (List (List Int)) × Int × Int × Int × (List (List Int)) × Int × Int × (List Int) × Int × Int × Unit) ⊕ (((List (Int × Int)) × (List (List Int)) × Int × (List (List Int)) × Int × Int × (List Int) × Int × Int × Unit) ⊕ (((List (Int × Int)) × (List (List Int)) × (List (List Int)) × Int × Int × Unit) ⊕ ((((List (List Int)) × Unit) × (Unit)))))))
     = some (.inl (nmb m t[j], outs.set i (P ++ t[j] :: t.drop (j + 1)), (i : Int), (j : Int), t[j], l, N, I, t, (t.length : Int), (j : Int), ())) := by
    unfold nmb
    cases mhas m t[j] with
    | true => rfl
    | false => rw [w64 (by omega) (by omega)]; rfl
   rw [hmap]
   simp only [Option.bind_some, Sum.elim_inl]
   have hset : (outs.set i (P ++ t[j] :: t.drop (j + 1)))[i]? = some (P ++ t[j] :: t.drop (j + 1)) := by simp [hi]
   have hel : (P ++ t[j] :: t.drop (j + 1))[j]? = some t[j] := by
    rw [List.getElem?_append_right (by omega), hP, Nat.sub_self]; rfl
   rw [if_pos (by rw [List.length_set]; omega), Int.toNat_natCast, hset]
   simp only [Option.bind_some]
   rw [if_pos (by simp; omega), Int.toNat_natCast, hel]
   simp only [Option.bind_some, Sum.elim_inl]
   rw [List.set_set, show (P ++ t[j] :: t.drop (j + 1)).set j (mget (nmb m t[j]) t[j] 0) = (P ++ [mget (nmb m t[j]) t[j] 0]) ++ t.drop (j + 1) by
    rw [List.set_append_right _ _ (by omega), hP, Nat.sub_self, List.set_cons_zero]; simp]
   have := ih (j + 1) (nmb m t[j]) (P ++ [mget (nmb m t[j]) t[j] 0]) (by omega) (by simp [hP]) (by omega)
   rw [zb (by omega), this]
   simp only [rnm, if_neg h0]
   simp
theorem zu2 (l : List (List Int)) (hl : l.length ≤ 1000) (hx : ∀ t ∈ l, t.length ≤ 1000) : ∀ (k j : Nat) (m : List (Int × Int)) (D : List (List Int)), j + k = l.length → D.length = j → m.length ≤ 1000 * j → zfD M m (D ++ List.replicate k []) l l.length j = some (.inl (D ++ rnL m (l.drop j), ())) := by
 intro k
 induction k with
 | zero =>
  intro j m D hj hD hm
  obtain rfl : j = l.length := by omega
  apply zmg
  simp [zg8, rnL]
 | succ k ih =>
  intro j m D hj hD hm
  have h1 : j < l.length := by omega
  have ht := hx _ (List.getElem_mem h1)
  apply zmg
  simp only [zg8]
  have hlen : (D ++ List.replicate (k + 1) ([] : List Int)).length = l.length := by simp; omega
  have hget : (D ++ List.replicate (k + 1) ([] : List Int))[j]? = some [] := by
   rw [List.getElem?_append_right (by omega), hD, Nat.sub_self]; rfl
  rw [if_pos (by simpa using h1), zd h1]
  simp only [Option.bind_some]
  rw [if_pos (by omega), if_pos (by rw [hlen]; omega), Int.toNat_natCast, hget]
  simp only [Option.bind_some]
  have hin := zw8 (D ++ List.replicate (k + 1) []) j (by omega) (by omega) l l.length j l[j] (by omega) l[j].length 0 m [] (by omega) rfl (by omega)
  rw [show ((0 : Nat) : Int) = 0 from rfl] at hin
  simp only [List.nil_append, List.drop_zero] at hin
  rw [hin]
  simp only [Option.bind_some, Sum.elim_inl]
  have hset : (D ++ List.replicate (k + 1) []).set j (rnm m l[j]).1 = (D ++ [(rnm m l[j]).1]) ++ List.replicate k [] := by
   rw [List.set_append_right _ _ (by omega), hD, Nat.sub_self, List.replicate_succ, List.set_cons_zero]; simp
  have hrl := (zrL l[j] m).2
  rw [zb (by omega), hset, ih (j + 1) _ _ (by omega) (by simp [hD]) (by omega), List.drop_eq_getElem_cons h1]
  simp [rnL]
theorem zAB (l : List (List Int)) (hl : l.length ≤ 1000) (hx : ∀ t ∈ l, t.length ≤ 1000) : zkg M l = some ((rnL [] l, ()), ()) := by
 apply zvF
 have := zu2 l hl hx l.length 0 [] [] (by omega) rfl (by simp)
 rw [show ((0 : Nat) : Int) = 0 from rfl] at this
 simp only [List.nil_append, List.drop_zero] at this
 simp only [zmz]
 rw [if_pos ⟨by omega, by omega, trivial⟩, Int.toNat_natCast, this]
 rfl
theorem zws (a b : List Int) (hab : a.length = b.length) (ha : a.length ≤ 17592186044416) : ∀ k i : Nat, i + k = a.length → zb8 M a b a.length i = some (if a.drop i = b.drop i then .inl () else .inr ((false, ()), ())) := by
 intro k
 induction k with
 | zero =>
  intro i hi
  obtain rfl : i = a.length := by omega
  apply ziv
  simp only [zcU]
  rw [if_neg (by simp), List.drop_length, hab, List.drop_length, if_pos rfl]
 | succ k ih =>
  intro i hi
  have h1 : i < a.length := by omega
  have h2 : i < b.length := by omega
  apply ziv
  simp only [zcU]
  rw [if_pos (by simpa using h1), zd h1, zd h2]
  simp only [Option.bind_some]
  rw [List.drop_eq_getElem_cons h1, List.drop_eq_getElem_cons h2]
  by_cases he : a[i] = b[i]
  ·rw [if_neg (by simpa using he), zb (by omega), ih (i + 1) (by omega)]
   by_cases hd : a.drop (i + 1) = b.drop (i + 1)
   ·rw [if_pos hd, if_pos (by rw [he, hd])]
   ·rw [if_neg hd, if_neg (fun h => hd (List.cons.inj h).2)]
  ·rw [if_pos (by simpa using he), if_neg (fun h => he (List.cons.inj h).1)]
theorem zhV (a b : List Int) (ha : a.length ≤ 17592186044416) : zC M a b = some ((decide (a = b), ()), ()) := by
 apply zoV
 simp only [zhk]
 by_cases hl : a.length = b.length
 ·have := zws a b hl ha a.length 0 (by omega)
  rw [show ((0 : Nat) : Int) = 0 from rfl, List.drop_zero, List.drop_zero] at this
  rw [if_neg (by simp [hl]), this]
  by_cases h : a = b
  ·rw [if_pos h]; simp [h]
  ·rw [if_neg h]; simp [h]
 ·have : ¬ a = b := fun h => hl (by rw [h])
  rw [if_pos (by simp; omega)]
  simp [this]
end Go.Proofs.YtkgpnekonnopgaaGreatIr.Ev
namespace Go.Proofs.YtkgpnekonnopgaaGreatIr.Ev
open Go
set_option autoImplicit false
set_option linter.unusedVariables false
set_option linter.unusedSimpArgs false
theorem zye (n : Int) (t : List Int) (ht : t.length ≤ 1048576) : ∀ k i c : Nat, i + k = t.length → c ≤ i → zg7 M n c t t.length i = some (.inl (((c + (t.drop i).count n : Nat) : Int), ())) := by
 intro k
 induction k with
 | zero =>
  intro i c hi hc
  obtain rfl : i = t.length := by omega
  apply zn4
  simp only [zia]
  rw [if_neg (by simp), List.drop_length]
  simp
 | succ k ih =>
  intro i c hi hc
  have h1 : i < t.length := by omega
  apply zn4
  simp only [zia]
  rw [if_pos (by simpa using h1), zd h1]
  simp only [Option.bind_some]
  rw [List.drop_eq_getElem_cons h1, List.count_cons]
  by_cases h : t[i] = n
  ·rw [if_pos (by simpa using h)]
   simp only [Option.bind_some, Sum.elim_inl]
   rw [zb (by omega), zb (by omega), ih (i + 1) (c + 1) (by omega) (by omega)]
   simp [h]; omega
  ·rw [if_neg (by simpa using h)]
   simp only [Option.bind_some, Sum.elim_inl]
   rw [zb (by omega), ih (i + 1) c (by omega) (by omega)]
   simp [h]
theorem zzB (t : List Int) (n : Int) (ht : t.length ≤ 1048576) : zi9 M t n = some ((((t.count n : Nat) : Int), ()), ()) := by
 apply zvT
 have := zye n t ht t.length 0 0 (by omega) (by omega)
 rw [show ((0 : Nat) : Int) = 0 from rfl, List.drop_zero, Nat.zero_add] at this
 simp only [znY, this, Option.bind_some, Sum.elim_inl]
theorem zxV (n : Int) (t : List Int) (ht : t.length ≤ 1048576) : ∀ k i c : Nat, i + k = t.length → c ≤ i → zfB M n c t t.length i = some (.inl (((c + (t.drop i).count n : Nat) : Int), ())) := by
 intro k
 induction k with
 | zero =>
  intro i c hi hc
  obtain rfl : i = t.length := by omega
  apply zme
  simp only [zgX]
  rw [if_neg (by simp), List.drop_length]
  simp
 | succ k ih =>
  intro i c hi hc
  have h1 : i < t.length := by omega
  apply zme
  simp only [zgX]
  rw [if_pos (by simpa using h1), zd h1]
  simp only [Option.bind_some]
  rw [List.drop_eq_getElem_cons h1, List.count_cons]
  by_cases h : t[i] = n
  ·rw [if_pos (by simpa using h)]
   simp only [Option.bind_some, Sum.elim_inl]
   rw [zb (by omega), zb (by omega), ih (i + 1) (c + 1) (by omega) (by omega)]
   simp [h]; omega
  ·rw [if_neg (by simpa using h)]
   simp only [Option.bind_some, Sum.elim_inl]
   rw [zb (by omega), ih (i + 1) c (by omega) (by omega)]
   simp [h]
theorem zzp (t : List Int) (n : Int) (ht : t.length ≤ 1048576) : zhW M t n = some ((((t.count n : Nat) : Int), ()), ()) := by
 apply zuE
 have := zxV n t ht t.length 0 0 (by omega) (by omega)
 rw [show ((0 : Nat) : Int) = 0 from rfl, List.drop_zero, Nat.zero_add] at this
 simp only [zlL, this, Option.bind_some, Sum.elim_inl]
def wgh (a b : List Int) : Bool := decide (∀ v : Nat, v < 12 → b.count (-1 - (v : Int)) ≤ a.count (-1 - (v : Int)))
def gtLex : List Int → List Int → Bool
 | x :: a, y :: b => if x = y then gtLex a b else decide (0 ≤ x) && (decide (0 ≤ y) && decide (y < x))
 | _, _ => false
def gtT (a b : List Int) : Bool := wgh a b && (decide (b.length ≤ a.length) && (decide (b.length < a.length) || gtLex a b))
def cmpK (a b : List Int) : Int := if a = b then 0 else if gtT a b = true then 1 else if gtT b a = true then -1 else 2
theorem zvB (a b : List Int) (ha : a.length ≤ 1048576) (hb : b.length ≤ 1048576) : ∀ k v : Nat, v + k = 12 → zdD M a b v = some (if decide (∀ w : Nat, w < 12 → v ≤ w → b.count (-1 - (w : Int)) ≤ a.count (-1 - (w : Int))) = true then .inl () else .inr ((false, ()), ())) := by
 intro k
 induction k with
 | zero =>
  intro v hv
  obtain rfl : v = 12 := by omega
  apply zkH
  simp only [ze0]
  rw [if_neg (by simp), if_pos (by simp; omega)]
 | succ k ih =>
  intro v hv
  apply zkH
  simp only [ze0]
  rw [if_pos (by simp; omega), w64 (by omega) (by omega)]
  simp only [Option.bind_some, zzB a _ ha, zzB b _ hb]
  by_cases h : b.count (-1 - (v : Int)) ≤ a.count (-1 - (v : Int))
  ·rw [if_neg (by simp; omega), zb (by omega), ih (v + 1) (by omega)]
   have : (∀ w : Nat, w < 12 → v + 1 ≤ w → b.count (-1 - (w : Int)) ≤ a.count (-1 - (w : Int))) ↔ ∀ w : Nat, w < 12 → v ≤ w → b.count (-1 - (w : Int)) ≤ a.count (-1 - (w : Int)) := by
    constructor
    ·intro q w h1 h2
     by_cases e : w = v
     ·subst e; exact h
     ·exact q w h1 (by omega)
    ·intro q w h1 h2; exact q w h1 (by omega)
   simp only [this]
  ·rw [if_pos (by simp; omega), if_neg (by simp only [decide_eq_true_eq]; intro q; exact h (q v (by omega) (Nat.le_refl _)))]
theorem zAh (a b : List Int) (ha : a.length ≤ 1048576) (hb : b.length ≤ 1048576) : zhu M a b = some ((wgh a b, ()), ()) := by
 apply zr7
 have := zvB a b ha hb 12 0 (by omega)
 rw [show ((0 : Nat) : Int) = 0 from rfl] at this
 simp only [zjT, this, Option.bind_some]
 have e : decide (∀ w : Nat, w < 12 → 0 ≤ w → b.count (-1 - (w : Int)) ≤ a.count (-1 - (w : Int))) = wgh a b := by
  unfold wgh
  simp
 rw [e]
 cases wgh a b <;> rfl
theorem zvg (a b r : List Int) (ha : a.length ≤ 1048576) (hb : b.length ≤ 1048576) (hr : r.length ≤ 100000) (hv : ∀ v ∈ r, 0 ≤ v ∧ v ≤ 1000) : ∀ k i : Nat, i + k = r.length → zeJ M a b r r.length i = some (if (r.drop i).all (fun v => decide (b.count (-1 - v) ≤ a.count (-1 - v))) = true then .inl () else .inr ((false, ()), ())) := by
 intro k
 induction k with
 | zero =>
  intro i hi
  obtain rfl : i = r.length := by omega
  apply zlp
  simp only [zgp]
  rw [if_neg (by simp), if_pos (by simp)]
 | succ k ih =>
  intro i hi
  have h1 : i < r.length := by omega
  have h2 := hv _ (List.getElem_mem h1)
  apply zlp
  simp only [zgp]
  rw [if_pos (by simpa using h1), if_pos (by omega), Int.toNat_natCast, List.getElem?_eq_getElem h1]
  simp only [Option.bind_some]
  rw [w64 (by omega) (by omega)]
  simp only [Option.bind_some, zzp a _ ha, zzp b _ hb]
  rw [List.drop_eq_getElem_cons h1, List.all_cons]
  by_cases h : b.count (-1 - r[i]) ≤ a.count (-1 - r[i])
  ·rw [if_neg (by simp; omega), zb (by omega), ih (i + 1) (by omega), decide_eq_true h, Bool.true_and]
  ·rw [if_pos (by simp; omega), decide_eq_false h, Bool.false_and, if_neg (by simp)]
theorem zAg (a b : List Int) (ha : a.length ≤ 1048576) (hb : b.length ≤ 4000) (hw : ∀ n ∈ b, -12 ≤ n) : zi0 M a b = some ((wgh a b, ()), ()) := by
 apply ztQ
 have hm : ∀ v, v ∈ (negs b).foldl putN [] ↔ 0 ≤ v ∧ -1 - v ∈ b := by
  intro v; rw [ziH, ztc]; simp
 have hl : ((negs b).foldl putN []).length ≤ 100000 := by
  have := zjY (negs b) []
  have := zp4 b
  simp at *; omega
 have hv : ∀ v ∈ (negs b).foldl putN [], 0 ≤ v ∧ v ≤ 1000 := by
  intro v h
  have h := (hm v).1 h
  have := hw _ h.2
  omega
 have := zvg a b _ ha (by omega) hl hv _ 0 (by rw [Nat.zero_add])
 rw [show ((0 : Nat) : Int) = 0 from rfl, List.drop_zero] at this
 simp only [zkW, zot b hb (fun n hn => by have := hw n hn; omega), Option.bind_some, this]
 have e : ((negs b).foldl putN []).all (fun v => decide (b.count (-1 - v) ≤ a.count (-1 - v))) = wgh a b := by
  unfold wgh
  rw [Bool.eq_iff_iff]
  simp only [List.all_eq_true, decide_eq_true_eq]
  constructor
  ·intro q v hv
   by_cases h : -1 - (v : Int) ∈ b
   ·exact q v ((hm v).2 ⟨by omega, h⟩)
   ·rw [List.count_eq_zero_of_not_mem h]; omega
  ·intro q v hv
   have h := (hm v).1 hv
   have := hw _ h.2
   have := q v.toNat (by omega)
   rwa [show ((v.toNat : Nat) : Int) = v by omega] at this
 rw [e]
 cases wgh a b <;> rfl
theorem znP (a b : List Int) (hl : a.length = b.length) (ha : a.length ≤ 1048576) : ∀ k i : Nat, i + k = a.length → zdK M b a a.length i = some (if a.drop i = b.drop i then .inl () else .inr ((gtLex (a.drop i) (b.drop i), ()), ())) := by
 intro k
 induction k with
 | zero =>
  intro i hi
  obtain rfl : i = a.length := by omega
  apply zkG
  simp only [ze6]
  rw [if_neg (by simp), List.drop_length, hl, List.drop_length, if_pos rfl]
 | succ k ih =>
  intro i hi
  have h1 : i < a.length := by omega
  have h2 : i < b.length := by omega
  apply zkG
  simp only [ze6]
  rw [if_pos (by simpa using h1), zd h1, zd h2]
  simp only [Option.bind_some]
  rw [List.drop_eq_getElem_cons h1, List.drop_eq_getElem_cons h2]
  by_cases he : a[i] = b[i]
  ·rw [if_neg (by simpa using he), zb (by omega), ih (i + 1) (by omega)]
   by_cases hd : a.drop (i + 1) = b.drop (i + 1)
   ·rw [if_pos hd, if_pos (by rw [he, hd])]
   ·rw [if_neg hd, if_neg (fun h => hd (List.cons.inj h).2), gtLex, if_pos he]
  ·rw [if_pos (by simpa using he), if_neg (fun h => he (List.cons.inj h).1), gtLex, if_neg he]
   by_cases p : 0 ≤ a[i]
   ·rw [if_pos (by simpa using p)]
    by_cases q : 0 ≤ b[i]
    ·rw [if_pos (by simpa using q)]
     simp [p, q]
    ·rw [if_neg (by simpa using q)]
     simp [q]
   ·rw [if_neg (by simpa using p)]
    simp [p]
theorem znL (a b : List Int) (hl : a.length = b.length) (ha : a.length ≤ 1048576) : ∀ k i : Nat, i + k = a.length → zdN M a b a.length i = some (if a.drop i = b.drop i then .inl () else .inr ((gtLex (a.drop i) (b.drop i), ()), ())) := by
 intro k
 induction k with
 | zero =>
  intro i hi
  obtain rfl : i = a.length := by omega
  apply zkL
  simp only [zfd]
  rw [if_neg (by simp), List.drop_length, hl, List.drop_length, if_pos rfl]
 | succ k ih =>
  intro i hi
  have h1 : i < a.length := by omega
  have h2 : i < b.length := by omega
  apply zkL
  simp only [zfd]
  rw [if_pos (by simpa using h1), zd h1, zd h2]
  simp only [Option.bind_some]
  rw [List.drop_eq_getElem_cons h1, List.drop_eq_getElem_cons h2]
  by_cases he : a[i] = b[i]
  ·rw [if_neg (by simpa using he), zb (by omega), ih (i + 1) (by omega)]
   by_cases hd : a.drop (i + 1) = b.drop (i + 1)
   ·rw [if_pos hd, if_pos (by rw [he, hd])]
   ·rw [if_neg hd, if_neg (fun h => hd (List.cons.inj h).2), gtLex, if_pos he]
  ·rw [if_pos (by simpa using he), if_neg (fun h => he (List.cons.inj h).1), gtLex, if_neg he]
   by_cases p : 0 ≤ a[i]
   ·rw [if_pos (by simpa using p)]
    by_cases q : 0 ≤ b[i]
    ·rw [if_pos (by simpa using q)]
     simp [p, q]
    ·rw [if_neg (by simpa using q)]
     simp [q]
   ·rw [if_neg (by simpa using p)]
    simp [p]
theorem ztP (a : List Int) : gtLex a a = false := by
 induction a with
 | nil => rfl
 | cons x a ih => rw [gtLex, if_pos rfl, ih]
def smT (a : List Int) : Prop := a.length ≤ 4000 ∧ ∀ n ∈ a, -12 ≤ n
theorem zl4 (a b : List Int) (ha : smT a) (hb : smT b) : zcZ M a b = some ((gtT a b, ()), ()) := by
 have la := ha.1
 have lb := hb.1
 apply zsU
 simp only [zku, zAh a b (by omega) (by omega), Option.bind_some, gtT]
 by_cases h1 : a.length < b.length
 ·rw [if_pos (by simpa using h1), decide_eq_false (by omega)]; simp
 ·rw [if_neg (by simpa using h1), decide_eq_true (show b.length ≤ a.length by omega)]
  cases wgh a b with
  | false => rfl
  | true =>
   rw [if_neg (by simp)]
   by_cases h2 : b.length < a.length
   ·rw [if_pos (by simpa using h2), decide_eq_true h2]; rfl
   ·rw [if_neg (by simpa using h2), decide_eq_false h2]
    have := znP a b (by omega) (by omega) a.length 0 (by omega)
    rw [show ((0 : Nat) : Int) = 0 from rfl, List.drop_zero, List.drop_zero] at this
    rw [this]
    by_cases e : a = b
    ·rw [if_pos e, e, ztP]; rfl
    ·rw [if_neg e]; rfl
theorem zl5 (a b : List Int) (ha : smT a) (hb : smT b) : zc5 M a b = some ((gtT a b, ()), ()) := by
 have la := ha.1
 have lb := hb.1
 apply zta
 simp only [zkx, zAg a b (by omega) (by omega) hb.2, Option.bind_some, gtT]
 cases wgh a b with
 | false => rfl
 | true =>
  rw [if_neg (by simp)]
  by_cases h1 : a.length < b.length
  ·rw [if_pos (by simpa using h1), decide_eq_false (by omega)]; simp
  ·rw [if_neg (by simpa using h1), decide_eq_true (show b.length ≤ a.length by omega)]
   by_cases h2 : b.length < a.length
   ·rw [if_pos (by simpa using h2), decide_eq_true h2]; rfl
   ·rw [if_neg (by simpa using h2), decide_eq_false h2]
    have := znL a b (by omega) (by omega) a.length 0 (by omega)
    rw [show ((0 : Nat) : Int) = 0 from rfl, List.drop_zero, List.drop_zero] at this
    rw [this]
    by_cases e : a = b
    ·rw [if_pos e, e, ztP]; rfl
    ·rw [if_neg e]; rfl
theorem zxe (a b : List Int) (hab : a.length = b.length) (ha : a.length ≤ 17592186044416) : ∀ k i : Nat, i + k = a.length → zf7 M a b a.length i = some (if a.drop i = b.drop i then .inl () else .inr ((false, ()), ())) := by
 intro k
 induction k with
 | zero =>
  intro i hi
  obtain rfl : i = a.length := by omega
  apply znk
  simp only [zhz]
  rw [if_neg (by simp), List.drop_length, hab, List.drop_length, if_pos rfl]
 | succ k ih =>
  intro i hi
  have h1 : i < a.length := by omega
  have h2 : i < b.length := by omega
  apply znk
  simp only [zhz]
  rw [if_pos (by simpa using h1), zd h1, zd h2]
  simp only [Option.bind_some]
  rw [List.drop_eq_getElem_cons h1, List.drop_eq_getElem_cons h2]
  by_cases he : a[i] = b[i]
  ·rw [if_neg (by simpa using he), zb (by omega), ih (i + 1) (by omega)]
   by_cases hd : a.drop (i + 1) = b.drop (i + 1)
   ·rw [if_pos hd, if_pos (by rw [he, hd])]
   ·rw [if_neg hd, if_neg (fun h => hd (List.cons.inj h).2)]
  ·rw [if_pos (by simpa using he), if_neg (fun h => he (List.cons.inj h).1)]
theorem ziA (a b : List Int) (ha : a.length ≤ 17592186044416) : za1 M a b = some ((decide (a = b), ()), ()) := by
 apply zvc
 simp only [zm6]
 by_cases hl : a.length = b.length
 ·have := zxe a b hl ha a.length 0 (by omega)
  rw [show ((0 : Nat) : Int) = 0 from rfl, List.drop_zero, List.drop_zero] at this
  rw [if_neg (by simp [hl]), this]
  by_cases h : a = b
  ·rw [if_pos h]; simp [h]
  ·rw [if_neg h]; simp [h]
 ·have : ¬ a = b := fun h => hl (by rw [h])
  rw [if_pos (by simp; omega)]
  simp [this]
theorem ztW (a b : List Int) (ha : smT a) (hb : smT b) : zgk M a b = some ((cmpK a b, ()), ()) ∧ zif M a b = some ((cmpK a b, ()), ()) := by
 have la := ha.1
 refine ⟨zqj _ _ ?_, zs1 _ _ ?_⟩
 ·simp only [ziM, zhV a b (by omega), zl4 a b ha hb, zl4 b a hb ha, Option.bind_some, cmpK, decide_eq_true_eq]
  split
  ·rfl
  ·split
   ·rfl
   ·split <;> rfl
 ·simp only [zky, ziA a b (by omega), zl5 a b ha hb, zl5 b a hb ha, Option.bind_some, cmpK, decide_eq_true_eq]
  split
  ·rfl
  ·split
   ·rfl
   ·split <;> rfl
end Go.Proofs.YtkgpnekonnopgaaGreatIr.Ev
namespace Go.Proofs.YtkgpnekonnopgaaGreatIr.Ev
open Go
set_option autoImplicit false
set_option linter.unusedVariables false
set_option linter.unusedSimpArgs false
def tab (f : Nat → List Int) : List (List Int) := (List.range 12).map f
theorem zdU (f : Nat → List Int) : (tab f).length = 12 := by simp [tab]
theorem ziI (f : Nat → List Int) {k : Nat} (h : k < 12) : (tab f)[k]? = some (f k) := by simp [tab, h]
theorem zcD {f g : Nat → List Int} (h : ∀ k, k < 12 → f k = g k) : tab f = tab g := List.map_congr_left fun k hk => h k (by simpa using hk)
theorem znz (f : Nat → List Int) {k : Nat} (h : k < 12) (y : List Int) : (tab f).set k y = tab fun j => if j = k then y else f j := by
 apply List.ext_getElem?
 intro j
 rw [List.getElem?_set, zdU]
 by_cases e : k = j
 ·subst e
  rw [if_pos rfl, if_pos h, ziI _ h, if_pos rfl]
 ·rw [if_neg e]
  by_cases hj : j < 12
  ·rw [ziI _ hj, ziI _ hj, if_neg (Ne.symm e)]
  ·rw [List.getElem?_eq_none (by rw [zdU]; omega), List.getElem?_eq_none (by rw [zdU]; omega)]
theorem zxN : List.replicate 12 ([] : List Int) = tab fun _ => [] := rfl
abbrev tabS (σ : Int → List Int) : List (List Int) := tab fun k => σ (k : Int)
theorem zcS (σ : Int → List Int) : SubF (tabS σ) σ := ⟨zdU _, fun v h0 h1 => by rw [ziI _ (by omega)]; congr 1; rw [show ((v.toNat : Nat) : Int) = v by omega]⟩
theorem zBa (f : Nat → List Int) {k : Nat} (h : k < 12) : idx (tab f) (k : Int) = some (f k) := by
 rw [zA0, ziI f h]
theorem zuc {f : Nat → List Int} {t : List Int} (h : t ∈ tab f) : ∃ k, k < 12 ∧ t = f k := by
 obtain ⟨k, hk, rfl⟩ := List.mem_map.1 h
 exact ⟨k, by simpa using hk, rfl⟩
theorem zxH {n : Int} (hn : n < 0) (h12 : -12 ≤ n) (t : List Int) : (List.replicate 12 ([] : List Int)).set (-1 - n).toNat t = tabS (oneS n t) := by
 rw [zxN, znz _ (by omega)]
 refine zcD fun k hk => ?_
 unfold oneS
 by_cases e : k = (-1 - n).toNat
 ·rw [if_pos e, if_pos (by omega)]
 ·rw [if_neg e, if_neg (by omega)]
theorem zpv {n : Int} {t : List Int} (ht : t.length ≤ 40) : ∀ v, (oneS n t v).length ≤ 100000 := by
 intro v; unfold oneS; split
 ·omega
 ·simp
def putS (σ : Int → List Int) (n : Int) (t : List Int) (k : Nat) : List Int := if σ (k : Int) ≠ [] then apS (oneS n t) (σ (k : Int)) else []
theorem zxT (σ : Int → List Int) (n : Int) (t : List Int) (hn : n < 0) (h12 : -12 ≤ n) (ht : t.length ≤ 40) (hσ : ∀ k : Nat, k < 12 → smT (σ (k : Int)) ∧ (σ (k : Int)).length ≤ 40) : ∀ (j k : Nat), k + j = 12 → zfx M (tabS σ) (-1 - n) t (tabS (oneS n t)) (tab fun i => if i < k then putS σ n t i else []) 12 k = some (.inl (-1 - n, t, tab (putS σ n t), ())) := by
 intro j
 induction j with
 | zero =>
  intro k hk
  obtain rfl : k = 12 := by omega
  apply zmx
  simp only [zg0]
  rw [if_neg (by simp)]
  have : tab (fun i => if i < 12 then putS σ n t i else []) = tab (putS σ n t) := zcD fun i hi => by rw [if_pos hi]
  rw [this]
 | succ j ih =>
  intro k hk
  have h1 : k < 12 := by omega
  obtain ⟨s1, s2⟩ := hσ k h1
  have hnext : ∀ y, y = putS σ n t k → (tab fun i => if i < k then putS σ n t i else []).set k y = tab fun i => if i < k + 1 then putS σ n t i else [] := by
   intro y hy
   rw [znz _ h1]
   refine zcD fun i hi => ?_
   by_cases e : i = k
   ·rw [if_pos e, if_pos (by omega), hy, e]
   ·rw [if_neg e]
    by_cases q : i < k
    ·rw [if_pos q, if_pos (by omega)]
    ·rw [if_neg q, if_neg (by omega)]
  apply zmx
  simp only [zg0]
  rw [if_pos (by simp; omega), zBa _ h1]
  simp only [Option.bind_some]
  by_cases hs : σ (k : Int) = []
  ·rw [if_neg (by simp [hs])]
   simp only [Option.bind_some, Sum.elim_inl]
   rw [zb (by omega), ← ih (k + 1) (by omega)]
   congr 1
   refine zcD fun i hi => ?_
   by_cases q : i < k
   ·rw [if_pos q, if_pos (by omega)]
   ·rw [if_neg q]
    by_cases e : i = k
    ·rw [if_pos (by omega), e]; unfold putS; rw [if_neg (by simpa using hs)]
    ·rw [if_neg (by omega)]
  ·have hl := List.length_pos_iff.2 hs
   rw [if_pos (by simp; omega), zdL _ _ (zcS (oneS n t)) (zpv ht) _ (by omega) s1.2]
   simp only [Option.bind_some]
   rw [if_pos (by rw [zdU]; omega), Int.toNat_natCast, ziI _ h1]
   simp only [Option.bind_some, Sum.elim_inl]
   rw [zb (by omega), hnext _ (by unfold putS; rw [if_pos hs]), ih (k + 1) (by omega)]
theorem zwH (σ : Int → List Int) {n : Int} (hn : n < 0) (h12 : -12 ≤ n) (t : List Int) : (tab (putS σ n t)).set (-1 - n).toNat t = tabS (bindS σ n t) := by
 rw [znz _ (by omega)]
 refine zcD fun k hk => ?_
 unfold bindS putS
 by_cases e : k = (-1 - n).toNat
 ·rw [if_pos e, if_pos (by omega)]
 ·rw [if_neg e, if_neg (show ¬ ((k : Int) = -1 - n) by omega)]
theorem zzI (σ : Int → List Int) (n : Int) (t : List Int) (hn : n < 0) (h12 : -12 ≤ n) (ht : t.length ≤ 40) (hσ : ∀ k : Nat, k < 12 → smT (σ (k : Int)) ∧ (σ (k : Int)).length ≤ 40) : zgD M (tabS σ) (-1 - n) t = some ((tabS (bindS σ n t), ()), ()) := by
 have hl := zxT σ n t hn h12 ht hσ 12 0 (by omega)
 rw [show ((0 : Nat) : Int) = 0 from rfl] at hl
 have e0 : (tab fun i => if i < 0 then putS σ n t i else []) = List.replicate 12 ([] : List Int) := by rw [zxN]; exact zcD fun i _ => by rw [if_neg (by omega)]
 rw [e0] at hl
 apply zvD
 simp only [zmA]
 rw [if_pos ⟨by decide, by decide, trivial⟩, show (12 : Int).toNat = 12 from rfl]
 rw [if_pos (by simp; omega), List.getElem?_eq_getElem (by simp; omega)]
 simp only [Option.bind_some]
 rw [if_pos ⟨by decide, by decide, trivial⟩, zxH hn h12, show ((List.replicate 12 ([] : List Int)).length : Int) = 12 from by simp, hl]
 simp only [Option.bind_some, Sum.elim_inl, zmi t (by omega)]
 rw [if_pos (by rw [zdU]; omega), ziI _ (by omega)]
 simp only [Option.bind_some, zwH σ hn h12 t]
theorem zyK (s : TSign) (x y : List Int) (σ : Int → List Int) (n : Int) (t : List Int) (hn : n < 0) (h12 : -12 ≤ n) (ht : t.length ≤ 40) (hσ : ∀ k : Nat, k < 12 → smT (σ (k : Int)) ∧ (σ (k : Int)).length ≤ 40) : ∀ (j k : Nat), k + j = 12 → (zG M x y s (tab fun i => if i < k then putS σ n t i else σ (i : Int)) n t (tabS (oneS n t)) 12 k = some (.inl (x, y, s, tab (putS σ n t), n, t, ())) ∧ ∀ i, k ≤ i → i < 12 → (putS σ n t i).length ≤ 40) ∨
  (zG M x y s (tab fun i => if i < k then putS σ n t i else σ (i : Int)) n t (tabS (oneS n t)) 12 k = some (.inr (([], false, ()), ())) ∧ ∃ i, i < 12 ∧ 40 < (putS σ n t i).length) := by
 intro j
 induction j with
 | zero =>
  intro k hk
  obtain rfl : k = 12 := by omega
  refine .inl ⟨zcX _ _ _ _ _ _ _ _ _ ?_, fun i h1 h2 => by omega⟩
  simp only [zbq]
  rw [if_neg (by simp)]
  have : tab (fun i => if i < 12 then putS σ n t i else σ (i : Int)) = tab (putS σ n t) := zcD fun i hi => by rw [if_pos hi]
  rw [this, za]
 | succ j ih =>
  intro k hk
  have h1 : k < 12 := by omega
  obtain ⟨s1, s2⟩ := hσ k h1
  have hcur : (tab fun i => if i < k then putS σ n t i else σ (i : Int))[k]? = some (σ (k : Int)) := by rw [ziI _ h1, if_neg (by omega)]
  have hlen : ((tab fun i => if i < k then putS σ n t i else σ (i : Int)).length : Int) = 12 := by rw [zdU]; rfl
  by_cases hs : σ (k : Int) = []
  ·have hp : putS σ n t k = [] := by unfold putS; rw [if_neg (by simpa using hs)]
   have e : (tab fun i => if i < k then putS σ n t i else σ (i : Int)) = tab fun i => if i < k + 1 then putS σ n t i else σ (i : Int) := by
    refine zcD fun i hi => ?_
    by_cases q : i < k
    ·rw [if_pos q, if_pos (by omega)]
    ·rw [if_neg q]
     by_cases e : i = k
     ·rw [if_pos (by omega), e, hp, hs]
     ·rw [if_neg (by omega)]
   have step : ∀ r, zG M x y s (tab fun i => if i < k + 1 then putS σ n t i else σ (i : Int)) n t (tabS (oneS n t)) 12 ((k + 1 : Nat) : Int) = some r → zG M x y s (tab fun i => if i < k then putS σ n t i else σ (i : Int)) n t (tabS (oneS n t)) 12 k = some r := by
    intro r hr
    apply zcX
    simp only [zbq]
    rw [if_pos (by simp; omega), if_pos (by rw [hlen]; omega), Int.toNat_natCast, hcur]
    simp only [Option.bind_some]
    rw [if_neg (by simp [hs])]
    simp only [Option.bind_some, Sum.elim_inl, za]
    rw [zb (by omega), e]
    exact hr
   rcases ih (k + 1) (by omega) with ⟨q1, q2⟩ | ⟨q1, q2⟩
   ·refine .inl ⟨step _ q1, fun i hi hi' => ?_⟩
    by_cases e : i = k
    ·rw [e, hp]; simp
    ·exact q2 i (by omega) hi'
   ·exact .inr ⟨step _ q1, q2⟩
  ·have hl := List.length_pos_iff.2 hs
   have hp : putS σ n t k = apS (oneS n t) (σ (k : Int)) := by unfold putS; rw [if_pos hs]
   have happ := zlJ _ _ (zcS (oneS n t)) (zpv ht) (σ (k : Int)) (by omega) s1.2
   rw [← hp] at happ
   by_cases h40 : (putS σ n t k).length ≤ 40
   ·rw [if_pos h40] at happ
    have e : (tab fun i => if i < k then putS σ n t i else σ (i : Int)).set k (putS σ n t k) = tab fun i => if i < k + 1 then putS σ n t i else σ (i : Int) := by
     rw [znz _ h1]
     refine zcD fun i hi => ?_
     by_cases e : i = k
     ·rw [if_pos e, if_pos (by omega), e]
     ·rw [if_neg e]
      by_cases q : i < k
      ·rw [if_pos q, if_pos (by omega)]
      ·rw [if_neg q, if_neg (by omega)]
    have step : ∀ r, zG M x y s (tab fun i => if i < k + 1 then putS σ n t i else σ (i : Int)) n t (tabS (oneS n t)) 12 ((k + 1 : Nat) : Int) = some r → zG M x y s (tab fun i => if i < k then putS σ n t i else σ (i : Int)) n t (tabS (oneS n t)) 12 k = some r := by
     intro r hr
     apply zcX
     simp only [zbq]
     rw [if_pos (by simp; omega), if_pos (by rw [hlen]; omega), Int.toNat_natCast, hcur]
     simp only [Option.bind_some]
     rw [if_pos (by simp; omega), happ]
     simp only [Option.bind_some]
     rw [if_pos (by rw [hlen]; omega)]
     try simp only [Option.bind_some]
     rw [if_neg (by simp)]
     simp only [Option.bind_some, Sum.elim_inl, za]
     rw [zb (by omega), e]
     exact hr
    rcases ih (k + 1) (by omega) with ⟨q1, q2⟩ | ⟨q1, q2⟩
    ·refine .inl ⟨step _ q1, fun i hi hi' => ?_⟩
     by_cases e : i = k
     ·rw [e]; exact h40
     ·exact q2 i (by omega) hi'
    ·exact .inr ⟨step _ q1, q2⟩
   ·rw [if_neg h40] at happ
    refine .inr ⟨zcX _ _ _ _ _ _ _ _ _ ?_, k, h1, by omega⟩
    simp only [zbq]
    rw [if_pos (by simp; omega), if_pos (by rw [hlen]; omega), Int.toNat_natCast, hcur]
    simp only [Option.bind_some]
    rw [if_pos (by simp; omega), happ]
    simp only [Option.bind_some]
    rw [if_pos (by rw [hlen]; omega)]
    try simp only [Option.bind_some]
    rw [if_pos (by simp)]
    rfl
theorem zwX (s : TSign) (hg : gS s.1 = true) (x y : List Int) (l : List (List Int)) (hl : l.length ≤ 100) (hx : ∀ t ∈ l, t.length ≤ 1048576) : ∀ k i : Nat, i + k = l.length → zdV M x y s l l.length i = some (if (l.drop i).all (fun t => t.isEmpty || isT s.1 t) = true then .inl (x, y, s, ()) else .inr ((false, ()), ())) := by
 intro k
 induction k with
 | zero =>
  intro i hi
  obtain rfl : i = l.length := by omega
  apply zmk
  simp only [zha]
  rw [if_neg (by simp)]
  simp
 | succ k ih =>
  intro i hi
  have h1 : i < l.length := by omega
  have h2 := hx _ (List.getElem_mem h1)
  apply zmk
  simp only [zha]
  rw [if_pos (by simpa using h1), zd h1, zb (by omega)]
  simp only [Option.bind_some, za, ih (i + 1) (by omega)]
  rw [List.drop_eq_getElem_cons h1, List.all_cons]
  by_cases he : l[i] = []
  ·rw [if_neg (by simp [he])]
   simp [he]
  ·have hp := List.length_pos_iff.2 he
   rw [if_pos (by simp; omega), znV s hg _ h2]
   simp only [Option.bind_some]
   have : l[i].isEmpty = false := by cases h : l[i] with
    | nil => exact absurd h he
    | cons _ _ => rfl
   rw [this, Bool.false_or]
   cases isT s.1 l[i] with
   | false => rfl
   | true => simp
theorem zuP (s : TSign) (hg : gS s.1 = true) (l : List (List Int)) (hl : l.length ≤ 100) (hx : ∀ t ∈ l, t.length ≤ 1048576) (x y : List Int) (lx : x.length ≤ 1048576) (ly : y.length ≤ 1048576) : zhX M s l x y = some ((l.all (fun t => t.isEmpty || isT s.1 t) && (isT s.1 x && isT s.1 y), ()), ()) := by
 apply zuy
 have := zwX s hg x y l hl hx l.length 0 (by omega)
 rw [show ((0 : Nat) : Int) = 0 from rfl, List.drop_zero] at this
 simp only [zly, za, this, Option.bind_some]
 cases l.all fun t => t.isEmpty || isT s.1 t with
 | false => rfl
 | true =>
  simp only [if_true, Sum.elim_inl, za, znV s hg x lx, znV s hg y ly, Option.bind_some]
  cases isT s.1 x <;> rfl
theorem zAG (a b : List Int) (s : TSign) (f : List (List Int)) (x y : List Int) (hx : x.length ≤ 1048576) : ∀ k i : Nat, i + k = lcp x y → zd9 M a b s f x y i = some (.inl (a, b, s, f, x, y, (lcp x y : Int), ())) := by
 intro k
 have hle := ztI x y
 induction k with
 | zero =>
  intro i hi
  obtain rfl : i = lcp x y := by omega
  apply zkR
  simp only [zfN, za]
  by_cases h1 : lcp x y < x.length
  ·rw [if_pos (by simpa using h1)]
   by_cases h2 : lcp x y < y.length
   ·rw [if_pos (by simpa using h2), if_pos (by omega), Int.toNat_natCast, List.getElem?_eq_getElem h1]
    simp only [Option.bind_some]
    rw [if_pos (by omega), List.getElem?_eq_getElem h2]
    simp only [Option.bind_some]
    rw [if_neg (by simpa using ztx x y h1 h2)]
   ·rw [if_neg (by simpa using h2)]
  ·rw [if_neg (by simpa using h1)]
 | succ k ih =>
  intro i hi
  have h1 : i < x.length := by omega
  have h2 : i < y.length := by omega
  have he := ztU x y i (by omega)
  rw [List.getElem?_eq_getElem h1, List.getElem?_eq_getElem h2] at he
  apply zkR
  simp only [zfN, za]
  rw [if_pos (by simpa using h1), if_pos (by simpa using h2), if_pos (by omega), Int.toNat_natCast, List.getElem?_eq_getElem h1]
  simp only [Option.bind_some]
  rw [if_pos (by omega), List.getElem?_eq_getElem h2]
  simp only [Option.bind_some]
  rw [if_pos (by simpa using Option.some.inj he), zb (by omega)]
  exact ih (i + 1) (by omega)
theorem zAD (s : TSign) (f : List (List Int)) (x y : List Int) (hx : x.length ≤ 1048576) : ∀ k i : Nat, i + k = lcp x y → zdb M x y s f i = some (.inl (x, y, s, f, (lcp x y : Int), ())) := by
 intro k
 have hle := ztI x y
 induction k with
 | zero =>
  intro i hi
  obtain rfl : i = lcp x y := by omega
  apply zj5
  simp only [zeG, za]
  by_cases h1 : lcp x y < x.length
  ·rw [if_pos (by simpa using h1)]
   by_cases h2 : lcp x y < y.length
   ·rw [if_pos (by simpa using h2), zd h1, zd h2]
    simp only [Option.bind_some]
    rw [if_neg (by simpa using ztx x y h1 h2)]
   ·rw [if_neg (by simpa using h2)]
  ·rw [if_neg (by simpa using h1)]
 | succ k ih =>
  intro i hi
  have h1 : i < x.length := by omega
  have h2 : i < y.length := by omega
  have he := ztU x y i (by omega)
  rw [List.getElem?_eq_getElem h1, List.getElem?_eq_getElem h2] at he
  apply zj5
  simp only [zeG, za]
  rw [if_pos (by simpa using h1), if_pos (by simpa using h2), zd h1, zd h2]
  simp only [Option.bind_some]
  rw [if_pos (by simpa using Option.some.inj he), zb (by omega)]
  exact ih (i + 1) (by omega)
end Go.Proofs.YtkgpnekonnopgaaGreatIr.Ev
