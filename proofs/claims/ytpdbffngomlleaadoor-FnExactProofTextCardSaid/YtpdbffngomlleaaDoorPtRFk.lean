/- Texts laid together: PAa, PBa, PB, PAb, PCa, PC, PEb, PEf, PEg, RFb, RFp, PA, PDe, PD, RFe, RFf, RFj, RFh, RFk; no condition but those that each theorem names. -/
import Derived.Test.YtpdbffngomlleaaDoorPtEq
import Derived.Lib.ItoaNum
namespace Go.Proofs.YtpdbffngomlleaaDoorPt.Ev
open Go
set_option autoImplicit false
set_option linter.unusedVariables false
set_option linter.unusedSimpArgs false
theorem w64 {x : Int} (h : -9223372036854775808 ≤ x) (k : x < 9223372036854775808) : IntKind.i64.wrap x = x := by
 rw [IntKind.wrap_i64]
 omega
theorem w8 {x : Int} (h : 0 ≤ x) (k : x < 256) : IntKind.u8.wrap x = x := by
 simp only [IntKind.wrap, IntKind.bits, IntKind.signed, Bool.false_and, Bool.false_eq_true, if_false]
 omega
theorem zlz {α : Type} (xs : List α) (i : Nat) : idx xs (i : Int) = xs[i]? := by simp [idx]
theorem zhP {α : Type} (xs : List α) : idx xs 0 = xs[0]? := by simp [idx]
theorem zD {α : Type} {xs : List α} {i : Nat} (h : i < xs.length) : idx xs (i : Int) = some xs[i] := by simp [idx, h]
theorem zE {i : Nat} (h : i < 4611686018427387904) : IntKind.i64.wrap ((i : Int) + 1) = ((i + 1 : Nat) : Int) := by
 rw [w64 (by omega) (by omega)]; rfl
abbrev TSign := List Int × Unit
abbrev TLit := Bool × List Int × List Int × Unit
def smL (x : TLit) : Prop := x.2.1.length ≤ 1048576 ∧ x.2.2.1.length ≤ 1048576
end Go.Proofs.YtpdbffngomlleaaDoorPt.Ev
namespace Go.Proofs.YtpdbffngomlleaaDoorPt.Ev
open Go
set_option autoImplicit false
set_option linter.unusedVariables false
set_option linter.unusedSimpArgs false
theorem zfm (x lo hi : Int) : za8 M x lo hi = some ((decide (lo ≤ x) && decide (x ≤ hi), ()), ()) := by
 apply ziA
 simp only [zeD, decide_eq_true_eq]
 by_cases h : x ≥ lo
 ·rw [if_pos h]; simp [h]
 ·rw [if_neg h]; simp; omega
theorem zic (a : List Int) (lo up : Int) (ha : a.length ≤ 17592186044416) : ∀ k i : Nat, i + k = a.length → zbv M lo up a a.length i = some (if (a.drop i).all (fun x => decide (lo ≤ x) && decide (x ≤ up)) = true then .inl () else .inr ((false, ()), ())) := by
 intro k
 induction k with
 | zero =>
  intro i hi
  obtain rfl : i = a.length := by omega
  apply zeq
  simp [zb1]
 | succ k ih =>
  intro i hi
  apply zeq
  have h1 : i < a.length := by omega
  simp only [zb1]
  rw [if_pos (by simpa using h1), zD h1, zE (by omega)]
  simp only [Option.bind_some, zfm, ih (i + 1) (by omega)]
  rw [List.drop_eq_getElem_cons h1, List.all_cons]
  generalize (decide (lo ≤ a[i]) && decide (a[i] ≤ up)) = b
  cases b <;> rfl
theorem zgy (a : List Int) (lo hi : Int) (ha : a.length ≤ 17592186044416) : zbQ M a lo hi = some ((a.all (fun x => decide (lo ≤ x) && decide (x ≤ hi)), ()), ()) := by
 apply zhM
 simp only [zee]
 have := zic a lo hi ha a.length 0 (by omega)
 rw [show ((0 : Nat) : Int) = 0 from rfl] at this
 rw [this, List.drop_zero]
 cases a.all (fun x => decide (lo ≤ x) && decide (x ≤ hi)) <;> simp
def gS (a : List Int) : Bool := decide (1 ≤ a.length) && (decide (a.length ≤ 10) && (a.all (fun x => decide (0 ≤ x) && decide (x ≤ 3)) && decide (a[0]? = some 0)))
theorem zey (s : TSign) (ha : s.1.length ≤ 17592186044416) : zbA M s = some ((gS s.1, ()), ()) := by
 apply zgp
 simp only [zcW, zfm, zgy s.1 0 3 ha, Option.bind_some, gS]
 rcases hs : s.1 with _ | ⟨x, r⟩
 ·simp
 ·rw [zhP]
  simp only [List.length_cons, List.getElem?_cons_zero, Option.bind_some]
  by_cases h : r.length + 1 ≤ 10
  ·rw [if_pos (by simp; omega)]
   cases (x :: r).all (fun x => decide (0 ≤ x) && decide (x ≤ 3)) <;> simp [h]
   rw [Bool.eq_iff_iff]; simp
  ·rw [if_neg (by simp; omega)]
   simp [h]
theorem zkE (x : Int) : zbN M x = some ((!(decide (0 ≤ x) && decide (x ≤ 3)), ()), ()) := by
 apply zfR
 simp only [zcy, decide_eq_true_eq]
 by_cases h : x < 0
 ·rw [if_pos h]; simp; omega
 ·rw [if_neg h]
  have h0 : 0 ≤ x := by omega
  rw [decide_eq_true h0, Bool.true_and]
  by_cases h3 : x ≤ 3
  ·rw [decide_eq_true h3, decide_eq_false (by omega)]; rfl
  ·rw [decide_eq_false h3, decide_eq_true (by omega)]; rfl
theorem zhO (a : List Int) (ha : a.length ≤ 17592186044416) : ∀ k i : Nat, i + k = a.length → ∃ r, zp M a () a.length i = some r ∧ (match r with | .inl _ => (a.drop i).all (fun x => decide (0 ≤ x) && decide (x ≤ 3)) = true | .inr r => 0 ≤ r.1.1 ∧ (a.drop i).all (fun x => decide (0 ≤ x) && decide (x ≤ 3)) = false) := by
 intro k
 induction k with
 | zero =>
  intro i hi
  obtain rfl : i = a.length := by omega
  refine ⟨.inl (), zK _ _ _ _ (by simp [zn]), by simp⟩
 | succ k ih =>
  intro i hi
  have h1 : i < a.length := by omega
  obtain ⟨r, hr, hm⟩ := ih (i + 1) (by omega)
  rw [List.drop_eq_getElem_cons h1, List.all_cons]
  by_cases hp : (decide (0 ≤ a[i]) && decide (a[i] ≤ 3)) = true
  ·refine ⟨r, zK _ _ _ _ ?_, by rw [hp, Bool.true_and]; exact hm⟩
   simp only [zn]
   rw [if_pos (by simpa using h1), zD h1, zE (by omega)]
   simp only [Option.bind_some, zkE, hp, Bool.not_true, Bool.false_eq_true, if_false]
   exact hr
  ·rw [Bool.not_eq_true] at hp
   refine ⟨.inr (((i : Int), ()), ()), zK _ _ _ _ ?_, Int.natCast_nonneg i, by rw [hp, Bool.false_and]⟩
   simp only [zn]
   rw [if_pos (by simpa using h1), zD h1]
   simp only [Option.bind_some, zkE, hp, Bool.not_false, if_true]
theorem zhS (a : List Int) (ha : a.length ≤ 17592186044416) : zA M a () = some ((!(a.all (fun x => decide (0 ≤ x) && decide (x ≤ 3))), ()), ()) := by
 apply zbo
 simp only [zL]
 obtain ⟨r, hr, hm⟩ := zhO a ha a.length 0 (by omega)
 rw [show ((0 : Nat) : Int) = 0 from rfl] at hr
 rw [List.drop_zero] at hm
 cases r with
 | inl r =>
  rw [zae a () (r := ((-1, ()), ())) (by simp only [zG, hr, Option.bind_some, Sum.elim_inl])]
  simp only at hm
  simp [hm]
 | inr r =>
  rw [zae a () (r := r) (by simp only [zG, hr, Option.bind_some, Sum.elim_inr])]
  simp only at hm
  simp [hm]
theorem zgt (s : TSign) (ha : s.1.length ≤ 17592186044416) : zcc M s = some ((gS s.1, ()), ()) := by
 apply zgh
 simp only [zcZ, zhS s.1 ha, Option.bind_some, gS, decide_eq_true_eq]
 rcases hs : s.1 with _ | ⟨x, r⟩
 ·simp
 ·rw [zhP]
  simp only [List.length_cons, List.getElem?_cons_zero, Option.bind_some]
  rw [if_neg (by omega)]
  by_cases h : r.length + 1 ≤ 10
  ·rw [if_neg (by omega)]
   by_cases hx : x = 0
   ·subst hx; simp [h]
   ·rw [if_pos (by simpa using hx)]; simp [hx]
  ·rw [if_pos (by omega)]
   simp [h]
theorem zl (x : TSign) : (x.1, ()) = x := rfl
theorem zb9 (x : TLit) : (x.1, x.2.1, x.2.2.1, ()) = x := rfl
theorem zlt (x : TSign) : (x.1, ()) = x := rfl
end Go.Proofs.YtpdbffngomlleaaDoorPt.Ev
namespace Go.Proofs.YtpdbffngomlleaaDoorPt.Ev
open Go
set_option autoImplicit false
set_option linter.unusedVariables false
set_option linter.unusedSimpArgs false
def ar (a : List Int) (n : Int) : Int := if n < 0 then 0 else (a[n.toNat]?).getD 0
def badN (a : List Int) (n : Int) : Prop := n < -12 ∨ (a.length : Int) ≤ n
instance (a : List Int) (n : Int) : Decidable (badN a n) := inferInstanceAs (Decidable (_ ∨ _))
def sE (a : List Int) : Int → List Int → Option (List Int)
 | k, [] => if k ≤ 0 then some [] else none
 | k, n :: t => if k ≤ 0 then some (n :: t) else if badN a n then none else sE a (k - 1 + ar a n) t
theorem zfF {a : List Int} (hg : gS a = true) (n : Int) : 0 ≤ ar a n ∧ ar a n ≤ 3 := by
 unfold ar
 split
 ·omega
 ·cases h : a[n.toNat]? with
  | none => simp
  | some x =>
   simp only [gS, Bool.and_eq_true, List.all_eq_true, decide_eq_true_eq] at hg
   have := hg.2.2.1 x (List.mem_of_getElem? h)
   simpa using this
theorem zgj {a : List Int} {n : Int} (h : ¬ badN a n) (h0 : ¬ n < 0) : idx a n = some (ar a n) := by
 unfold badN at h
 have h1 : n.toNat < a.length := by omega
 unfold ar idx
 rw [if_pos (by omega), if_neg h0, List.getElem?_eq_getElem h1]
 rfl
theorem zgC (a : List Int) (t : List Int) : sE a 0 t = some t := by cases t <;> simp [sE]
theorem zle {a : List Int} (hg : gS a = true) : ∀ (u : List Int) (j k : Int) (x : List Int), 0 ≤ j → 0 ≤ k → sE a j u = some [] → sE a (j + k) (u ++ x) = sE a k x := by
 intro u
 induction u with
 | nil =>
  intro j k x hj hk h
  simp only [sE] at h
  split at h
  ·obtain rfl : j = 0 := by omega
   simp
  ·cases h
 | cons n u ih =>
  intro j k x hj hk h
  simp only [sE] at h
  split at h
  ·cases h
  ·rename_i hj'
   split at h
   ·cases h
   ·rename_i hb
    have hn := zfF hg n
    rw [List.cons_append]
    conv => lhs; unfold sE
    rw [if_neg (by omega), if_neg hb]
    have := ih (j - 1 + ar a n) k x (by omega) hk h
    rw [← this]
    congr 1; omega
theorem zkf {a : List Int} (hg : gS a = true) : ∀ (t : List Int) (j k : Int) (r : List Int), 0 ≤ j → 0 ≤ k → sE a (j + k) t = some r → ∃ u x, t = u ++ x ∧ sE a j u = some [] ∧ sE a k x = some r := by
 intro t
 induction t with
 | nil =>
  intro j k r hj hk h
  simp only [sE] at h
  split at h
  ·obtain rfl : j = 0 := by omega
   obtain rfl : k = 0 := by omega
   exact ⟨[], [], rfl, by simp [sE], by simpa [sE] using h⟩
  ·cases h
 | cons n t ih =>
  intro j k r hj hk h
  by_cases h0 : j = 0
  ·subst h0
   exact ⟨[], n :: t, rfl, by simp [sE], by simpa using h⟩
  ·simp only [sE] at h
   split at h
   ·omega
   ·split at h
    ·cases h
    ·rename_i hb
     have hn := zfF hg n
     obtain ⟨u, x, rfl, h1, h2⟩ := ih (j - 1 + ar a n) k r (by omega) hk (by rw [← h]; congr 1; omega)
     refine ⟨n :: u, x, rfl, ?_, h2⟩
     unfold sE
     rw [if_neg (by omega), if_neg hb]
     exact h1
abbrev Tm (a : List Int) (u : List Int) : Prop := sE a 1 u = some []
theorem zkY {a : List Int} (hg : gS a = true) : ∀ (k : Nat) (t r : List Int), sE a k t = some r → ∃ us : List (List Int), us.length = k ∧ t = us.flatten ++ r ∧ ∀ u ∈ us, Tm a u := by
 intro k
 induction k with
 | zero =>
  intro t r h
  rw [show ((0 : Nat) : Int) = 0 from rfl, zgC] at h
  obtain rfl := Option.some.inj h
  exact ⟨[], rfl, rfl, by simp⟩
 | succ k ih =>
  intro t r h
  obtain ⟨u, x, rfl, h1, h2⟩ := zkf hg t 1 k r (by omega) (by omega) (by rw [← h]; congr 1; omega)
  obtain ⟨us, hl, rfl, hu⟩ := ih x r h2
  exact ⟨u :: us, by simp [hl], by simp, by simpa using ⟨h1, hu⟩⟩
theorem Tm.parts {a : List Int} (hg : gS a = true) {u : List Int} (h : Tm a u) : ∃ (n : Int) (us : List (List Int)), u = n :: us.flatten ∧ ¬ badN a n ∧ (us.length : Int) = ar a n ∧ ∀ v ∈ us, Tm a v := by
 cases u with
 | nil => simp [Tm, sE] at h
 | cons n t =>
  simp only [Tm, sE] at h
  rw [if_neg (by omega)] at h
  split at h
  ·cases h
  ·rename_i hb
   have hn := zfF hg n
   obtain ⟨us, hl, ht, hu⟩ := zkY hg (ar a n).toNat t [] (by rw [← h]; congr 1; omega)
   exact ⟨n, us, by rw [ht]; simp, hb, by omega, hu⟩
theorem Tm.rest {a : List Int} (hg : gS a = true) {u : List Int} (h : Tm a u) (x : List Int) : sE a 1 (u ++ x) = some x := by
 have := zle hg u 1 0 x (by omega) (by omega) h
 rw [zgC] at this
 simpa using this
theorem Tm.pos {a u : List Int} (h : Tm a u) : 0 < u.length := by
 cases u with
 | nil => simp [Tm, sE] at h
 | cons n t => simp
theorem zhL (s : TSign) (hg : gS s.1 = true) (t : List Int) (ht : t.length ≤ 1048576) : ∀ (k i : Nat) (need : Int), i + k = t.length → 0 ≤ need → need + 3 * k ≤ 4000000 →
  zbz M t i s need = some (match sE s.1 need (t.drop i) with | none => .inr (((-1 : Int), ()), ()) | some r => .inl ((t.length : Int) - r.length, ())) := by
 have hs : s.1.length ≤ 10 := by simp only [gS, Bool.and_eq_true, decide_eq_true_eq] at hg; exact hg.2.1
 intro k
 induction k with
 | zero =>
  intro i need hi h0 hn
  obtain rfl : i = t.length := by omega
  apply zeh
  simp only [zb2, List.drop_length, sE, decide_eq_true_eq]
  by_cases h : need > 0
  ·rw [if_pos h, if_pos (by omega), if_neg (by omega)]
  ·rw [if_neg h, if_pos (by omega)]; simp
 | succ k ih =>
  intro i need hi h0 hn
  apply zeh
  have h1 : i < t.length := by omega
  rw [List.drop_eq_getElem_cons h1]
  simp only [zb2, sE, decide_eq_true_eq]
  by_cases h : need > 0
  ·rw [if_pos h, if_neg (by omega), if_neg (by omega), zD h1]
   simp only [Option.bind_some, zfm]
   rw [w64 (x := (s.1.length : Int) - 1) (by omega) (by omega)]
   by_cases hb : badN s.1 t[i]
   ·rw [if_pos hb, if_pos (by unfold badN at hb; simp; omega)]
   ·rw [if_neg hb, if_neg (by unfold badN at hb; simp; omega)]
    have ha := zfF hg t[i]
    have hw : IntKind.i64.wrap (need - 1) = need - 1 := w64 (by omega) (by omega)
    by_cases hx : t[i] ≥ 0
    ·rw [if_pos hx, zgj hb (by omega), hw]
     simp only [Option.bind_some, Sum.elim_inl]
     rw [w64 (x := need - 1 + _) (by omega) (by omega), zE (by omega)]
     exact ih (i + 1) _ (by omega) (by omega) (by omega)
    ·have : ar s.1 t[i] = 0 := by unfold ar; rw [if_pos (by omega)]
     rw [if_neg hx, hw, this]
     simp only [Option.bind_some, Sum.elim_inl]
     rw [zE (by omega), Int.add_zero]
     exact ih (i + 1) _ (by omega) (by omega) (by omega)
  ·rw [if_neg h, if_pos (by omega)]
   simp only [List.length_cons, List.length_drop]
   congr 3
   omega
theorem ziI (s : TSign) (hg : gS s.1 = true) (t : List Int) (i : Nat) (hi : i ≤ t.length) (ht : t.length ≤ 1048576) :
  zcp M s t i = some ((match sE s.1 1 (t.drop i) with | none => (-1 : Int) | some r => (t.length : Int) - r.length, ()), ()) := by
 apply zhB
 simp only [zep]
 rw [zhL s hg t ht (t.length - i) i 1 (by omega) (by omega) (by omega)]
 cases sE s.1 1 (t.drop i) <;> rfl
theorem zll {a : List Int} : ∀ (t : List Int) (k : Int) (r : List Int), sE a k t = some r → r.length ≤ t.length := by
 intro t
 induction t with
 | nil => intro k r h; simp only [sE] at h; split at h <;> simp_all
 | cons n t ih =>
  intro k r h
  simp only [sE] at h
  split at h
  ·obtain rfl := Option.some.inj h; simp
  ·split at h
   ·cases h
   ·have := ih _ _ h; simp; omega
def isT (a t : List Int) : Bool := decide (t.length ≤ 40) && decide (Tm a t)
theorem zhD (s : TSign) (hg : gS s.1 = true) (t : List Int) (ht : t.length ≤ 1048576) : zb6 M s t = some ((isT s.1 t, ()), ()) := by
 apply zhx
 have := ziI s hg t 0 (by omega) ht
 rw [show ((0 : Nat) : Int) = 0 from rfl, List.drop_zero] at this
 simp only [zdP, zfm, Option.bind_some, this, isT]
 by_cases h0 : t = []
 ·subst h0; simp [Tm, sE]
 ·have : 0 < t.length := List.length_pos_iff.2 h0
  by_cases h : t.length ≤ 40
  ·rw [if_pos (by simp; omega)]
   simp only [Option.some.injEq, Prod.mk.injEq, and_true]
   rw [Bool.eq_iff_iff]
   simp only [Bool.and_eq_true, decide_eq_true_eq, Tm, beq_iff_eq]
   cases hE : sE s.1 1 t with
   | none => simp
   | some r =>
    have := zll _ _ _ hE
    simp only [Option.some.injEq]
    constructor
    ·intro h'; exact ⟨h, List.eq_nil_of_length_eq_zero (by omega)⟩
    ·rintro ⟨-, rfl⟩; simp
  ·rw [if_neg (by simp; omega)]
   simp [h]
theorem zh5 (s : TSign) (n : Int) (h : ¬ badN s.1 n) : zaf M s n = some ((ar s.1 n, ()), ()) := by
 apply zf5
 simp only [zcQ, decide_eq_true_eq]
 by_cases hn : n < 0
 ·rw [if_pos hn]; simp [ar, hn]
 ·rw [if_neg hn, zgj h hn]; rfl
theorem zhm (s : TSign) (hg : gS s.1 = true) (t : List Int) (ht : t.length ≤ 40) : ∀ (k i : Nat) (left : Int), i + k = t.length → 0 ≤ left → left + 3 * k ≤ 4000000 →
  ∃ r, zN M s left t t.length i = some r ∧ Sum.elim (fun y => y.1 == 0) (fun r => r.1.1) r = decide (sE s.1 left (t.drop i) = some []) := by
 intro k
 induction k with
 | zero =>
  intro i left hi h0 hn
  obtain rfl : i = t.length := by omega
  refine ⟨.inl (left, ()), zcw _ _ _ _ _ ?_, ?_⟩
  ·simp [zau]
  ·rw [List.drop_length]
   simp only [Sum.elim_inl, sE]
   rw [Bool.eq_iff_iff]; simp; omega
 | succ k ih =>
  intro i left hi h0 hn
  have h1 : i < t.length := by omega
  rw [List.drop_eq_getElem_cons h1]
  have pre : ∀ r, (if (left == 0) = true then some (.inr ((false, ()), ())) else if decide (t[i] < -12) = true then some (.inr ((false, ()), ())) else if decide (t[i] ≥ (s.1.length : Int)) = true then some (.inr ((false, ()), ())) else (zaf M (s.1, ()) t[i]).bind fun r2 => zN M (s.1, ()) (IntKind.i64.wrap (left + IntKind.i64.wrap (r2.1.1 - 1))) t t.length (IntKind.i64.wrap ((i : Int) + 1))) = some r → zN M s left t t.length i = some r := by
   intro r hr
   apply zcw
   simp only [zau]
   rw [if_pos (by simpa using h1), zD h1]
   exact hr
  by_cases hl : left = 0
  ·subst hl
   refine ⟨.inr ((false, ()), ()), pre _ rfl, (decide_eq_false (by rw [zgC]; exact fun h => by cases h)).symm⟩
  ·by_cases hb : badN s.1 t[i]
   ·refine ⟨.inr ((false, ()), ()), pre _ ?_, by simp [sE, hb]; omega⟩
    rw [if_neg (by simpa using hl)]
    unfold badN at hb
    by_cases h2 : t[i] < -12
    ·rw [if_pos (by simpa using h2)]
    ·rw [if_neg (by simpa using h2), if_pos (by simp; omega)]
   ·have ha := zfF hg t[i]
    obtain ⟨r, hr, hm⟩ := ih (i + 1) (left - 1 + ar s.1 t[i]) (by omega) (by omega) (by omega)
    refine ⟨r, pre _ ?_, ?_⟩
    ·have hb' := hb
     unfold badN at hb'
     rw [if_neg (by simpa using hl), if_neg (by simp; omega), if_neg (by simp; omega), zh5 (s.1, ()) _ hb]
     simp only [Option.bind_some]
     rw [w64 (x := ar s.1 t[i] - 1) (by omega) (by omega), w64 (by omega) (by omega), zE (by omega), show left + (ar s.1 t[i] - 1) = left - 1 + ar s.1 t[i] by omega]
     exact hr
    ·rw [hm]
     conv => rhs; unfold sE
     rw [if_neg (by omega), if_neg hb]
theorem zib (s : TSign) (hg : gS s.1 = true) (t : List Int) : zaL M s t = some ((isT s.1 t, ()), ()) := by
 apply zfl
 simp only [zcf, decide_eq_true_eq, isT]
 by_cases h : t.length ≤ 40
 ·obtain ⟨r, hr, hm⟩ := zhm s hg t h t.length 0 1 (by omega) (by omega) (by omega)
  rw [show ((0 : Nat) : Int) = 0 from rfl] at hr
  rw [List.drop_zero] at hm
  rw [if_neg (by omega), show ((s.1, ()) : TSign) = s from rfl, hr]
  cases r with
  | inl r => simp only [Sum.elim_inl, Option.bind_some] at hm ⊢; rw [hm]; simp [h, Tm]
  | inr r => obtain ⟨⟨b, _⟩, _⟩ := r; simp only [Sum.elim_inr, Option.bind_some] at hm ⊢; rw [hm]; simp [h, Tm]
 ·rw [if_pos (by omega)]; simp [h]
end Go.Proofs.YtpdbffngomlleaaDoorPt.Ev
namespace Go.Proofs.YtpdbffngomlleaaDoorPt.Ev
open Go
set_option autoImplicit false
set_option linter.unusedVariables false
set_option linter.unusedSimpArgs false
theorem wu64 {x : Int} (h : 0 ≤ x) (k : x < 18446744073709551616) : IntKind.u64.wrap x = x := by
 simp only [IntKind.wrap, IntKind.bits, IntKind.signed, Bool.false_and, Bool.false_eq_true, if_false]
 omega
theorem zlg (x y : List Int) : bytesStr (x ++ y) = bytesStr x ++ bytesStr y := by simp [bytesStr]
theorem zc3 (x : List Int) : (bytesStr x).length = x.length := by simp [bytesStr]
theorem zfj (n : Nat) : bytesStr [(n : Int)] = [UInt8.ofNat n] := by simp [bytesStr]
theorem zlq (x : List UInt8) : bytesStr (strBytes x) = x := by
 induction x with
 | nil => rfl
 | cons b r ih => simp only [strBytes, bytesStr, List.map_cons] at ih ⊢; rw [ih]; simp
theorem zlk (x y : List UInt8) : strBytes (x ++ y) = strBytes x ++ strBytes y := by simp [strBytes]
theorem zln (x : List UInt8) : (strBytes x).length = x.length := by simp [strBytes]
theorem zlo {n : Nat} (h : n < 256) : strBytes [UInt8.ofNat n] = [(n : Int)] := by
 simp [strBytes]; omega
end Go.Proofs.YtpdbffngomlleaaDoorPt.Ev
namespace Go.Proofs.YtpdbffngomlleaaDoorPt.Ev
open Go
set_option autoImplicit false
set_option linter.unusedVariables false
set_option linter.unusedSimpArgs false
def posOf : Nat → List (List Int) → List Int
 | _, [] => []
 | p, u :: us => (p : Int) :: posOf (p + u.length) us
theorem zfu : ∀ (us : List (List Int)) (p : Nat), (posOf p us).length = us.length
 | [], _ => rfl
 | _ :: us, p => by simp [posOf, zfu us]
theorem ze0 {T u x : List Int} {i : Nat} (h : T.drop i = u ++ x) : T.drop (i + u.length) = x := by
 rw [← List.drop_drop, h, List.drop_left]
theorem zdg {T u : List Int} {i : Nat} (h : T.drop i = u) : u.length = T.length - i := by rw [← h, List.length_drop]
theorem zhn {a : List Int} (hg : gS a = true) (T : List Int) (hT : T.length ≤ 1000) : ∀ (us : List (List Int)) (p : Nat) (x out : List Int), (∀ u ∈ us, Tm a u) → us.length ≤ 1000 → T.drop p = us.flatten ++ x → out.length + us.length ≤ 1000 →
  zaY M T (a, ()) out p us.length = some (.inl (out ++ posOf p us, ())) := by
 intro us
 induction us with
 | nil =>
  intro p x out _ _ _ _
  apply zdI
  simp [zbt, posOf]
 | cons u us ih =>
  intro p x out hu hl hd ho
  simp only [List.length_cons] at hl ho
  simp only [List.flatten_cons, List.append_assoc] at hd
  have h1 := hu u (by simp)
  apply zdI
  simp only [zbt, List.length_cons]
  have hp : p ≤ T.length := by
   have := zdg hd
   have h2 := h1.pos
   simp at this
   omega
  rw [if_pos (by simp), if_pos (by simp [-List.length_flatten]; omega), ziI (a, ()) hg T p hp (by omega), hd, h1.rest hg]
  have hx := zdg hd
  have hlen : (T.length : Int) - (us.flatten ++ x).length = ((p + u.length : Nat) : Int) := by
   simp only [List.length_append] at hx ⊢
   omega
  simp only [Option.bind_some, hlen]
  rw [w64 (by omega) (by omega), show ((us.length + 1 : Nat) : Int) - 1 = (us.length : Int) by omega, ih (p + u.length) x (out ++ [(p : Int)]) (fun v hv => hu v (by simp [hv])) (by omega) (ze0 hd) (by simp [-List.length_flatten]; omega)]
  simp [posOf]
end Go.Proofs.YtpdbffngomlleaaDoorPt.Ev
namespace Go.Proofs.YtpdbffngomlleaaDoorPt.Ev
open Go
set_option autoImplicit false
set_option linter.unusedVariables false
set_option linter.unusedSimpArgs false
def TX (a u b : List Int) : Prop := b.length + 1 ≤ 4 * u.length ∧
 (∀ (T x out : List Int) (i : Nat), T.length ≤ 1000 → T.drop i = u ++ x → out.length + 4 * u.length ≤ 1000000 → zaA M (a, ()) out T i = some ((out ++ b, ((i + u.length : Nat) : Int), ()), ())) ∧
 (∀ (T x : List Int) (i : Nat), T.length ≤ 1000 → T.drop i = u ++ x → zW M (a, ()) T i = some ((bytesStr b, ()), ()))
open Classical in
noncomputable def tb (a u : List Int) : List Int := if h : ∃ b, TX a u b then h.choose else []
theorem ziT {a u : List Int} (h : ∃ b, TX a u b) : TX a u (tb a u) := by
 unfold tb; rw [dif_pos h]; exact h.choose_spec
noncomputable def gl (a : List Int) : Bool → List (List Int) → List Int
 | _, [] => []
 | f, u :: us => (if f then 40 else 44) :: (tb a u ++ gl a false us)
theorem zjV {a : List Int} : ∀ (us : List (List Int)) (f : Bool), (∀ u ∈ us, TX a u (tb a u)) → (gl a f us).length ≤ 4 * us.flatten.length
 | [], _, _ => by simp [gl]
 | u :: us, f, h => by
  have h1 := (h u (by simp)).1
  have h2 := zjV us false (fun v hv => h v (by simp [hv]))
  simp only [gl, List.length_cons, List.length_append, List.flatten_cons]
  omega
theorem zin {a : List Int} (T : List Int) (hT : T.length ≤ 1000) (n : Int) (cnt : Nat) (hc : cnt ≤ 3) : ∀ (us : List (List Int)) (i p : Nat) (x out : List Int), (∀ u ∈ us, TX a u (tb a u)) → i + us.length = cnt → T.drop p = us.flatten ++ x → out.length + 4 * us.flatten.length ≤ 999999 →
  z8 M out T (a, ()) n p cnt i = some (.inl (out ++ gl a (i == 0) us, (a, ()), n, ((p + us.flatten.length : Nat) : Int), ())) := by
 intro us
 induction us with
 | nil =>
  intro i p x out _ hi _ _
  apply zcV
  simp at hi
  subst hi
  simp [zaR, gl]
 | cons u us ih =>
  intro i p x out hu hi hd ho
  simp only [List.length_cons] at hi
  simp only [List.flatten_cons, List.append_assoc, List.length_append] at hd ho ⊢
  have h1 := hu u (by simp)
  have h2 := h1.1
  apply zcV
  simp only [zaR]
  rw [if_pos (by simp [-List.length_flatten]; omega)]
  have step : ∀ sg : Int, ((zaA M (a, ()) (out ++ [sg]) T (p : Int)).bind fun r2 => z8 M r2.1.1 T (a, ()) n r2.1.2.1 cnt (IntKind.i64.wrap ((i : Int) + 1))) = some (.inl (out ++ [sg] ++ tb a u ++ gl a false us, (a, ()), n, ((p + u.length + us.flatten.length : Nat) : Int), ())) := by
   intro sg
   rw [h1.2.1 T (us.flatten ++ x) (out ++ [sg]) p hT hd (by simp [-List.length_flatten]; omega), zE (by omega)]
   simp only [Option.bind_some]
   rw [ih (i + 1) (p + u.length) x (out ++ [sg] ++ tb a u) (fun v hv => hu v (by simp [hv])) (by omega) (ze0 hd) (by simp [-List.length_flatten]; omega)]
   simp
  by_cases h0 : i = 0
  ·subst h0
   rw [if_pos (by simp)]
   simp only [Option.bind_some, Sum.elim_inl]
   rw [if_pos (by simp [-List.length_flatten]; omega), step]
   simp [gl, Nat.add_assoc]
  ·rw [if_neg (by simpa using h0)]
   simp only [Option.bind_some, Sum.elim_inl]
   rw [if_pos (by simp [-List.length_flatten]; omega), step]
   simp [gl, h0, Nat.add_assoc]
theorem zfS {a : List Int} (T : List Int) (hT : T.length ≤ 1000) (at0 : Int) (P : List Int) (hP : P.length ≤ 3) : ∀ (us : List (List Int)) (i p : Nat) (x : List Int) (out : List UInt8), (∀ u ∈ us, TX a u (tb a u)) → i + us.length = P.length → P.drop i = posOf p us → T.drop p = us.flatten ++ x → out.length + 4 * us.flatten.length ≤ 999999 →
  z6 M T at0 (a, ()) out P P.length i = some (.inl (T, at0, (a, ()), out ++ bytesStr (gl a (i == 0) us), ())) := by
 intro us
 induction us with
 | nil =>
  intro i p x out _ hi _ _ _
  apply zcB
  simp at hi
  subst hi
  simp [zaF, gl, bytesStr]
 | cons u us ih =>
  intro i p x out hu hi hd hd2 ho
  simp only [List.length_cons] at hi
  simp only [List.flatten_cons, List.append_assoc, List.length_append] at hd2 ho
  have h1 := hu u (by simp)
  have h2 := h1.1
  apply zcB
  have hi' : i < P.length := by omega
  have hdc := List.drop_eq_getElem_cons hi'
  rw [hd, posOf] at hdc
  obtain ⟨hp, hdc⟩ := List.cons.inj hdc
  simp only [zaF]
  rw [if_pos (by simpa using hi'), if_pos (by omega), Int.toNat_natCast, List.getElem?_eq_getElem hi', ← hp]
  simp only [Option.bind_some]
  have step : ∀ sg : UInt8, ((zW M (a, ()) T (p : Int)).bind fun r3 => if (out ++ [sg]).length + List.length r3.1.1 ≤ 4611686018427387904 then z6 M T at0 (a, ()) ((out ++ [sg]) ++ r3.1.1) P P.length (IntKind.i64.wrap ((i : Int) + 1)) else none) = some (.inl (T, at0, (a, ()), out ++ [sg] ++ bytesStr (tb a u) ++ bytesStr (gl a false us), ())) := by
   intro sg
   rw [h1.2.2 T (us.flatten ++ x) p hT hd2, zE (by omega)]
   simp only [Option.bind_some]
   rw [if_pos (by simp [zc3, -List.length_flatten]; omega), ih (i + 1) (p + u.length) x _ (fun v hv => hu v (by simp [hv])) (by omega) hdc.symm (ze0 hd2) (by simp [zc3, -List.length_flatten]; omega)]
   simp
  by_cases h0 : i = 0
  ·subst h0
   rw [if_pos (by simp), if_pos (by simp [-List.length_flatten]; omega)]
   simp only [Option.bind_some, Sum.elim_inl]
   rw [step]
   simp [gl, bytesStr]
  ·rw [if_neg (by simpa using h0), if_pos (by simp [-List.length_flatten]; omega)]
   simp only [Option.bind_some, Sum.elim_inl]
   rw [step]
   simp [gl, h0, bytesStr]
theorem zlm {a : List Int} (hs : a.length ≤ 10) {n : Int} (hb : ¬ badN a n) (h0 : n < 0) : TX a [n] [64 - n] := by
 have hb' := hb
 unfold badN at hb'
 have e1 : IntKind.i64.wrap (-1 - n) = -1 - n := w64 (by omega) (by omega)
 refine ⟨by simp, ?_, ?_⟩
 ·intro T x out i hT hd ho
  have hi : i < T.length := by have := zdg hd; simp at this; omega
  have hx : T[i] = n := by
   have := List.drop_eq_getElem_cons hi
   rw [hd] at this
   exact (List.cons.inj this).1.symm
  apply zec
  simp only [zbS]
  rw [zD hi, hx]
  simp only [Option.bind_some]
  simp only [List.length_cons, List.length_nil] at ho
  rw [if_pos (by simpa using h0), if_pos (by simp [-List.length_flatten]; omega), e1, w8 (x := -1 - n) (by omega) (by omega), w8 (by omega) (by omega), zE (by omega), show (65 : Int) + (-1 - n) = 64 - n by omega]
  rfl
 ·intro T x i hT hd
  have hi : i < T.length := by have := zdg hd; simp at this; omega
  have hx : T[i] = n := by
   have := List.drop_eq_getElem_cons hi
   rw [hd] at this
   exact (List.cons.inj this).1.symm
  apply zd0
  simp only [zbL]
  rw [zD hi, hx]
  simp only [Option.bind_some]
  rw [if_pos (by simpa using h0), e1, w64 (by omega) (by omega), w8 (by omega) (by omega), show (65 : Int) + (-1 - n) = 64 - n by omega]
theorem zk6 {a : List Int} (hg : gS a = true) {n : Int} {us : List (List Int)} (hb : ¬ badN a n) (h0 : ¬ n < 0) (hl : (us.length : Int) = ar a n) (hk : ∀ v ∈ us, Tm a v) (kid : ∀ v ∈ us, TX a v (tb a v)) (hu : us.flatten.length ≤ 999) :
  TX a (n :: us.flatten) ((97 + n) :: (gl a true us ++ (if 0 < ar a n then [41] else []))) := by
 have hn := zfF hg n
 have hs : a.length ≤ 10 := by simp only [gS, Bool.and_eq_true, decide_eq_true_eq] at hg; exact hg.2.1
 have hb' := hb
 unfold badN at hb'
 have hgl := zjV us true kid
 refine ⟨by simp [-List.length_flatten]; split <;> simp [-List.length_flatten] <;> omega, ?_, ?_⟩
 ·intro T x out i hT hd ho
  have hi : i < T.length := by have := zdg hd; simp at this; omega
  have hdc := List.drop_eq_getElem_cons hi
  rw [hd] at hdc
  obtain ⟨hx, hdc⟩ := List.cons.inj hdc
  apply zec
  simp only [zbS]
  rw [zD hi, ← hx]
  simp only [Option.bind_some]
  simp only [List.length_cons] at ho
  rw [if_neg (by simpa using h0), if_pos (by simp [-List.length_flatten]; omega), w8 (x := n) (by omega) (by omega), w8 (by omega) (by omega), zE (by omega), zh5 (a, ()) n hb]
  simp only [Option.bind_some]
  rw [← hl]
  have := zin (a := a) T hT n us.length (by omega) us 0 (i + 1) x (out ++ [97 + n]) kid (by omega) hdc.symm (by simp [-List.length_flatten]; omega)
  rw [show ((0 : Nat) : Int) = 0 from rfl] at this
  rw [this]
  simp only [Option.bind_some, Sum.elim_inl]
  rw [zh5 (a, ()) n hb]
  simp only [Option.bind_some]
  rw [hl]
  by_cases h4 : 0 < ar a n
  ·rw [if_pos (by simpa using h4), if_pos (by simp [-List.length_flatten]; omega), if_pos h4]
   simp [-List.length_flatten]; omega
  ·rw [if_neg (by simpa using h4), if_neg h4]
   simp [-List.length_flatten]; omega
 ·intro T x i hT hd
  have hi : i < T.length := by have := zdg hd; simp at this; omega
  have hdc := List.drop_eq_getElem_cons hi
  rw [hd] at hdc
  obtain ⟨hx, hdc⟩ := List.cons.inj hdc
  apply zd0
  simp only [zbL]
  rw [zD hi, ← hx]
  simp only [Option.bind_some]
  have hA : zcK M (a, ()) T (i : Int) = some ((posOf (i + 1) us, ()), ()) := by
   apply zhc
   simp only [zdM]
   rw [zD hi, ← hx]
   simp only [Option.bind_some]
   rw [if_neg (by simpa using h0), zgj hb h0, zE (by omega)]
   simp only [Option.bind_some]
   have := zhn hg T hT us (i + 1) x [] hk (by omega) hdc.symm (by simp [-List.length_flatten]; omega)
   rw [hl] at this
   rw [this]
   simp
  rw [if_neg (by simpa using h0), hA, w64 (by omega) (by omega), w8 (by omega) (by omega)]
  simp only [Option.bind_some]
  have := zfS (a := a) T hT i (posOf (i + 1) us) (by rw [zfu]; omega) us 0 (i + 1) x (bytesStr [97 + n]) kid (by rw [zfu]; omega) rfl hdc.symm (by simp [bytesStr, -List.length_flatten]; omega)
  rw [show ((0 : Nat) : Int) = 0 from rfl] at this
  rw [this]
  simp only [Option.bind_some, Sum.elim_inl]
  rw [zD hi, ← hx]
  simp only [Option.bind_some]
  rw [zgj hb h0]
  simp only [Option.bind_some]
  by_cases h4 : 0 < ar a n
  ·rw [if_pos (by simpa using h4), if_pos (by simp [zc3, -List.length_flatten]; omega), if_pos h4]
   simp [bytesStr]
  ·rw [if_neg (by simpa using h4), if_neg h4]
   simp [bytesStr]
theorem zlj {a : List Int} (hg : gS a = true) : ∀ (N : Nat) (u : List Int), u.length ≤ N → N ≤ 1000 → Tm a u → ∃ b, TX a u b := by
 intro N
 induction N with
 | zero => intro u hu _ h; have := h.pos; omega
 | succ N ih =>
  intro u hu hN h
  obtain ⟨n, us, rfl, hb, hl, hk⟩ := h.parts hg
  have hs : a.length ≤ 10 := by simp only [gS, Bool.and_eq_true, decide_eq_true_eq] at hg; exact hg.2.1
  simp only [List.length_cons] at hu
  have kid : ∀ v ∈ us, TX a v (tb a v) := fun v hv => ziT (ih v (by
   have : v.length ≤ us.flatten.length := (List.sublist_flatten_of_mem hv).length_le
   omega) (by omega) (hk v hv))
  by_cases h0 : n < 0
  ·have h3 : ar a n = 0 := by simp [ar, h0]
   obtain rfl : us = [] := List.eq_nil_of_length_eq_zero (by omega)
   exact ⟨_, zlm hs hb h0⟩
  ·exact ⟨_, zk6 hg hb h0 hl hk kid (by omega)⟩
theorem zkS {a u b c : List Int} (hu : u.length ≤ 1000) (h : TX a u b) (k : TX a u c) : b = c := by
 have h1 := h.2.1 u [] [] 0 hu (by simp) (by simp; omega)
 have h2 := k.2.1 u [] [] 0 hu (by simp) (by simp; omega)
 rw [h1] at h2
 simpa using h2
theorem zlA {a u b : List Int} (hu : u.length ≤ 1000) (h : TX a u b) : tb a u = b := zkS hu (ziT ⟨b, h⟩) h
noncomputable def tx (a u : List Int) : List UInt8 := bytesStr (tb a u)
theorem zhH {a u : List Int} (hg : gS a = true) (h : isT a u = true) : TX a u (tb a u) := by
 simp only [isT, Bool.and_eq_true, decide_eq_true_eq] at h
 exact ziT (zlj hg 40 u h.1 (by omega) h.2)
theorem zeK {a u : List Int} (hg : gS a = true) (h : isT a u = true) : (tx a u).length ≤ 160 := by
 have := (zhH hg h).1
 simp only [isT, Bool.and_eq_true, decide_eq_true_eq] at h
 rw [tx, zc3]
 omega
theorem zfb (s : TSign) (hg : gS s.1 = true) (u : List Int) (h : isT s.1 u = true) : zW M s u 0 = some ((tx s.1 u, ()), ()) := by
 have hu := h
 simp only [isT, Bool.and_eq_true, decide_eq_true_eq] at hu
 exact (zhH hg h).2.2 u [] 0 (by omega) (by simp)
theorem zgo (s : TSign) (hg : gS s.1 = true) (u : List Int) (h : isT s.1 u = true) : zan M s u = some ((tx s.1 u, ()), ()) := by
 have hu := h
 simp only [isT, Bool.and_eq_true, decide_eq_true_eq] at hu
 apply zeZ
 have := (zhH hg h).2.1 u [] [] 0 (by omega) (by simp) (by simp [-List.length_flatten]; omega)
 rw [show ((0 : Nat) : Int) = 0 from rfl, zl] at this
 simp only [zbV, zl, this, Option.bind_some, List.nil_append]
 rfl
end Go.Proofs.YtpdbffngomlleaaDoorPt.Ev
namespace Go.Proofs.YtpdbffngomlleaaDoorPt.Ev
open Go
set_option autoImplicit false
set_option linter.unusedVariables false
set_option linter.unusedSimpArgs false
def litOK (a : List Int) (x : TLit) : Bool := isT a x.2.1 && isT a x.2.2.1
def clOK (a : List Int) (c : List TLit) : Bool := decide (c.length ≤ 8) && c.all (litOK a)
theorem zkI (s : TSign) (hg : gS s.1 = true) (x : TLit) (h : smL x) : zc1 M s x = some ((litOK s.1 x, ()), ()) := by
 apply zih
 simp only [zes, zl, zhD s hg x.2.1 h.1, zhD s hg x.2.2.1 h.2, Option.bind_some, litOK]
 cases isT s.1 x.2.1 <;> simp
theorem zkH (s : TSign) (hg : gS s.1 = true) (x : TLit) : zbM M s x = some ((litOK s.1 x, ()), ()) := by
 apply zfL
 simp only [zcz, zl, zib s hg x.2.1, zib s hg x.2.2.1, Option.bind_some, litOK]
 cases isT s.1 x.2.1 <;> simp
theorem zgq (s : TSign) (hg : gS s.1 = true) (a : List TLit) (ha : a.length ≤ 1048576) (hx : ∀ x ∈ a, smL x) : ∀ k i : Nat, i + k = a.length → zaP M a s a a.length i = some (if (a.drop i).all (litOK s.1) = true then .inl (a, ()) else .inr ((false, ()), ())) := by
 intro k
 induction k with
 | zero =>
  intro i hi
  obtain rfl : i = a.length := by omega
  apply zdd
  simp [zbk]
 | succ k ih =>
  intro i hi
  apply zdd
  have h1 : i < a.length := by omega
  simp only [zbk]
  rw [if_pos (by simpa using h1), zD h1, zE (by omega)]
  simp only [Option.bind_some, zl, zb9, zkI s hg a[i] (hx _ (List.getElem_mem h1)), ih (i + 1) (by omega)]
  rw [List.drop_eq_getElem_cons h1, List.all_cons]
  generalize litOK s.1 a[i] = b
  cases b <;> rfl
theorem zi6 (s : TSign) (hg : gS s.1 = true) (a : List TLit) (ha : a.length ≤ 1048576) (hx : ∀ x ∈ a, smL x) : zcd M s a = some ((clOK s.1 a, ()), ()) := by
 apply zgk
 simp only [zc4, zl]
 have := zgq s hg a ha hx a.length 0 (by omega)
 rw [show ((0 : Nat) : Int) = 0 from rfl] at this
 rw [this, List.drop_zero, clOK]
 cases a.all (litOK s.1)
 ·simp
 ·simp; omega
theorem zfW (s : TSign) (hg : gS s.1 = true) (x : TLit) : zaH M x s = some ((!litOK s.1 x, ()), ()) := by
 apply zeE
 simp only [zbF, zl, zb9, zkH s hg x, Option.bind_some]
theorem zig (s : TSign) (hg : gS s.1 = true) (a : List TLit) (ha : a.length ≤ 1048576) : ∀ k i : Nat, i + k = a.length → ∃ r, zb M a (s, ()) a.length i = some r ∧ (match r with | .inl _ => (a.drop i).all (litOK s.1) = true | .inr r => 0 ≤ r.1.1 ∧ (a.drop i).all (litOK s.1) = false) := by
 intro k
 induction k with
 | zero =>
  intro i hi
  obtain rfl : i = a.length := by omega
  refine ⟨.inl (), zr _ _ _ _ (by simp [za]), by simp⟩
 | succ k ih =>
  intro i hi
  have h1 : i < a.length := by omega
  obtain ⟨r, hr, hm⟩ := ih (i + 1) (by omega)
  rw [List.drop_eq_getElem_cons h1, List.all_cons]
  by_cases hp : litOK s.1 a[i] = true
  ·refine ⟨r, zr _ _ _ _ ?_, by rw [hp, Bool.true_and]; exact hm⟩
   simp only [za]
   rw [if_pos (by simpa using h1), zD h1, zE (by omega)]
   simp only [Option.bind_some, zb9, zfW s hg, hp, Bool.not_true, Bool.false_eq_true, if_false]
   exact hr
  ·rw [Bool.not_eq_true] at hp
   refine ⟨.inr (((i : Int), ()), ()), zr _ _ _ _ ?_, Int.natCast_nonneg i, by rw [hp, Bool.false_and]⟩
   simp only [za]
   rw [if_pos (by simpa using h1), zD h1]
   simp only [Option.bind_some, zb9, zfW s hg, hp, Bool.not_false, if_true]
theorem zh7 (s : TSign) (hg : gS s.1 = true) (a : List TLit) (ha : a.length ≤ 1048576) : zg M a (s, ()) = some ((!(a.all (litOK s.1)), ()), ()) := by
 apply zai
 simp only [zu]
 obtain ⟨r, hr, hm⟩ := zig s hg a ha a.length 0 (by omega)
 rw [show ((0 : Nat) : Int) = 0 from rfl] at hr
 rw [List.drop_zero] at hm
 cases r with
 | inl r =>
  rw [zO a (s, ()) (r := ((-1, ()), ())) (by simp only [zk, hr, Option.bind_some, Sum.elim_inl])]
  simp only at hm
  simp [hm]
 | inr r =>
  rw [zO a (s, ()) (r := r) (by simp only [zk, hr, Option.bind_some, Sum.elim_inr])]
  simp only at hm
  simp [hm]
theorem ziZ (s : TSign) (hg : gS s.1 = true) (a : List TLit) (ha : a.length ≤ 1048576) : za3 M s a = some ((clOK s.1 a, ()), ()) := by
 apply zeQ
 simp only [zb4, zl, zh7 s hg a ha, Option.bind_some, clOK]
 by_cases h : a.length ≤ 8
 ·rw [if_pos (by simp; omega)]; simp [h]
 ·rw [if_neg (by simp; omega)]; simp [h]
end Go.Proofs.YtpdbffngomlleaaDoorPt.Ev
namespace Go.Proofs.YtpdbffngomlleaaDoorPt.Ev
open Go
set_option autoImplicit false
set_option linter.unusedVariables false
set_option linter.unusedSimpArgs false
noncomputable def ctx (a : List Int) : Bool → List TLit → List UInt8
 | _, [] => []
 | f, x :: r => (if f then [] else [124]) ++ (tx a x.2.1 ++ ((if x.1 = true then [61] else [35]) ++ (tx a x.2.2.1 ++ ctx a false r)))
theorem zhl (s : TSign) (hg : gS s.1 = true) (c : List TLit) (hc : c.all (litOK s.1) = true) (hl : c.length ≤ 8) : ∀ (k i : Nat) (out : List UInt8), i + k = c.length → out.length ≤ 1000 * i → zaU M s out c c.length i = some (.inl (out ++ ctx s.1 (i == 0) (c.drop i), ())) := by
 intro k
 induction k with
 | zero =>
  intro i out hi ho
  obtain rfl : i = c.length := by omega
  apply zdA
  simp [zbs, ctx]
 | succ k ih =>
  intro i out hi ho
  have h1 : i < c.length := by omega
  have hx : litOK s.1 c[i] = true := (List.all_eq_true.1 hc) _ (List.getElem_mem h1)
  simp only [litOK, Bool.and_eq_true] at hx
  have l1 := zeK hg hx.1
  have l2 := zeK hg hx.2
  apply zdA
  rw [List.drop_eq_getElem_cons h1]
  cases hb : c[i].1 <;> by_cases h0 : i = 0
  all_goals
   simp (disch := omega) only [zbs, zD h1, Option.bind_some, Sum.elim_inl, zl, zb9, decide_eq_true_eq, if_pos, if_neg, List.length_append, List.length_cons, List.length_nil, zfb s hg _ hx.1, zfb s hg _ hx.2, hb, zE, Bool.false_eq_true, if_false, if_true]
   rw [ih (i + 1) _ (by omega) (by simp only [List.length_append, List.length_cons, List.length_nil]; omega)]
   simp only [ctx, hb, Bool.false_eq_true, if_false, if_true]
   simp [h0]
theorem zfK (s : TSign) (hg : gS s.1 = true) (c : List TLit) (hc : c.all (litOK s.1) = true) (hl : c.length ≤ 8) : ∀ (k i : Nat) (out : List UInt8), i + k = c.length → out.length ≤ 1000 * i → zV M s out c c.length i = some (.inl (out ++ ctx s.1 (i == 0) (c.drop i), ())) := by
 intro k
 induction k with
 | zero =>
  intro i out hi ho
  obtain rfl : i = c.length := by omega
  apply zbR
  simp [zac, ctx]
 | succ k ih =>
  intro i out hi ho
  have h1 : i < c.length := by omega
  have hx : litOK s.1 c[i] = true := (List.all_eq_true.1 hc) _ (List.getElem_mem h1)
  simp only [litOK, Bool.and_eq_true] at hx
  have l1 := zeK hg hx.1
  have l2 := zeK hg hx.2
  apply zbR
  rw [List.drop_eq_getElem_cons h1]
  cases hb : c[i].1 <;> by_cases h0 : i = 0
  all_goals
   simp (disch := omega) only [zac, zD h1, Option.bind_some, Sum.elim_inl, zl, zb9, decide_eq_true_eq, if_pos, if_neg, List.length_append, List.length_cons, List.length_nil, zgo s hg _ hx.1, zgo s hg _ hx.2, hb, zE, Bool.false_eq_true, if_false, if_true]
   rw [ih (i + 1) _ (by omega) (by simp only [List.length_append, List.length_cons, List.length_nil]; omega)]
   simp only [ctx, hb, Bool.false_eq_true, if_false, if_true]
   simp [h0]
noncomputable def clt (a : List Int) (c : List TLit) : List UInt8 := if c.length = 0 then [45] else ctx a true c
theorem zkl (s : TSign) (hg : gS s.1 = true) (c : List TLit) (h : clOK s.1 c = true) : zcM M s c = some ((clt s.1 c, ()), ()) := by
 simp only [clOK, Bool.and_eq_true, decide_eq_true_eq] at h
 apply zhr
 simp only [zdW, clt, zl]
 by_cases h0 : c.length = 0
 ·rw [if_pos (by simp [h0]), if_pos h0]
 ·rw [if_neg (by simpa using h0), if_neg h0]
  have := zhl s hg c h.2 h.1 c.length 0 [] (by omega) (by simp)
  rw [show ((0 : Nat) : Int) = 0 from rfl] at this
  rw [this]
  simp
theorem zhR (s : TSign) (hg : gS s.1 = true) (c : List TLit) (h : clOK s.1 c = true) : zaG M s c = some ((clt s.1 c, ()), ()) := by
 simp only [clOK, Bool.and_eq_true, decide_eq_true_eq] at h
 apply zeG
 simp only [zbE, clt, zl]
 by_cases h0 : c.length = 0
 ·rw [if_pos (by simp [h0]), if_pos h0]
 ·rw [if_neg (by simpa using h0), if_neg h0]
  have := zfK s hg c h.2 h.1 c.length 0 [] (by omega) (by simp)
  rw [show ((0 : Nat) : Int) = 0 from rfl] at this
  rw [this]
  simp
theorem ziD {a : List Int} (hg : gS a = true) {c : List TLit} (h : clOK a c = true) : (clt a c).length ≤ 3000 := by
 simp only [clOK, Bool.and_eq_true, decide_eq_true_eq] at h
 have : ∀ (c : List TLit) (f : Bool), (∀ x ∈ c, litOK a x = true) → (ctx a f c).length ≤ 322 * c.length := by
  intro c
  induction c with
  | nil => intro f _; simp [ctx]
  | cons x r ih =>
   intro f hx
   have h1 := hx x (by simp)
   simp only [litOK, Bool.and_eq_true] at h1
   have l1 := zeK hg h1.1
   have l2 := zeK hg h1.2
   have l3 := ih false (fun y hy => hx y (by simp [hy]))
   simp only [ctx, List.length_append, List.length_cons]
   split <;> split <;> simp only [List.length_cons, List.length_nil] <;> omega
 have h2 := this c true (fun x hx => (List.all_eq_true.1 h.2) x hx)
 unfold clt
 split
 ·simp
 ·omega
end Go.Proofs.YtpdbffngomlleaaDoorPt.Ev
namespace Go.Proofs.YtpdbffngomlleaaDoorPt.Ev
open Go
set_option autoImplicit false
set_option linter.unusedVariables false
set_option linter.unusedSimpArgs false
theorem zfO (s : TSign) (hs : s.1.length ≤ 1048576) (a : List TLit) (ha : a.length ≤ 1048576) (hx : ∀ x ∈ a, smL x) : zbK M s a = some ((gS s.1 && clOK s.1 a, ()), ()) := by
 apply zfP
 simp only [zcx, zl, zey s (by omega), Option.bind_some]
 cases hg : gS s.1 with
 | false => rfl
 | true => rw [if_pos rfl, zi6 s hg a ha hx]; rfl
end Go.Proofs.YtpdbffngomlleaaDoorPt.Ev
namespace Go.Proofs.YtpdbffngomlleaaDoorPt.Ev
open Go
set_option autoImplicit false
set_option linter.unusedVariables false
set_option linter.unusedSimpArgs false
theorem zb7 (n : Nat) : (Lib.decDigits n).length ≤ n + 1 := by
 induction n using Nat.strongRecOn with
 | ind n ih =>
  rw [Lib.decDigits]
  by_cases h : n < 10
  ·rw [dif_pos h]; simp
  ·rw [dif_neg h]
   have := ih (n / 10) (by omega)
   simp only [List.length_append, List.length_cons, List.length_nil]
   omega
theorem u8of {n : Nat} (h : n < 200) : IntKind.u8.wrap (IntKind.i64.wrap ((48 : Int) + (n : Int))) = ((48 + n : Nat) : Int) := by
 rw [w64 (by omega) (by omega), w8 (by omega) (by omega)]; omega
theorem zkA (n : Nat) (hn : n ≤ 100000) : zaK M (n : Int) = some ((Lib.decDigits n, ()), ()) := by
 induction n using Nat.strongRecOn with
 | ind n ih =>
  apply zhE
  simp only [zet]
  rw [Lib.decDigits]
  by_cases h : n < 10
  ·rw [if_pos (by simp; omega), dif_pos h, u8of (by omega), zfj]
  ·have e1 : Int.tdiv (n : Int) 10 = ((n / 10 : Nat) : Int) := by
    rw [Int.tdiv_eq_ediv_of_nonneg (by omega)]; omega
   have e2 : Int.tmod (n : Int) 10 = ((n % 10 : Nat) : Int) := by
    rw [Int.tmod_eq_emod_of_nonneg (by omega)]; omega
   have hl := zb7 (n / 10)
   rw [if_neg (by simp; omega), dif_neg h, if_neg (by decide), e1, e2, w64 (by omega) (by omega), ih (n / 10) (by omega) (by omega)]
   simp only [Option.bind_some]
   rw [if_neg (by decide), u8of (by omega), zfj, if_pos (by simp only [List.length_cons, List.length_nil]; omega)]
theorem zjy (n : Nat) (hn : n ≤ 100000) : zbc M (n : Int) = some ((Lib.decDigits n, ()), ()) := by
 apply zgP
 simp only [zdj]
 rw [if_pos (by omega)]
 simp only [Lib.itoa]
 rw [if_neg (by omega), Int.toNat_natCast]
def nums (a : List Int) : List UInt8 := a.flatMap fun n => 32 :: Lib.decDigits n.toNat
theorem zex (n : Int) (a : List Int) : nums (n :: a) = 32 :: (Lib.decDigits n.toNat ++ nums a) := by simp [nums]
def okN (a : List Int) : Prop := ∀ n ∈ a, 0 ≤ n ∧ n ≤ 1000
theorem zgr {n : Int} (h : 0 ≤ n ∧ n ≤ 1000) : zaK M n = some ((Lib.decDigits n.toNat, ()), ()) ∧ zbc M n = some ((Lib.decDigits n.toNat, ()), ()) ∧ (Lib.decDigits n.toNat).length ≤ 1001 := by
 have h1 := zkA n.toNat (by omega)
 have h2 := zjy n.toNat (by omega)
 have h3 := zb7 n.toNat
 rw [show ((n.toNat : Nat) : Int) = n by omega] at h1 h2
 exact ⟨h1, h2, by omega⟩
end Go.Proofs.YtpdbffngomlleaaDoorPt.Ev
namespace Go.Proofs.YtpdbffngomlleaaDoorPt.Ev
open Go
set_option autoImplicit false
set_option linter.unusedVariables false
set_option linter.unusedSimpArgs false
abbrev TStep := Int × List Int × List Int × List TLit × Unit
def smP (x : TStep) : Prop := x.2.1.length ≤ 1048576 ∧ x.2.2.1.length ≤ 1048576 ∧ x.2.2.2.1.length ≤ 1048576 ∧ ∀ l ∈ x.2.2.2.1, smL l
theorem zaD (x : TStep) : (x.1, x.2.1, x.2.2.1, x.2.2.2.1, ()) = x := rfl
def smC (c : List TLit) : Prop := c.length ≤ 1048576 ∧ ∀ x ∈ c, smL x
end Go.Proofs.YtpdbffngomlleaaDoorPt.Ev
namespace Go.Proofs.YtpdbffngomlleaaDoorPt.Ev
open Go
set_option autoImplicit false
set_option linter.unusedVariables false
set_option linter.unusedSimpArgs false
theorem zhi (a : List Int) (ha : a.length ≤ 17592186044416) : ∀ k i : Nat, i + k = a.length → ∀ o : List Int, o.length = a.length → zbg M a o i = some (.inl (o.take i ++ a.drop i, ())) := by
 intro k
 induction k with
 | zero =>
  intro i hi o ho
  obtain rfl : i = a.length := by omega
  apply zd2
  simp only [zbG, Int.lt_irrefl, decide_false, Bool.false_eq_true, if_false, List.drop_length, List.append_nil]
  rw [← ho, List.take_length]
 | succ k ih =>
  intro i hi o ho
  apply zd2
  have h1 : i < a.length := by omega
  have h2 : i < o.length := by omega
  simp only [zbG]
  rw [if_pos (by simpa using h1), zD h1, zE (by omega)]
  simp only [Option.bind_some]
  rw [if_pos (by omega)]
  simp only [Option.bind_some, Int.toNat_natCast, List.getElem?_eq_getElem h2]
  rw [ih (i + 1) (by omega) _ (by simpa using ho)]
  rw [List.take_set, List.take_succ_eq_append_getElem h2, List.set_append_right _ _ (by simp; omega), List.drop_eq_getElem_cons h1]
  simp [Nat.min_eq_left (Nat.le_of_lt h2)]
theorem zej (a : List Int) (ha : a.length ≤ 17592186044416) : zar M a = some ((a, ()), ()) := by
 apply zg9
 simp only [zdY]
 rw [if_pos (by refine ⟨by omega, by omega, trivial⟩)]
 have := zhi a ha a.length 0 (by omega) (List.replicate a.length 0) (by simp)
 simp only [Int.toNat_natCast]
 rw [show ((0 : Nat) : Int) = 0 from rfl] at this
 rw [this]
 simp
theorem zhv (a : List Int) (ha : a.length ≤ 17592186044416) : ∀ k i : Nat, i + k = a.length → zbe M a a i = some (.inl ()) := by
 intro k
 induction k with
 | zero =>
  intro i hi
  obtain rfl : i = a.length := by omega
  apply zdZ
  simp only [zbI, Int.lt_irrefl, decide_false, Bool.false_eq_true, if_false]
 | succ k ih =>
  intro i hi
  apply zdZ
  have h1 : i < a.length := by omega
  simp only [zbI]
  rw [if_pos (by simpa using h1), zD h1, zE (by omega)]
  simp only [Option.bind_some, bne_self_eq_false, Bool.false_eq_true, if_false]
  exact ih (i + 1) (by omega)
theorem zef (a : List Int) (ha : a.length ≤ 17592186044416) : zas M a a = some ((true, ()), ()) := by
 apply zhb
 simp only [zdU, bne_self_eq_false, Bool.false_eq_true, if_false]
 have := zhv a ha a.length 0 (by omega)
 rw [show ((0 : Nat) : Int) = 0 from rfl] at this
 rw [this]
 rfl
theorem zcl (a : List Int) (n : Int) (hn : 0 ≤ n) (hn' : n ≤ 1048576) (ha : a.length ≤ 9223372036854775807) : zaq M a n = some ((if n - a.length < 0 then -1 else n - a.length, ()), ()) := by
 apply zhg
 simp only [zdL, decide_eq_true_eq]
 rw [w64 (by omega) (by omega)]
 split <;> rfl
theorem zkv (s : TSign) (n : Int) (hn : 0 ≤ n) (hn' : n ≤ 1048576) (ha : s.1.length ≤ 9223372036854775807) : ∃ r : Int, zcD M s n = some ((r, ()), ()) ∧ r ≤ n ∧ (0 ≤ r → s.1.length ≤ 1048576) := by
 refine ⟨if n - s.1.length < 0 then -1 else n - s.1.length, ?_, by split <;> omega, by split <;> omega⟩
 apply zhw
 simp only [zdQ, zcl s.1 n hn hn' ha, Option.bind_some, decide_eq_true_eq]
 by_cases h : n - (s.1.length : Int) < 0
 ·simp [h]
 ·simp [h]
theorem zkq (s : TSign) (ha : s.1.length ≤ 17592186044416) : zbq M s = some ((s, ()), ()) := by
 apply zhp
 simp only [zdN, zej s.1 ha, Option.bind_some]
theorem zkc (s : TSign) (ha : s.1.length ≤ 17592186044416) : zcI M s s = some ((true, ()), ()) := by
 apply zho
 simp only [zdR, zef s.1 ha, Option.bind_some, Bool.not_true, Bool.false_eq_true, if_false]
end Go.Proofs.YtpdbffngomlleaaDoorPt.Ev
namespace Go.Proofs.YtpdbffngomlleaaDoorPt.Ev
open Go
set_option autoImplicit false
set_option linter.unusedVariables false
set_option linter.unusedSimpArgs false
theorem zkV (x : TLit) (h : smL x) : zc9 M x x = some ((true, ()), ()) := by
 apply zie
 simp only [zel, zef x.2.1 (by have := h.1; omega), zef x.2.2.1 (by have := h.2; omega), Option.bind_some]
 simp
theorem zhh (a : List TLit) (ha : a.length ≤ 1048576) (hx : ∀ x ∈ a, smL x) : ∀ k i : Nat, i + k = a.length → zbf M a a i = some (.inl ()) := by
 intro k
 induction k with
 | zero =>
  intro i hi
  obtain rfl : i = a.length := by omega
  apply zd1
  simp only [zbJ, Int.lt_irrefl, decide_false, Bool.false_eq_true, if_false]
 | succ k ih =>
  intro i hi
  apply zd1
  have h1 : i < a.length := by omega
  simp only [zbJ]
  rw [if_pos (by simpa using h1), zD h1, zE (by omega)]
  simp only [Option.bind_some, zb9, zkV a[i] (hx _ (List.getElem_mem h1)), Bool.not_true, Bool.false_eq_true, if_false]
  exact ih (i + 1) (by omega)
theorem zkw (a : List TLit) (ha : a.length ≤ 1048576) (hx : ∀ x ∈ a, smL x) : zcE M a a = some ((true, ()), ()) := by
 apply zhs
 simp only [zdK, bne_self_eq_false, Bool.false_eq_true, if_false]
 have := zhh a ha hx a.length 0 (by omega)
 rw [show ((0 : Nat) : Int) = 0 from rfl] at this
 rw [this]
 rfl
end Go.Proofs.YtpdbffngomlleaaDoorPt.Ev
namespace Go.Proofs.YtpdbffngomlleaaDoorPt.Ev
open Go
set_option autoImplicit false
set_option linter.unusedVariables false
set_option linter.unusedSimpArgs false
theorem zkR (x : TLit) (h : smL x) : zc5 M x = some ((x, ()), ()) := by
 apply zhG
 simp only [zei, zej x.2.1 (by have := h.1; omega), zej x.2.2.1 (by have := h.2; omega), Option.bind_some]
theorem zht (a : List TLit) (ha : a.length ≤ 1048576) (hx : ∀ x ∈ a, smL x) : ∀ k i : Nat, i + k = a.length → ∀ o : List TLit, o.length = a.length → zbd M a o i = some (.inl (o.take i ++ a.drop i, ())) := by
 intro k
 induction k with
 | zero =>
  intro i hi o ho
  obtain rfl : i = a.length := by omega
  apply zd3
  simp only [zbH, Int.lt_irrefl, decide_false, Bool.false_eq_true, if_false, List.drop_length, List.append_nil]
  rw [← ho, List.take_length]
 | succ k ih =>
  intro i hi o ho
  apply zd3
  have h1 : i < a.length := by omega
  have h2 : i < o.length := by omega
  simp only [zbH]
  rw [if_pos (by simpa using h1), zD h1, zE (by omega)]
  simp only [Option.bind_some, zb9, zkR a[i] (hx _ (List.getElem_mem h1))]
  rw [if_pos (by omega)]
  simp only [Option.bind_some, Int.toNat_natCast, List.getElem?_eq_getElem h2]
  rw [ih (i + 1) (by omega) _ (by simpa using ho)]
  rw [List.take_set, List.take_succ_eq_append_getElem h2, List.set_append_right _ _ (by simp; omega), List.drop_eq_getElem_cons h1]
  simp [Nat.min_eq_left (Nat.le_of_lt h2)]
theorem zj4 (a : List TLit) (ha : a.length ≤ 1048576) (hx : ∀ x ∈ a, smL x) : zcO M a = some ((a, ()), ()) := by
 apply zhq
 simp only [zdT]
 rw [if_pos (by refine ⟨by omega, by omega, trivial⟩)]
 have := zht a ha hx a.length 0 (by omega) (List.replicate a.length (false, [], [], ())) (by simp)
 simp only [Int.toNat_natCast]
 rw [show ((0 : Nat) : Int) = 0 from rfl] at this
 rw [this]
 simp
def wlL (x : TLit) : Prop := x.2.1.length ≤ 9223372036854775807 ∧ x.2.2.1.length ≤ 9223372036854775807
theorem zk1 (x : TLit) (n : Int) (hn : 0 ≤ n) (hn' : n ≤ 1048576) (hx : wlL x) : ∃ r : Int, zc0 M x n = some ((r, ()), ()) ∧ r ≤ n ∧ (0 ≤ r → smL x) := by
 by_cases h1 : n - x.2.1.length < 0
 ·refine ⟨-1, zer _ _ ?_, by omega, by omega⟩
  simp only [zch, zcl x.2.1 n hn hn' hx.1, Option.bind_some, if_pos h1]
  rfl
 ·by_cases h2 : n - x.2.1.length - x.2.2.1.length < 0
  ·refine ⟨-1, zer _ _ ?_, by omega, by omega⟩
   simp only [zch, zcl x.2.1 n hn hn' hx.1, Option.bind_some, if_neg h1, decide_eq_true_eq, zcl x.2.2.1 (n - x.2.1.length) (by omega) (by omega) hx.2, if_pos h2]
   rfl
  ·refine ⟨n - x.2.1.length - x.2.2.1.length, zer _ _ ?_, by omega, fun _ => ⟨by omega, by omega⟩⟩
   simp only [zch, zcl x.2.1 n hn hn' hx.1, Option.bind_some, if_neg h1, decide_eq_true_eq, zcl x.2.2.1 (n - x.2.1.length) (by omega) (by omega) hx.2, if_neg h2]
theorem zhe (a : List TLit) (ha : a.length ≤ 1048576) (hx : ∀ x ∈ a, wlL x) : ∀ (k i : Nat) (n : Int), i + k = a.length → 0 ≤ n → n ≤ 1048576 → (∀ x ∈ a.take i, smL x) →
  ∃ r, zaV M a n i = some r ∧ (match r with | .inl y => 0 ≤ y.1 ∧ y.1 ≤ n ∧ ∀ x ∈ a, smL x | .inr y => y.1.1 = -1) := by
 intro k
 induction k with
 | zero =>
  intro i n hi h0 hn hs
  obtain rfl : i = a.length := by omega
  refine ⟨.inl (n, ()), zci _ _ _ (by simp [zaO]), h0, Int.le_refl _, by simpa using hs⟩
 | succ k ih =>
  intro i n hi h0 hn hs
  have h1 : i < a.length := by omega
  obtain ⟨m, hm, hm1, hm2⟩ := zk1 a[i] n h0 hn (hx _ (List.getElem_mem h1))
  by_cases hneg : m < 0
  ·refine ⟨.inr ((-1, ()), ()), zci _ _ _ ?_, rfl⟩
   simp only [zaO]
   rw [if_pos (by simpa using h1), zD h1]
   simp only [Option.bind_some, zb9, hm]
   rw [if_pos (by simpa using hneg)]
  ·obtain ⟨r, hr, hp⟩ := ih (i + 1) m (by omega) (by omega) (by omega) (by
    intro x hx'
    rw [List.take_succ_eq_append_getElem h1] at hx'
    rcases List.mem_append.1 hx' with h | h
    ·exact hs x h
    ·rw [List.mem_singleton.1 h]; exact hm2 (by omega))
   refine ⟨r, zci _ _ _ ?_, ?_⟩
   ·simp only [zaO]
    rw [if_pos (by simpa using h1), zD h1, zE (by omega)]
    simp only [Option.bind_some, zb9, hm]
    rw [if_neg (by simpa using hneg)]
    exact hr
   ·cases r with
    | inl y => exact ⟨hp.1, by have := hp.2.1; omega, hp.2.2⟩
    | inr y => exact hp
theorem zkb (a : List TLit) (n : Int) (hn : 0 ≤ n) (hn' : n ≤ 1048576) (ha : a.length ≤ 9223372036854775807) (hx : ∀ x ∈ a, wlL x) : ∃ r : Int, zcJ M a n = some ((r, ()), ()) ∧ r ≤ n ∧ (0 ≤ r → a.length ≤ 1048576 ∧ ∀ x ∈ a, smL x) := by
 have hw : IntKind.i64.wrap (n - a.length) = n - a.length := w64 (by omega) (by omega)
 by_cases h1 : n - a.length < 0
 ·refine ⟨-1, zdS _ _ ?_, by omega, by omega⟩
  simp only [zb5, hw]
  rw [if_pos (by simpa using h1)]
 ·obtain ⟨r, hr, hp⟩ := zhe a (by omega) hx a.length 0 (n - a.length) (by omega) (by omega) (by omega) (by simp)
  rw [show ((0 : Nat) : Int) = 0 from rfl] at hr
  cases r with
  | inl y =>
   refine ⟨y.1, zdS _ _ ?_, by have := hp.2.1; omega, fun _ => ⟨by omega, hp.2.2⟩⟩
   simp only [zb5, hw]
   rw [if_neg (by simpa using h1), hr]
   rfl
  | inr y =>
   obtain ⟨⟨y, _⟩, _⟩ := y
   simp only at hp
   subst hp
   refine ⟨-1, zdS _ _ ?_, by omega, by omega⟩
   simp only [zb5, hw]
   rw [if_neg (by simpa using h1), hr]
   rfl
end Go.Proofs.YtpdbffngomlleaaDoorPt.Ev
namespace Go.Proofs.YtpdbffngomlleaaDoorPt.Ev
open Go
set_option autoImplicit false
set_option linter.unusedVariables false
set_option linter.unusedSimpArgs false
def wlP (x : TStep) : Prop := x.2.1.length ≤ 9223372036854775807 ∧ x.2.2.1.length ≤ 9223372036854775807 ∧ x.2.2.2.1.length ≤ 9223372036854775807 ∧ ∀ l ∈ x.2.2.2.1, wlL l
theorem zkh (x : TStep) (h : smP x) : zcG M x = some ((x, ()), ()) := by
 apply zhk
 simp only [zdX, zej x.2.1 (by have := h.1; omega), zej x.2.2.1 (by have := h.2.1; omega), zj4 x.2.2.2.1 h.2.2.1 h.2.2.2, Option.bind_some]
theorem zkp (x : TStep) (h : smP x) : zcL M x x = some ((true, ()), ()) := by
 apply zhu
 simp only [zdV, zef x.2.1 (by have := h.1; omega), zef x.2.2.1 (by have := h.2.1; omega), zkw x.2.2.2.1 h.2.2.1 h.2.2.2, Option.bind_some]
 simp
theorem zks (x : TStep) (n : Int) (hn : 0 ≤ n) (hn' : n ≤ 1048576) (hx : wlP x) : ∃ r : Int, zcN M x n = some ((r, ()), ()) ∧ r ≤ n ∧ (0 ≤ r → smP x) := by
 have e1 := zcl x.2.1 n hn hn' hx.1
 generalize hr1 : (if n - (x.2.1.length : Int) < 0 then -1 else n - x.2.1.length : Int) = r1 at e1
 have f1 : r1 ≤ n ∧ (0 ≤ r1 → x.2.1.length ≤ 1048576) := by
  split at hr1 <;> omega
 by_cases h1 : r1 < 0
 ·refine ⟨-1, zcP _ _ ?_, by omega, by omega⟩
  simp only [zbr, e1, Option.bind_some]
  rw [if_pos (by simpa using h1)]
 ·have e2 := zcl x.2.2.1 r1 (by omega) (by omega) hx.2.1
  generalize hr2 : (if r1 - (x.2.2.1.length : Int) < 0 then -1 else r1 - x.2.2.1.length : Int) = r2 at e2
  have f2 : r2 ≤ n ∧ (0 ≤ r2 → x.2.2.1.length ≤ 1048576) := by
   split at hr2 <;> omega
  by_cases h2 : r2 < 0
  ·refine ⟨-1, zcP _ _ ?_, by omega, by omega⟩
   simp only [zbr, e1, e2, Option.bind_some]
   rw [if_neg (by simpa using h1), if_pos (by simpa using h2)]
  ·obtain ⟨r3, e3, g3, k3⟩ := zkb x.2.2.2.1 r2 (by omega) (by omega) hx.2.2.1 hx.2.2.2
   by_cases h3 : r3 < 0
   ·refine ⟨-1, zcP _ _ ?_, by omega, by omega⟩
    simp only [zbr, e1, e2, e3, Option.bind_some]
    rw [if_neg (by simpa using h1), if_neg (by simpa using h2), if_pos (by simpa using h3)]
   ·refine ⟨r3, zcP _ _ ?_, by omega, fun _ => ⟨f1.2 (by omega), f2.2 (by omega), (k3 (by omega)).1, (k3 (by omega)).2⟩⟩
    simp only [zbr, e1, e2, e3, Option.bind_some]
    rw [if_neg (by simpa using h1), if_neg (by simpa using h2), if_neg (by simpa using h3)]
end Go.Proofs.YtpdbffngomlleaaDoorPt.Ev
namespace Go.Proofs.YtpdbffngomlleaaDoorPt.Ev
open Go
set_option autoImplicit false
set_option linter.unusedVariables false
set_option linter.unusedSimpArgs false
theorem zkD (x : Int) : za4 M x = some ((!(decide (0 ≤ x) && decide (x ≤ 999)), ()), ()) := by
 apply zeU
 simp only [zbZ, decide_eq_true_eq]
 by_cases h : x < 0
 ·rw [if_pos h]; simp; omega
 ·rw [if_neg h]
  have h0 : 0 ≤ x := by omega
  rw [decide_eq_true h0, Bool.true_and]
  by_cases h3 : x ≤ 999
  ·rw [decide_eq_true h3, decide_eq_false (by omega)]; rfl
  ·rw [decide_eq_false h3, decide_eq_true (by omega)]; rfl
theorem zhY (a : List Int) (ha : a.length ≤ 17592186044416) : ∀ k i : Nat, i + k = a.length → ∃ r, zj M a () a.length i = some r ∧ (match r with | .inl _ => (a.drop i).all (fun x => decide (0 ≤ x) && decide (x ≤ 999)) = true | .inr r => 0 ≤ r.1.1 ∧ (a.drop i).all (fun x => decide (0 ≤ x) && decide (x ≤ 999)) = false) := by
 intro k
 induction k with
 | zero =>
  intro i hi
  obtain rfl : i = a.length := by omega
  refine ⟨.inl (), zI _ _ _ _ (by simp [zh]), by simp⟩
 | succ k ih =>
  intro i hi
  have h1 : i < a.length := by omega
  obtain ⟨r, hr, hm⟩ := ih (i + 1) (by omega)
  rw [List.drop_eq_getElem_cons h1, List.all_cons]
  by_cases hp : (decide (0 ≤ a[i]) && decide (a[i] ≤ 999)) = true
  ·refine ⟨r, zI _ _ _ _ ?_, by rw [hp, Bool.true_and]; exact hm⟩
   simp only [zh]
   rw [if_pos (by simpa using h1), zD h1, zE (by omega)]
   simp only [Option.bind_some, zkD, hp, Bool.not_true, Bool.false_eq_true, if_false]
   exact hr
  ·rw [Bool.not_eq_true] at hp
   refine ⟨.inr (((i : Int), ()), ()), zI _ _ _ _ ?_, Int.natCast_nonneg i, by rw [hp, Bool.false_and]⟩
   simp only [zh]
   rw [if_pos (by simpa using h1), zD h1]
   simp only [Option.bind_some, zkD, hp, Bool.not_false, if_true]
theorem zid (a : List Int) (ha : a.length ≤ 17592186044416) : zt M a () = some ((!(a.all (fun x => decide (0 ≤ x) && decide (x ≤ 999))), ()), ()) := by
 apply zba
 simp only [zJ]
 obtain ⟨r, hr, hm⟩ := zhY a ha a.length 0 (by omega)
 rw [show ((0 : Nat) : Int) = 0 from rfl] at hr
 rw [List.drop_zero] at hm
 cases r with
 | inl r =>
  rw [zaa a () (r := ((-1, ()), ())) (by simp only [zz, hr, Option.bind_some, Sum.elim_inl])]
  simp only at hm
  simp [hm]
 | inr r =>
  rw [zaa a () (r := r) (by simp only [zz, hr, Option.bind_some, Sum.elim_inr])]
  simp only at hm
  simp [hm]
theorem zjK (A B : List Int) (hA : A.length ≤ 1048576) (hB : B.length ≤ 1048576) : zaw M [A, B] = some ((A ++ B, ()), ()) := by
 have w1 : IntKind.i64.wrap ((0 : Int) + 1) = 1 := w64 (by omega) (by omega)
 have w2 : IntKind.i64.wrap ((1 : Int) + 1) = 2 := w64 (by omega) (by omega)
 have a2 : zH M [A, B] ((A.length : Int) + B.length) [A, B] (([A, B] : List (List Int)).length : Int) 2 = some (.inl ([A, B], (A.length : Int) + B.length, ())) := zaN _ _ _ _ _ (by simp [zT])
 have a1 : zH M [A, B] (A.length : Int) [A, B] (([A, B] : List (List Int)).length : Int) 1 = some (.inl ([A, B], (A.length : Int) + B.length, ())) := zaN _ _ _ _ _ (by
  simp only [zT]
  rw [if_pos (by simp), show idx [A, B] 1 = some B from rfl]
  simp only [Option.bind_some]
  rw [w64 (by omega) (by omega), if_neg (by simp; omega), w2]
  exact a2)
 have a0 : zH M [A, B] 0 [A, B] (([A, B] : List (List Int)).length : Int) 0 = some (.inl ([A, B], (A.length : Int) + B.length, ())) := zaN _ _ _ _ _ (by
  simp only [zT]
  rw [if_pos (by simp), show idx [A, B] 0 = some A from rfl]
  simp only [Option.bind_some]
  rw [Int.zero_add, w64 (by omega) (by omega), if_neg (by simp), w1]
  exact a1)
 have b2 : zF M (A ++ B) [A, B] (([A, B] : List (List Int)).length : Int) 2 = some (.inl (A ++ B, ())) := zaC _ _ _ _ (by simp [zQ])
 have b1 : zF M A [A, B] (([A, B] : List (List Int)).length : Int) 1 = some (.inl (A ++ B, ())) := zaC _ _ _ _ (by
  simp only [zQ]
  rw [if_pos (by simp), show idx [A, B] 1 = some B from rfl]
  simp only [Option.bind_some]
  rw [if_pos (by omega), w2]
  exact b2)
 have b0 : zF M [] [A, B] (([A, B] : List (List Int)).length : Int) 0 = some (.inl (A ++ B, ())) := zaC _ _ _ _ (by
  simp only [zQ]
  rw [if_pos (by simp), show idx [A, B] 0 = some A from rfl]
  simp only [Option.bind_some]
  rw [if_pos (by simp; omega), w1, List.nil_append]
  exact b1)
 apply zew
 simp only [zbn, a0, Option.bind_some, Sum.elim_inl]
 rw [if_pos (by omega), b0]
 rfl
def okS (l : List Int) : Bool := l.all fun x => decide (0 ≤ x) && decide (x ≤ 999)
def toldS (a : List Int) (x : TStep) : Bool := decide (1 ≤ x.1) && decide (x.1 ≤ 5) && (clOK a x.2.2.2.1 && (okS x.2.1 && okS x.2.2.1))
theorem zkn (s : TSign) (hg : gS s.1 = true) (x : TStep) (h : smP x) : zby M s x = some ((toldS s.1 x, ()), ()) := by
 obtain ⟨h1, h2, h3, h4⟩ := h
 apply zfA
 simp only [zcm, zl, ziZ s hg _ h3, zjK _ _ h1 h2, zid (x.2.1 ++ x.2.2.1) (by simp; omega), Option.bind_some, toldS]
 by_cases c1 : 1 ≤ x.1
 ·rw [if_pos (by simpa using c1), decide_eq_true c1]
  by_cases c2 : x.1 ≤ 5
  ·rw [if_pos (by simpa using c2), decide_eq_true c2]
   cases clOK s.1 x.2.2.2.1 with
   | false => rfl
   | true => rw [if_pos rfl]; simp [okS, List.all_append]
  ·rw [if_neg (by simpa using c2), decide_eq_false c2]; rfl
 ·rw [if_neg (by simpa using c1), decide_eq_false c1]; rfl
theorem zjw (s : TSign) (hs : s.1.length ≤ 1048576) (x : TStep) (h : smP x) : zcq M s x = some ((gS s.1 && toldS s.1 x, ()), ()) := by
 obtain ⟨h1, h2, h3, h4⟩ := h
 apply zgM
 simp only [zdh, zl, zfO s hs _ h3 h4, zfm, zgy x.2.1 0 999 (by omega), zgy x.2.2.1 0 999 (by omega), Option.bind_some, toldS, ← okS.eq_1]
 cases gS s.1 <;> cases clOK s.1 x.2.2.2.1 <;> cases (decide (1 ≤ x.1) && decide (x.1 ≤ 5)) <;> cases okS x.2.1 <;> rfl
theorem zhy {l : List Int} (h : okS l = true) : okN l := fun n hn => by
 have := (List.all_eq_true.1 h) n hn
 simp only [Bool.and_eq_true, decide_eq_true_eq] at this
 omega
theorem ziu (a : List Int) (ha : okN a) (hl : a.length ≤ 1048576) : ∀ (k i : Nat) (out : List UInt8), i + k = a.length → out.length ≤ 2000 * i + 100 → zaW M out a a.length i = some (.inl (out ++ nums (a.drop i), ())) := by
 intro k
 induction k with
 | zero =>
  intro i out hi ho
  obtain rfl : i = a.length := by omega
  apply zdF
  simp [zbx, nums]
 | succ k ih =>
  intro i out hi ho
  have h1 : i < a.length := by omega
  obtain ⟨_, e1, e3⟩ := zgr (ha _ (List.getElem_mem h1))
  apply zdF
  simp only [zbx]
  rw [if_pos (by simpa using h1), zD h1, zE (by omega)]
  simp only [Option.bind_some, e1]
  rw [if_pos (by simp only [List.length_cons, List.length_nil]; omega), if_pos (by simp only [List.length_append, List.length_cons, List.length_nil]; omega), ih (i + 1) _ (by omega) (by simp only [List.length_append, List.length_cons, List.length_nil]; omega)]
  rw [List.drop_eq_getElem_cons h1, zex]
  simp
theorem zgR (a : List Int) (ha : okN a) (hl : a.length ≤ 1048576) : zbO M a = some ((nums a, ()), ()) := by
 apply zgJ
 have := ziu a ha hl a.length 0 [] (by omega) (by simp)
 rw [show ((0 : Nat) : Int) = 0 from rfl, List.drop_zero, List.nil_append] at this
 simp only [zdq, this, Option.bind_some, Sum.elim_inl]
theorem ziy (s : TSign) (x : TStep) (a : List Int) (ha : okN a) (hl : a.length ≤ 1048576) : ∀ (k i : Nat) (out : List UInt8), i + k = a.length → out.length ≤ 2000 * i + 100 → za0 M s x out a a.length i = some (.inl (s, x, out ++ nums (a.drop i), ())) := by
 intro k
 induction k with
 | zero =>
  intro i out hi ho
  obtain rfl : i = a.length := by omega
  apply zdx
  simp [zbD, nums]
 | succ k ih =>
  intro i out hi ho
  have h1 : i < a.length := by omega
  obtain ⟨e1, _, e3⟩ := zgr (ha _ (List.getElem_mem h1))
  apply zdx
  simp only [zbD]
  rw [if_pos (by simpa using h1), zD h1, zE (by omega)]
  simp only [Option.bind_some, e1]
  rw [if_pos (by simp only [List.length_cons, List.length_nil]; omega), if_pos (by simp only [List.length_append, List.length_cons, List.length_nil]; omega), zl, zaD, ih (i + 1) _ (by omega) (by simp only [List.length_append, List.length_cons, List.length_nil]; omega)]
  rw [List.drop_eq_getElem_cons h1, zex]
  simp
theorem zhZ (s : TSign) (x : TStep) (a : List Int) (ha : okN a) (hl : a.length ≤ 1048576) : ∀ (k i : Nat) (out : List UInt8), i + k = a.length → out.length ≤ 2000 * i + 3000000000 → zaQ M s x out a a.length i = some (.inl (s, x, out ++ nums (a.drop i), ())) := by
 intro k
 induction k with
 | zero =>
  intro i out hi ho
  obtain rfl : i = a.length := by omega
  apply zde
  simp [zbj, nums]
 | succ k ih =>
  intro i out hi ho
  have h1 : i < a.length := by omega
  obtain ⟨e1, _, e3⟩ := zgr (ha _ (List.getElem_mem h1))
  apply zde
  simp only [zbj]
  rw [if_pos (by simpa using h1), zD h1, zE (by omega)]
  simp only [Option.bind_some, e1]
  rw [if_pos (by simp only [List.length_cons, List.length_nil]; omega), if_pos (by simp only [List.length_append, List.length_cons, List.length_nil]; omega), zl, zaD, ih (i + 1) _ (by omega) (by simp only [List.length_append, List.length_cons, List.length_nil]; omega)]
  rw [List.drop_eq_getElem_cons h1, zex]
  simp
def wordT (n : Int) : List UInt8 := if (n == (1 : Int)) = true then [105, 110, 112, 117, 116] else if (n == (2 : Int)) = true then [115, 117, 112, 101, 114] else if (n == (3 : Int)) = true then [114, 101, 115, 111, 108, 118, 101] else if (n == (4 : Int)) = true then [102, 97, 99, 116, 111, 114] else [110, 111, 114, 109, 97, 108]
theorem zgX (n : Int) : (wordT n).length ≤ 10 := by
 unfold wordT; repeat' split
 all_goals simp
theorem zjJ (n : Int) : zcv M n = some ((wordT n, ()), ()) ∧ zcH M n = some ((wordT n, ()), ()) := by
 refine ⟨zgD _ ?_, zhf _ ?_⟩
 ·simp only [zdp, wordT]
  repeat' split
  all_goals rfl
 ·simp only [zdO, wordT]
  repeat' split
  all_goals rfl
noncomputable def stepT (a : List Int) (x : TStep) : List UInt8 := ((((wordT x.1 ++ nums x.2.1) ++ [32, 58]) ++ nums x.2.2.1) ++ [32, 58, 32]) ++ clt a x.2.2.2.1
theorem numsL (a : List Int) (ha : okN a) : (nums a).length ≤ 1002 * a.length := by
 induction a with
 | nil => simp [nums]
 | cons n a ih =>
  have h1 := ih (fun x hx => ha x (by simp [hx]))
  have h2 := (zgr (ha n (by simp))).2.2
  rw [zex]
  simp only [List.length_cons, List.length_append]
  omega
theorem zg8 (s : TSign) (hg : gS s.1 = true) (x : TStep) (h : smP x) (ht : toldS s.1 x = true) : zcu M s x = some ((stepT s.1 x, ()), ()) ∧ za7 M s x = some ((stepT s.1 x, ()), ()) := by
 simp only [toldS, Bool.and_eq_true] at ht
 obtain ⟨_, hc, o1, o2⟩ := ht
 have n1 := zhy o1
 have n2 := zhy o2
 obtain ⟨h1, h2, h3, h4⟩ := h
 have m1 := numsL _ n1
 have m2 := numsL _ n2
 have m3 := ziD hg hc
 have m4 := zgX x.1
 have a1 := ziy s x x.2.1 n1 h1 x.2.1.length 0 (wordT x.1) (by omega) (by omega)
 have a2 := zhZ s x x.2.2.1 n2 h2 x.2.2.1.length 0 ((wordT x.1 ++ nums x.2.1) ++ [32, 58]) (by omega) (by simp only [List.length_append, List.length_cons, List.length_nil]; omega)
 rw [show ((0 : Nat) : Int) = 0 from rfl, List.drop_zero] at a1 a2
 refine ⟨zgG _ _ ?_, zeY _ _ ?_⟩
 ·simp only [zdi, zl, zaD, (zjJ x.1).1, Option.bind_some, a1, Sum.elim_inl]
  rw [if_pos (by simp only [List.length_append, List.length_cons, List.length_nil]; omega), a2]
  simp only [Option.bind_some, Sum.elim_inl, zkl s hg _ hc]
  rw [if_pos (by simp only [List.length_append, List.length_cons, List.length_nil]; omega), if_pos (by simp only [List.length_append, List.length_cons, List.length_nil]; omega)]
  rfl
 ·simp only [zbX, zl, (zjJ x.1).2, Option.bind_some, zgR _ n1 h1, zgR _ n2 h2, zhR s hg _ hc]
  rw [if_pos (by (try simp only [List.length_append, List.length_cons, List.length_nil]); omega), if_pos (by (try simp only [List.length_append, List.length_cons, List.length_nil]); omega), if_pos (by (try simp only [List.length_append, List.length_cons, List.length_nil]); omega), if_pos (by (try simp only [List.length_append, List.length_cons, List.length_nil]); omega), if_pos (by (try simp only [List.length_append, List.length_cons, List.length_nil]); omega)]
  rfl
end Go.Proofs.YtpdbffngomlleaaDoorPt.Ev
namespace Go.Proofs.YtpdbffngomlleaaDoorPt.Ev
open Go
set_option autoImplicit false
set_option linter.unusedVariables false
set_option linter.unusedSimpArgs false
theorem zfk (a : List Int) (hg : gS a = true) (x : TStep) (h : smP x) (ht : toldS a x = true) : (stepT a x).length ≤ 2200000000 := by
 simp only [toldS, Bool.and_eq_true] at ht
 obtain ⟨_, hc, o1, o2⟩ := ht
 obtain ⟨h1, h2, h3, h4⟩ := h
 have m1 := numsL _ (zhy o1)
 have m2 := numsL _ (zhy o2)
 have m3 := ziD hg hc
 have m4 := zgX x.1
 simp only [stepT, List.length_append, List.length_cons, List.length_nil]
 omega
noncomputable def lineT (a : List Int) (i : Nat) (x : TStep) : List UInt8 := ((Lib.decDigits i ++ [32]) ++ stepT a x) ++ [10]
noncomputable def proofT (a : List Int) : Nat → List TStep → List UInt8
 | _, [] => []
 | i, x :: r => lineT a i x ++ proofT a (i + 1) r
theorem zg1 (a : List Int) (hg : gS a = true) (x : TStep) (h : smP x) (ht : toldS a x = true) (i : Nat) (hi : i ≤ 200) : (lineT a i x).length ≤ 2200001000 := by
 have m1 := zfk a hg x h ht
 have m2 := zb7 i
 simp only [lineT, List.length_append, List.length_cons, List.length_nil]
 omega
theorem zi7 (s : TSign) (hg : gS s.1 = true) (a : List TStep) (ha : a.length ≤ 200) (hx : ∀ x ∈ a, smP x) (ht : ∀ x ∈ a, toldS s.1 x = true) : ∀ (k i : Nat) (out : List UInt8), i + k = a.length → out.length ≤ 2200001000 * i →
  zaI M s out a a.length i = some (.inl (out ++ proofT s.1 i (a.drop i), ())) := by
 intro k
 induction k with
 | zero =>
  intro i out hi ho
  obtain rfl : i = a.length := by omega
  apply zdc
  simp [zbh, proofT]
 | succ k ih =>
  intro i out hi ho
  have h1 : i < a.length := by omega
  have hs := hx _ (List.getElem_mem h1)
  have htt := ht _ (List.getElem_mem h1)
  have e1 := (zg8 s hg a[i] hs htt).1
  have m1 := zfk s.1 hg a[i] hs htt
  have m2 := zb7 i
  have m3 := zg1 s.1 hg a[i] hs htt i (by omega)
  apply zdc
  simp only [zbh]
  rw [if_pos (by simpa using h1), zD h1, zE (by omega)]
  simp only [Option.bind_some, zkA i (by omega), zl, zaD, e1]
  rw [if_pos (by simp only [List.length_cons, List.length_nil]; omega), if_pos (by simp only [List.length_append, List.length_cons, List.length_nil]; omega), if_pos (by simp only [List.length_append, List.length_cons, List.length_nil]; omega), if_pos (by simp only [List.length_append, List.length_cons, List.length_nil]; omega)]
  have := ih (i + 1) (out ++ lineT s.1 i a[i]) (by omega) (by simp only [List.length_append]; omega)
  rw [List.drop_eq_getElem_cons h1, proofT, ← List.append_assoc out (lineT s.1 i a[i])]
  exact this
theorem zi9 (s : TSign) (hg : gS s.1 = true) (a : List TStep) (ha : a.length ≤ 200) (hx : ∀ x ∈ a, smP x) (ht : ∀ x ∈ a, toldS s.1 x = true) : zce M s a = some ((proofT s.1 0 a, ()), ()) := by
 apply zge
 have := zi7 s hg a ha hx ht a.length 0 [] (by omega) (by simp)
 rw [show ((0 : Nat) : Int) = 0 from rfl, List.drop_zero, List.nil_append] at this
 simp only [zc6, zl, this, Option.bind_some, Sum.elim_inl]
theorem zje (s : TSign) (hg : gS s.1 = true) (hs : s.1.length ≤ 1048576) (b a : List TStep) (ha : a.length ≤ 200) (hx : ∀ x ∈ a, smP x) : ∀ k i : Nat, i + k = a.length →
  zay M b s a a.length i = some (if (a.drop i).all (toldS s.1) = true then .inl (b, s, ()) else .inr (([], false, ()), ())) := by
 intro k
 induction k with
 | zero =>
  intro i hi
  obtain rfl : i = a.length := by omega
  apply zcY
  simp [za5]
 | succ k ih =>
  intro i hi
  have h1 : i < a.length := by omega
  apply zcY
  simp only [za5]
  rw [if_pos (by simpa using h1), zD h1, zE (by omega), List.drop_eq_getElem_cons h1, List.all_cons]
  simp only [Option.bind_some, zl, zaD, zjw s hs _ (hx _ (List.getElem_mem h1)), hg, Bool.true_and]
  cases toldS s.1 a[i] with
  | false => rfl
  | true => simp only [Bool.not_true, Bool.false_eq_true, if_false, Bool.true_and]; exact ih (i + 1) (by omega)
theorem zi1 (s : TSign) (hg : gS s.1 = true) (a : List TStep) (ha : a.length ≤ 200) (hx : ∀ x ∈ a, smP x) : ∀ k i : Nat, i + k = a.length →
  ∃ r, ze M a (s, ()) a.length i = some r ∧ (match r with | .inl _ => (a.drop i).all (toldS s.1) = true | .inr r => 0 ≤ r.1.1 ∧ (a.drop i).all (toldS s.1) = false) := by
 intro k
 induction k with
 | zero =>
  intro i hi
  obtain rfl : i = a.length := by omega
  exact ⟨.inl (), zw _ _ _ _ (by simp [zd]), by simp⟩
 | succ k ih =>
  intro i hi
  have h1 : i < a.length := by omega
  have hp : zbB M a[i] s = some ((!(toldS s.1 a[i]), ()), ()) := zff _ _ (by
   simp only [zco, zl, zaD, zkn s hg _ (hx _ (List.getElem_mem h1)), Option.bind_some])
  obtain ⟨r, hr, hm⟩ := ih (i + 1) (by omega)
  rw [List.drop_eq_getElem_cons h1, List.all_cons]
  cases ht : toldS s.1 a[i] with
  | true =>
   refine ⟨r, zw _ _ _ _ ?_, by rw [Bool.true_and]; exact hm⟩
   simp only [zd]
   rw [if_pos (by simpa using h1), zD h1, zE (by omega)]
   simp only [Option.bind_some, zaD, hp, ht, Bool.not_true, Bool.false_eq_true, if_false]
   exact hr
  | false =>
   refine ⟨.inr (((i : Int), ()), ()), zw _ _ _ _ ?_, Int.natCast_nonneg i, by rw [Bool.false_and]⟩
   simp only [zd]
   rw [if_pos (by simpa using h1), zD h1]
   simp only [Option.bind_some, zaD, hp, ht, Bool.not_false, if_true]
theorem zlb (s : TSign) (hg : gS s.1 = true) (a : List TStep) (ha : a.length ≤ 200) (hx : ∀ x ∈ a, smP x) : zi M a (s, ()) = some ((!(a.all (toldS s.1)), ()), ()) := by
 apply zap
 simp only [zx]
 obtain ⟨r, hr, hm⟩ := zi1 s hg a ha hx a.length 0 (by omega)
 rw [show ((0 : Nat) : Int) = 0 from rfl] at hr
 rw [List.drop_zero] at hm
 cases r with
 | inl r =>
  rw [zR a (s, ()) (r := ((-1, ()), ())) (by simp only [zo, hr, Option.bind_some, Sum.elim_inl])]
  simp only at hm
  simp [hm]
 | inr r =>
  rw [zR a (s, ()) (r := r) (by simp only [zo, hr, Option.bind_some, Sum.elim_inr])]
  simp only at hm
  simp [hm]
theorem zjE (b t : List UInt8) (h : b.length + t.length ≤ 140737488355328) : z7 M b t = some (((t.length : Int), (), ()), (b ++ t, ())) := by
 apply zda
 simp only [zat]
 rw [if_pos h]
theorem zjg (s : TSign) (hg : gS s.1 = true) (a : List TStep) (ha : a.length ≤ 200) (hx : ∀ x ∈ a, smP x) (ht : ∀ x ∈ a, toldS s.1 x = true) : ∀ (k i : Nat) (out : List UInt8), i + k = a.length → out.length ≤ 2200001000 * i →
  zaj M s out a a.length i = some (.inl (out ++ proofT s.1 i (a.drop i), ())) := by
 intro k
 induction k with
 | zero =>
  intro i out hi ho
  obtain rfl : i = a.length := by omega
  apply zcT
  simp [zaS, proofT]
 | succ k ih =>
  intro i out hi ho
  have h1 : i < a.length := by omega
  have hs := hx _ (List.getElem_mem h1)
  have htt := ht _ (List.getElem_mem h1)
  have e1 := (zg8 s hg a[i] hs htt).2
  have m1 := zfk s.1 hg a[i] hs htt
  have m2 := zb7 i
  have m3 := zg1 s.1 hg a[i] hs htt i (by omega)
  have m4 := zjE out (lineT s.1 i a[i]) (by omega)
  simp only [lineT] at m4
  apply zcT
  simp only [zaS]
  rw [if_pos (by simpa using h1), zD h1, zE (by omega)]
  simp only [Option.bind_some, zjy i (by omega), zl, zaD, e1]
  rw [if_pos (by simp only [List.length_cons, List.length_nil]; omega), if_pos (by simp only [List.length_append, List.length_cons, List.length_nil]; omega), if_pos (by simp only [List.length_append, List.length_cons, List.length_nil]; omega), m4]
  have := ih (i + 1) (out ++ lineT s.1 i a[i]) (by omega) (by simp only [List.length_append]; omega)
  rw [List.drop_eq_getElem_cons h1, proofT, ← List.append_assoc out (lineT s.1 i a[i])]
  exact this
noncomputable def proofV (a : List Int) (l : List TStep) : List UInt8 × Bool := if gS a = true ∧ l.length ≤ 200 ∧ l.all (toldS a) = true then (proofT a 0 l, true) else ([], false)
theorem zhK (s : TSign) (hs : s.1.length ≤ 1048576) (a : List TStep) (ha : a.length ≤ 1048576) (hx : ∀ x ∈ a, smP x) :
  zb3 M s a = some (((proofV s.1 a).1, (proofV s.1 a).2, ()), ()) ∧ zbU M s a = some (((proofV s.1 a).1, (proofV s.1 a).2, ()), ()) := by
 have g1 := zey s (by omega)
 have g2 := zgt s (by omega)
 by_cases hg : gS s.1 = true
 ·by_cases hl : a.length ≤ 200
  ·have L1 := zje s hg hs a a hl hx a.length 0 (by omega)
   have L2 := zlb s hg a hl hx
   rw [show ((0 : Nat) : Int) = 0 from rfl, List.drop_zero] at L1
   by_cases ht : a.all (toldS s.1) = true
   ·have ht' : ∀ x ∈ a, toldS s.1 x = true := by simpa using ht
    have v : proofV s.1 a = (proofT s.1 0 a, true) := if_pos ⟨hg, hl, ht⟩
    have W := zjg s hg a hl hx ht' a.length 0 [] (by omega) (by simp)
    rw [show ((0 : Nat) : Int) = 0 from rfl, List.drop_zero, List.nil_append] at W
    have X : zam M (proofT s.1 0 a) = some ((proofT s.1 0 a, ()), ()) := zen _ rfl
    rw [v]
    rw [if_pos ht] at L1
    refine ⟨zb0 _ _ ?_, zbW _ _ ?_⟩
    ·simp only [zaE, zl, g1, hg, Option.bind_some, L1, Sum.elim_inl, zi9 s hg a hl hx ht']
     rw [if_neg (by simp), if_neg (by simp; omega)]
    ·simp only [zaB, zl, g2, hg, Option.bind_some, L2, ht, W, Sum.elim_inl, X]
     rw [if_neg (by simp), if_neg (by simp; omega), if_neg (by simp)]
   ·have v : proofV s.1 a = ([], false) := if_neg (fun h => ht h.2.2)
    rw [v]
    rw [if_neg ht] at L1
    rw [Bool.not_eq_true] at ht
    refine ⟨zb0 _ _ ?_, zbW _ _ ?_⟩
    ·simp only [zaE, zl, g1, hg, Option.bind_some, L1, Sum.elim_inr]
     rw [if_neg (by simp), if_neg (by simp; omega)]
    ·simp only [zaB, zl, g2, hg, Option.bind_some, L2, ht]
     rw [if_neg (by simp), if_neg (by simp; omega), if_pos (by simp)]
  ·have v : proofV s.1 a = ([], false) := if_neg (fun h => hl h.2.1)
   rw [v]
   refine ⟨zb0 _ _ ?_, zbW _ _ ?_⟩
   ·simp only [zaE, zl, g1, hg, Option.bind_some]
    rw [if_neg (by simp), if_pos (by simp; omega)]
   ·simp only [zaB, zl, g2, hg, Option.bind_some]
    rw [if_neg (by simp), if_pos (by simp; omega)]
 ·have v : proofV s.1 a = ([], false) := if_neg (fun h => hg h.1)
  rw [v]
  rw [Bool.not_eq_true] at hg
  refine ⟨zb0 _ _ ?_, zbW _ _ ?_⟩
  ·simp only [zaE, zl, g1, hg, Option.bind_some]; rfl
  ·simp only [zaB, zl, g2, hg, Option.bind_some]; rfl
end Go.Proofs.YtpdbffngomlleaaDoorPt.Ev
namespace Go.Proofs.YtpdbffngomlleaaDoorPt.Ev
open Go
set_option autoImplicit false
set_option linter.unusedVariables false
set_option linter.unusedSimpArgs false
theorem zgx (a : List TStep) (ha : a.length ≤ 1048576) (hx : ∀ x ∈ a, smP x) : ∀ k i : Nat, i + k = a.length → ∀ o : List TStep, o.length = a.length → zaX M a o i = some (.inl (o.take i ++ a.drop i, ())) := by
 intro k
 induction k with
 | zero =>
  intro i hi o ho
  obtain rfl : i = a.length := by omega
  apply zdC
  simp only [zbw, Int.lt_irrefl, decide_false, Bool.false_eq_true, if_false, List.drop_length, List.append_nil]
  rw [← ho, List.take_length]
 | succ k ih =>
  intro i hi o ho
  apply zdC
  have h1 : i < a.length := by omega
  have h2 : i < o.length := by omega
  simp only [zbw]
  rw [if_pos (by simpa using h1), zD h1, zE (by omega)]
  simp only [Option.bind_some, zaD, zkh a[i] (hx _ (List.getElem_mem h1))]
  rw [if_pos (by omega)]
  simp only [Option.bind_some, Int.toNat_natCast, List.getElem?_eq_getElem h2]
  rw [ih (i + 1) (by omega) _ (by simpa using ho)]
  rw [List.take_set, List.take_succ_eq_append_getElem h2, List.set_append_right _ _ (by simp; omega), List.drop_eq_getElem_cons h1]
  simp [Nat.min_eq_left (Nat.le_of_lt h2)]
theorem zjo (a : List TStep) (ha : a.length ≤ 1048576) (hx : ∀ x ∈ a, smP x) : zbb M a = some ((a, ()), ()) := by
 apply zgK
 simp only [zdt]
 rw [if_pos (by refine ⟨by omega, by omega, trivial⟩)]
 have := zgx a ha hx a.length 0 (by omega) (List.replicate a.length (0, [], [], [], ())) (by simp)
 simp only [Int.toNat_natCast]
 rw [show ((0 : Nat) : Int) = 0 from rfl] at this
 rw [this]
 simp
theorem zgF (a : List TStep) (ha : a.length ≤ 1048576) (hx : ∀ x ∈ a, smP x) : ∀ k i : Nat, i + k = a.length → za1 M a a i = some (.inl ()) := by
 intro k
 induction k with
 | zero =>
  intro i hi
  obtain rfl : i = a.length := by omega
  apply zdB
  simp only [zbC, Int.lt_irrefl, decide_false, Bool.false_eq_true, if_false]
 | succ k ih =>
  intro i hi
  apply zdB
  have h1 : i < a.length := by omega
  simp only [zbC]
  rw [if_pos (by simpa using h1), zD h1, zE (by omega)]
  simp only [Option.bind_some, zaD, zkp a[i] (hx _ (List.getElem_mem h1)), Bool.not_true, Bool.false_eq_true, if_false]
  exact ih (i + 1) (by omega)
theorem zjI (a : List TStep) (ha : a.length ≤ 1048576) (hx : ∀ x ∈ a, smP x) : zct M a a = some ((true, ()), ()) := by
 apply zgO
 simp only [zdf, bne_self_eq_false, Bool.false_eq_true, if_false]
 have := zgF a ha hx a.length 0 (by omega)
 rw [show ((0 : Nat) : Int) = 0 from rfl] at this
 rw [this]
 rfl
theorem zgH (a : List TStep) (ha : a.length ≤ 1048576) (hx : ∀ x ∈ a, wlP x) : ∀ (k i : Nat) (n : Int), i + k = a.length → 0 ≤ n → n ≤ 1048576 → (∀ x ∈ a.take i, smP x) →
  ∃ r, zaJ M a n i = some r ∧ (match r with | .inl y => 0 ≤ y.1 ∧ y.1 ≤ n ∧ ∀ x ∈ a, smP x | .inr y => y.1.1 = -1) := by
 intro k
 induction k with
 | zero =>
  intro i n hi h0 hn hs
  obtain rfl : i = a.length := by omega
  refine ⟨.inl (n, ()), zcb _ _ _ (by simp [zax]), h0, Int.le_refl _, by simpa using hs⟩
 | succ k ih =>
  intro i n hi h0 hn hs
  have h1 : i < a.length := by omega
  obtain ⟨m, hm, hm1, hm2⟩ := zks a[i] n h0 hn (hx _ (List.getElem_mem h1))
  by_cases hneg : m < 0
  ·refine ⟨.inr ((-1, ()), ()), zcb _ _ _ ?_, rfl⟩
   simp only [zax]
   rw [if_pos (by simpa using h1), zD h1]
   simp only [Option.bind_some, zaD, hm]
   rw [if_pos (by simpa using hneg)]
  ·obtain ⟨r, hr, hp⟩ := ih (i + 1) m (by omega) (by omega) (by omega) (by
    intro x hx'
    rw [List.take_succ_eq_append_getElem h1] at hx'
    rcases List.mem_append.1 hx' with h | h
    ·exact hs x h
    ·rw [List.mem_singleton.1 h]; exact hm2 (by omega))
   refine ⟨r, zcb _ _ _ ?_, ?_⟩
   ·simp only [zax]
    rw [if_pos (by simpa using h1), zD h1, zE (by omega)]
    simp only [Option.bind_some, zaD, hm]
    rw [if_neg (by simpa using hneg)]
    exact hr
   ·cases r with
    | inl y => exact ⟨hp.1, by have := hp.2.1; omega, hp.2.2⟩
    | inr y => exact hp
theorem zjP (a : List TStep) (n : Int) (hn : 0 ≤ n) (hn' : n ≤ 1048576) (ha : a.length ≤ 9223372036854775807) (hx : ∀ x ∈ a, wlP x) : ∃ r : Int, zcr M a n = some ((r, ()), ()) ∧ r ≤ n ∧ (0 ≤ r → a.length ≤ 1048576 ∧ ∀ x ∈ a, smP x) := by
 have hw : IntKind.i64.wrap (n - a.length) = n - a.length := w64 (by omega) (by omega)
 by_cases h1 : n - a.length < 0
 ·refine ⟨-1, zds _ _ ?_, by omega, by omega⟩
  simp only [zbP, hw]
  rw [if_pos (by simpa using h1)]
 ·obtain ⟨r, hr, hp⟩ := zgH a (by omega) hx a.length 0 (n - a.length) (by omega) (by omega) (by omega) (by simp)
  rw [show ((0 : Nat) : Int) = 0 from rfl] at hr
  cases r with
  | inl y =>
   refine ⟨y.1, zds _ _ ?_, by have := hp.2.1; omega, fun _ => ⟨by omega, hp.2.2⟩⟩
   simp only [zbP, hw]
   rw [if_neg (by simpa using h1), hr]
   rfl
  | inr y =>
   obtain ⟨⟨y, _⟩, _⟩ := y
   simp only at hp
   subst hp
   refine ⟨-1, zds _ _ ?_, by omega, by omega⟩
   simp only [zbP, hw]
   rw [if_neg (by simpa using h1), hr]
   rfl
end Go.Proofs.YtpdbffngomlleaaDoorPt.Ev
namespace Go.Proofs.YtpdbffngomlleaaDoorPt.Ev
open Go
set_option autoImplicit false
set_option linter.unusedVariables false
set_option linter.unusedSimpArgs false
theorem zfe (s : TSign) (a : List TStep) (hs : s.1.length ≤ 9223372036854775807) (hl : a.length ≤ 9223372036854775807) (hx : ∀ x ∈ a, wlP x) : zav M s a = some ((true, ()), ()) := by
 obtain ⟨r1, e1, g1, k1⟩ := zkv s 1048576 (by omega) (by omega) hs
 by_cases h1 : r1 < 0
 ·apply zbp
  simp only [zab, zl, e1, Option.bind_some]
  rw [if_pos (by simpa using h1)]
 ·obtain ⟨r2, e2, g2, k2⟩ := zjP a r1 (by omega) g1 hl hx
  by_cases h2 : r2 < 0
  ·apply zbp
   simp only [zab, zl, e1, e2, Option.bind_some]
   rw [if_neg (by simpa using h1), if_pos (by simpa using h2)]
  ·have hs' := k1 (by omega)
   obtain ⟨hl', hx'⟩ := k2 (by omega)
   obtain ⟨t1, t2⟩ := zhK s hs' a hl' hx'
   apply zbp
   simp only [zab, zl, e1, e2, Option.bind_some, zkq s (by omega), zjo a hl' hx', t1, t2, zkc s (by omega), zjI a hl' hx']
   rw [if_neg (by simpa using h1), if_neg (by simpa using h2)]
   simp
end Go.Proofs.YtpdbffngomlleaaDoorPt.Ev
