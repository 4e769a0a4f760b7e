/- Texts laid together: PAa, PAb, PW, PHo, PXa, PHa, PX, PBa, PB, PEb, PEg, PEc, VAa, VAc, VAb, QD, WAc, QE, QHa, QIa, QJa, QH, QKa, WAa; no condition but those that each theorem names. -/
import Derived.Test.YtenknihdnkiplaaGreatSsEq
namespace Go.Proofs.YtenknihdnkiplaaGreatSs.Ev
open Go
set_option autoImplicit false
set_option linter.unusedVariables false
set_option linter.unusedSimpArgs false
theorem w64 {x : Int} (h : -9223372036854775808 ≤ x) (k : x < 9223372036854775808) : IntKind.i64.wrap x = x := by
 rw [IntKind.wrap_i64]
 omega
theorem w8 {x : Int} (h : 0 ≤ x) (k : x < 256) : IntKind.u8.wrap x = x := by
 simp only [IntKind.wrap, IntKind.bits, IntKind.signed, Bool.false_and, Bool.false_eq_true, if_false]
 omega
theorem zyL {α : Type} (xs : List α) (i : Nat) : idx xs (i : Int) = xs[i]? := by simp [idx]
theorem zuo {α : Type} (xs : List α) : idx xs 0 = xs[0]? := by simp [idx]
theorem ze {α : Type} {xs : List α} {i : Nat} (h : i < xs.length) : idx xs (i : Int) = some xs[i] := by simp [idx, h]
theorem za {i : Nat} (h : i < 4611686018427387904) : IntKind.i64.wrap ((i : Int) + 1) = ((i + 1 : Nat) : Int) := by
 rw [w64 (by omega) (by omega)]; rfl
abbrev TSign := List Int × Unit
abbrev TLit := Bool × List Int × List Int × Unit
def smL (x : TLit) : Prop := x.2.1.length ≤ 1048576 ∧ x.2.2.1.length ≤ 1048576
end Go.Proofs.YtenknihdnkiplaaGreatSs.Ev
namespace Go.Proofs.YtenknihdnkiplaaGreatSs.Ev
open Go
set_option autoImplicit false
set_option linter.unusedVariables false
set_option linter.unusedSimpArgs false
theorem wu64 {x : Int} (h : 0 ≤ x) (k : x < 18446744073709551616) : IntKind.u64.wrap x = x := by
 simp only [IntKind.wrap, IntKind.bits, IntKind.signed, Bool.false_and, Bool.false_eq_true, if_false]
 omega
theorem zzK (x y : List Int) : bytesStr (x ++ y) = bytesStr x ++ bytesStr y := by simp [bytesStr]
theorem zzy (x : List Int) : (bytesStr x).length = x.length := by simp [bytesStr]
theorem zzV (n : Nat) : bytesStr [(n : Int)] = [UInt8.ofNat n] := by simp [bytesStr]
theorem zz8 (x : List UInt8) : bytesStr (strBytes x) = x := by
 induction x with
 | nil => rfl
 | cons b r ih => simp only [strBytes, bytesStr, List.map_cons] at ih ⊢; rw [ih]; simp
theorem zzz (x y : List UInt8) : strBytes (x ++ y) = strBytes x ++ strBytes y := by simp [strBytes]
theorem zz6 (x : List UInt8) : (strBytes x).length = x.length := by simp [strBytes]
theorem zzX {n : Nat} (h : n < 256) : strBytes [UInt8.ofNat n] = [(n : Int)] := by
 simp [strBytes]; omega
end Go.Proofs.YtenknihdnkiplaaGreatSs.Ev
namespace Go.Proofs.YtenknihdnkiplaaGreatSs.Ev
open Go
set_option autoImplicit false
set_option linter.unusedVariables false
set_option linter.unusedSimpArgs false
abbrev TCur := List Int × Int × Int × Unit
theorem zbK (c : TCur) : (c.1, c.2.1, c.2.2.1, ()) = c := rfl
def Cu (code : List Int) (j : Int) (c : TCur) : Prop := c.1 = code ∧ 0 ≤ c.2.1 ∧ c.2.1 ≤ j
def isBytes (code : List Int) : Prop := code.length ≤ 1048576 ∧ ∀ b ∈ code, 0 ≤ b ∧ b ≤ 255
theorem and255 (x : Int) : 0 ≤ bitsI .and .u64 x 255 ∧ bitsI .and .u64 x 255 ≤ 255 := by
 have h : (BitVec.ofInt 64 x &&& BitVec.ofInt 64 255).toNat ≤ 255 := by
  rw [BitVec.toNat_and]
  exact Nat.le_trans Nat.and_le_right (by decide)
 have e : bitsI .and .u64 x 255 = IntKind.u64.wrap (((BitVec.ofInt 64 x &&& BitVec.ofInt 64 255).toNat : Nat) : Int) := rfl
 rw [e, wu64 (by omega) (by omega)]
 omega
theorem zuB {code : List Int} (hb : isBytes code) {j : Int} (hj : j ≤ 1000000000) {c : TCur} (hc : Cu code j c) : ∃ x c', zcQ M c = some ((x, ()), (c', ())) ∧ 0 ≤ x ∧ x ≤ 255 ∧ Cu code (j + 1) c' := by
 obtain ⟨h1, h2, h3⟩ := hc
 have hin : IntKind.i64.wrap (c.2.1 + 1) = c.2.1 + 1 := w64 (by omega) (by omega)
 have tail : ∀ (x0 : Int), 0 ≤ x0 → x0 ≤ 255 → (∃ r : (Int × Unit) × (TCur × Unit), (if (decide ((IntKind.i64.wrap (c.2.1 + (1 : Int))) ≤ (List.length c.1 : Int))) = true then (some ((x0, ()), ((c.1, (IntKind.i64.wrap (c.2.1 + (1 : Int))), (IntKind.u64.wrap ((IntKind.u64.wrap ((IntKind.u64.wrap (c.2.2.1 * (6364136223846793005 : Int))) + (IntKind.u64.wrap x0))) + (1442695040888963407 : Int))), ()), ()))) else (if (40 : Int) < 0 then none else (some (((IntKind.i64.wrap (bitsI .and .u64 (shrI .u64 (IntKind.u64.wrap ((IntKind.u64.wrap ((IntKind.u64.wrap (c.2.2.1 * (6364136223846793005 : Int))) + (IntKind.u64.wrap x0))) + (1442695040888963407 : Int))) (40 : Int)) (255 : Int))), ()), ((c.1, (IntKind.i64.wrap (c.2.1 + (1 : Int))), (IntKind.u64.wrap ((IntKind.u64.wrap ((IntKind.u64.wrap (c.2.2.1 * (6364136223846793005 : Int))) + (IntKind.u64.wrap x0))) + (1442695040888963407 : Int))), ()), ()))))) = some r ∧ 0 ≤ r.1.1 ∧ r.1.1 ≤ 255 ∧ Cu code (j + 1) r.2.1) := by
  intro x0 g0 g1
  rw [hin]
  by_cases hq : c.2.1 + 1 ≤ (List.length c.1 : Int)
  ·rw [if_pos (by simpa using hq)]
   exact ⟨_, rfl, g0, g1, h1, by show 0 ≤ c.2.1 + 1; omega, by show c.2.1 + 1 ≤ j + 1; omega⟩
  ·rw [if_neg (by simpa using hq), if_neg (by omega)]
   have ha := and255 (shrI .u64 (IntKind.u64.wrap ((IntKind.u64.wrap ((IntKind.u64.wrap (c.2.2.1 * (6364136223846793005 : Int))) + (IntKind.u64.wrap x0))) + (1442695040888963407 : Int))) (40 : Int))
   refine ⟨_, rfl, ?_, ?_, h1, by show 0 ≤ c.2.1 + 1; omega, by show c.2.1 + 1 ≤ j + 1; omega⟩
   ·show 0 ≤ IntKind.i64.wrap _
    rw [w64 (by omega) (by omega)]; exact ha.1
   ·show IntKind.i64.wrap _ ≤ 255
    rw [w64 (by omega) (by omega)]; exact ha.2
 by_cases hl : c.2.1 < (List.length c.1 : Int)
 ·obtain ⟨m, hm⟩ : ∃ m : Nat, c.2.1 = (m : Int) := ⟨c.2.1.toNat, by omega⟩
  have hml : m < c.1.length := by omega
  have hbb := hb.2 (c.1[m]) (by rw [← h1]; exact List.getElem_mem hml)
  obtain ⟨r, r1, r2, r3, r4⟩ := tail c.1[m] hbb.1 hbb.2
  refine ⟨r.1.1, r.2.1, zlr _ ?_, r2, r3, r4⟩
  simp only [zgj]
  have hix : idx c.1 c.2.1 = some c.1[m] := by rw [hm, ze hml]
  rw [if_pos (by simpa using hl), hix]
  simp only [Option.bind_some]
  rw [w64 (x := c.1[m]) (by omega) (by omega)]
  simp only [Option.bind_some, Sum.elim_inl]
  exact r1
 ·obtain ⟨r, r1, r2, r3, r4⟩ := tail 0 (by omega) (by omega)
  refine ⟨r.1.1, r.2.1, zlr _ ?_, r2, r3, r4⟩
  simp only [zgj]
  rw [if_neg (by simpa using hl)]
  simp only [Option.bind_some, Sum.elim_inl]
  exact r1
theorem zuP {code : List Int} (hb : isBytes code) {j : Int} (hj : j ≤ 100000000) {c : TCur} (hc : Cu code j c) (n : Int) (hn : n ≤ 1000000000) : ∃ x c', zd M c n = some ((x, ()), (c', ())) ∧ 0 ≤ x ∧ (x < n ∨ x = 0) ∧ Cu code (j + 2) c' := by
 by_cases h1 : n ≤ 1
 ·refine ⟨0, c, zh7 _ _ ?_, by omega, .inr rfl, hc.1, hc.2.1, by have := hc.2.2; omega⟩
  simp only [zen]
  rw [if_pos (by simpa using h1)]
 ·obtain ⟨x, c', n1, n2, n3, n4⟩ := zuB hb (by omega) hc
  by_cases h2 : n > 200
  ·obtain ⟨y, c'', m1, m2, m3, m4⟩ := zuB hb (by omega) n4
   have hw : IntKind.i64.wrap (IntKind.i64.wrap (x * 256) + y) = x * 256 + y := by rw [w64 (x := x * 256) (by omega) (by omega), w64 (by omega) (by omega)]
   refine ⟨Int.tmod (x * 256 + y) n, c'', zh7 _ _ ?_, Int.tmod_nonneg _ (by omega), .inl (Int.tmod_lt_of_pos _ (by omega)), m4.1, m4.2.1, by have := m4.2.2; omega⟩
   simp only [zen]
   rw [if_neg (by simpa using h1), zbK, n1]
   simp only [Option.bind_some]
   rw [if_pos (by simpa using h2), zbK, m1]
   simp only [Option.bind_some, Sum.elim_inl]
   rw [if_neg (by omega), hw]
  ·refine ⟨Int.tmod x n, c', zh7 _ _ ?_, Int.tmod_nonneg _ (by omega), .inl (Int.tmod_lt_of_pos _ (by omega)), n4.1, n4.2.1, by have := n4.2.2; omega⟩
   simp only [zen]
   rw [if_neg (by simpa using h1), zbK, n1]
   simp only [Option.bind_some]
   rw [if_neg (by simpa using h2)]
   simp only [Option.bind_some, Sum.elim_inl]
   rw [if_neg (by omega)]
theorem zAa {code : List Int} (hb : isBytes code) {j : Int} (hj : j ≤ 100000000) {c : TCur} (hc : Cu code j c) (n : Int) (hn : n ≤ 1000000000) : ∃ x c', zai M c n = some ((x, ()), (c', ())) ∧ Cu code (j + 2) c' := by
 obtain ⟨x, c', n1, _, _, n4⟩ := zuP hb hj hc n hn
 refine ⟨x == 0, c', zqR _ _ ?_, n4⟩
 simp only [ziT, zbK, n1, Option.bind_some]
theorem cu0 (code : List Int) : Cu code 0 (code, 0, 0, ()) := ⟨rfl, Int.le_refl _, Int.le_refl _⟩
end Go.Proofs.YtenknihdnkiplaaGreatSs.Ev
namespace Go.Proofs.YtenknihdnkiplaaGreatSs.Ev
open Go
set_option autoImplicit false
set_option linter.unusedVariables false
set_option linter.unusedSimpArgs false
def Okk {α : Type} (P : α → Prop) (o : Option α) : Prop := ∃ x, o = some x ∧ P x
theorem Okk.pure {α : Type} {P : α → Prop} {x : α} (h : P x) : Okk P (some x) := ⟨x, rfl, h⟩
theorem Okk.bind {α β : Type} {P : α → Prop} {Q : β → Prop} {o : Option α} {f : α → Option β} (h : Okk P o) (k : ∀ x, P x → Okk Q (f x)) : Okk Q (o.bind f) := by
 obtain ⟨x, rfl, hx⟩ := h
 exact k x hx
theorem Okk.ite {α : Type} {P : α → Prop} {c : Prop} [Decidable c] {a b : Option α} (h : c → Okk P a) (k : ¬ c → Okk P b) : Okk P (if c then a else b) := by
 by_cases hc : c
 ·rw [if_pos hc]; exact h hc
 ·rw [if_neg hc]; exact k hc
theorem Okk.iteT {α : Type} {P : α → Prop} {c : Prop} [Decidable c] {a b : Option α} (hc : c) (h : Okk P a) : Okk P (if c then a else b) := by rw [if_pos hc]; exact h
theorem Okk.iteF {α : Type} {P : α → Prop} {c : Prop} [Decidable c] {a b : Option α} (hc : ¬ c) (h : Okk P b) : Okk P (if c then a else b) := by rw [if_neg hc]; exact h
theorem Okk.mono {α : Type} {P Q : α → Prop} {o : Option α} (h : Okk P o) (k : ∀ x, P x → Q x) : Okk Q o := by
 obtain ⟨x, hx, p⟩ := h
 exact ⟨x, hx, k x p⟩
theorem Okk.lift {α : Type} {P : α → Prop} {o c : Option α} (h : Okk P o) (k : ∀ {r}, o = some r → c = some r) : Okk P c := by
 obtain ⟨x, hx, p⟩ := h
 exact ⟨x, k hx, p⟩
theorem Okk.idx {α : Type} {l : List α} {i : Int} (h : 0 ≤ i) (k : i < l.length) : Okk (fun x => x ∈ l) (idx l i) := by
 obtain ⟨m, rfl⟩ : ∃ m : Nat, i = (m : Int) := ⟨i.toNat, by omega⟩
 have hm : m < l.length := by omega
 exact ⟨l[m], ze hm, List.getElem_mem hm⟩
theorem Okk.get {α : Type} {l : List α} {i : Nat} (k : i < l.length) : Okk (fun x => x ∈ l) (l[i]?) := ⟨l[i], by simp [k], List.getElem_mem k⟩
theorem Cu.mono {code : List Int} {i j : Int} {c : TCur} (h : Cu code i c) (k : i ≤ j) : Cu code j c := ⟨h.1, h.2.1, by have := h.2.2; omega⟩
section
variable {code : List Int} (hb : isBytes code) {j : Int} {c : TCur} (hc : Cu code j c)
include hb hc
theorem zAq (hj : j ≤ 1000000000) : Okk (fun r => 0 ≤ r.1.1 ∧ r.1.1 ≤ 255 ∧ Cu code (j + 1) r.2.1) (zcQ M c) := by
 obtain ⟨x, c', h, h1, h2, h3⟩ := zuB hb hj hc
 exact ⟨_, h, h1, h2, h3⟩
theorem zdR (n : Int) (hj : j ≤ 100000000) (hn : n ≤ 1000000000) : Okk (fun r => 0 ≤ r.1.1 ∧ (r.1.1 < n ∨ r.1.1 = 0) ∧ Cu code (j + 2) r.2.1) (zd M c n) := by
 obtain ⟨x, c', h, h1, h2, h3⟩ := zuP hb hj hc n hn
 exact ⟨_, h, h1, h2, h3⟩
theorem zlA (n : Int) (hj : j ≤ 100000000) (hn : n ≤ 1000000000) : Okk (fun r => Cu code (j + 2) r.2.1) (zai M c n) := by
 obtain ⟨x, c', h, h1⟩ := zAa hb hj hc n hn
 exact ⟨_, h, h1⟩
end
end Go.Proofs.YtenknihdnkiplaaGreatSs.Ev
namespace Go.Proofs.YtenknihdnkiplaaGreatSs.Ev
open Go
set_option autoImplicit false
set_option linter.unusedVariables false
set_option linter.unusedSimpArgs false
def SgD (a : List Int) : Prop := a.length ≤ 10 ∧ ∀ x ∈ a, 0 ≤ x ∧ x ≤ 3
theorem dec64 {x : Int} (h : -9223372036854775807 ≤ x) (k : x < 9223372036854775808) : IntKind.i64.wrap (x - 1) = x - 1 := w64 (by omega) (by omega)
section
variable {code : List Int} (hb : isBytes code)
include hb
theorem zxu {j : Int} (hj : j ≤ 1000000) {c : TCur} (hc : Cu code j c) : Okk (fun r => SgD r.1.1.1 ∧ Cu code (j + 2) r.2.1) (zeg M c) := by
 refine Okk.lift ?_ (zpP c)
 simp only [zic]
 refine Okk.bind (P := fun y => ∃ c' a, y = .inl (c', ([], ()), (a, ()), ()) ∧ SgD a ∧ Cu code (j + 2) c') ?_ ?_
 ·refine Okk.bind (zdR hb hc 40 (by omega) (by omega)) ?_
  rintro ⟨⟨x, ⟨⟩⟩, ⟨c', ⟨⟩⟩⟩ ⟨_, _, h⟩
  refine Okk.ite (fun _ => .pure ⟨c', _, rfl, by simp [SgD], h⟩) fun _ => Okk.ite (fun _ => .pure ⟨c', _, rfl, by simp [SgD], h⟩) fun _ => Okk.ite (fun _ => .pure ⟨c', _, rfl, by simp [SgD], h⟩) fun _ => .pure ⟨c', _, rfl, by simp [SgD], h⟩
 ·rintro _ ⟨c', a, rfl, h1, h2⟩
  exact .pure ⟨h1, h2⟩
theorem zp1 {a : List Int} (ha : SgD a) (vars : Int) (hv : vars ≤ 1000) (deep : Int) {j : Int} (hj : j ≤ 1000000) {c : TCur} (hc : Cu code j c) (N : Nat) (hN : 1 ≤ N) (K : Int) (hK : j + 6 ≤ K)
  (hL : 1 < deep → ∀ (n v : Int) (c4 : TCur), 0 ≤ v → v ≤ 3 → Cu code (j + 6) c4 → Okk (fun y => ∃ (c5 : TCur) (t : List Int), y = .inl (c5, t, ()) ∧ 0 < t.length ∧ t.length ≤ N ∧ Cu code K c5) (zM M c4 deep vars (a, ()) [n] v)) :
  Okk (fun r => r.1.1.length ≤ N ∧ 0 < r.1.1.length ∧ Cu code K r.2.1) (zbS M c (a, ()) deep vars) := by
 refine Okk.lift ?_ (zpK c (a, ()) deep vars)
 simp only [zia, zbK]
 have hal := ha.1
 refine Okk.ite (fun _ => .pure ⟨hN, by simp, hc.mono (by omega)⟩) fun h0 => ?_
 have hpos : 0 < a.length := by simp at h0; exact List.length_pos_iff.2 h0
 have A : ∀ (x : Int) (c3 : TCur), 0 ≤ x → (x < (a.length : Int) ∨ x = 0) → Cu code (j + 4) c3 → Okk (fun y => ∃ (c4 : TCur) (n : Int), y = .inl (c4, deep, vars, (a, ()), n, ()) ∧ 0 ≤ n ∧ n < a.length ∧ Cu code (j + 6) c4) ((((idx a x).bind fun x5 => (if (decide (x5 > (0 : Int))) = true then (if (decide (deep ≤ (1 : Int))) = true then ((zd M c3 (List.length a : Int)).bind fun r6 => (if (2 : Int) = 0 then none else (some (.inl ((r6.2.1.1, r6.2.1.2.1, r6.2.1.2.2.1, ()), deep, vars, (a, ()), (IntKind.i64.wrap (Int.tdiv r6.1.1 (2 : Int))), ()))))) else (some (.inl (c3, deep, vars, (a, ()), x, ())))) else (some (.inl (c3, deep, vars, (a, ()), x, ()))))) : Option ((((List Int) × Int × Int × Unit) × Int × Int × ((List Int) × Unit) × Int × Unit) ⊕ ((List Int) × Unit) × (((List Int) × Int × Int × Unit) × Unit)))) := by
  intro x c3 hx0 hx1 hc3
  refine Okk.bind (Okk.idx hx0 (by omega)) fun y hy => ?_
  refine Okk.ite (fun _ => Okk.ite (fun _ => ?_) fun _ => .pure ⟨c3, x, rfl, hx0, by omega, hc3.mono (by omega)⟩) fun _ => .pure ⟨c3, x, rfl, hx0, by omega, hc3.mono (by omega)⟩
  refine Okk.bind (zdR hb hc3 _ (by omega) (by omega)) ?_
  rintro ⟨⟨z, ⟨⟩⟩, ⟨c4, ⟨⟩⟩⟩ ⟨h1, h2, h3⟩
  simp only at h1 h2 h3
  have h5 := Int.tdiv_nonneg h1 (show (0 : Int) ≤ 2 by omega)
  have h6 : Int.tdiv z 2 ≤ z := by rw [Int.tdiv_eq_ediv_of_nonneg h1]; omega
  refine Okk.iteF (by omega) (.pure ⟨c4, _, rfl, ?_, ?_, h3.mono (by omega)⟩)
  ·simp only; rw [w64 (by omega) (by omega)]; exact h5
  ·simp only; rw [w64 (by omega) (by omega)]; omega
 have B : ∀ (n : Int) (c4 : TCur), 0 ≤ n → n < (a.length : Int) → Cu code (j + 6) c4 → Okk (fun r : ((List Int) × Unit) × (TCur × Unit) => r.1.1.length ≤ N ∧ 0 < r.1.1.length ∧ Cu code K r.2.1) ((idx a n).bind fun x7 => (if (decide (x7 > (0 : Int))) = true then (if (decide (deep ≤ (1 : Int))) = true then (some ((([(0 : Int)] : List Int), ()), (c4, ()))) else ((idx a n).bind fun x8 => ((zM M c4 deep vars (a, ()) ([n] : List Int) x8).bind (Sum.elim (fun y9 => (some ((y9.2.1, ()), ((y9.1.1, y9.1.2.1, y9.1.2.2.1, ()), ())))) (fun r10 => (some r10)))))) else ((idx a n).bind fun x11 => ((zM M c4 deep vars (a, ()) ([n] : List Int) x11).bind (Sum.elim (fun y12 => (some ((y12.2.1, ()), ((y12.1.1, y12.1.2.1, y12.1.2.2.1, ()), ())))) (fun r13 => (some r13))))))) := by
  intro n c4 hn0 hn1 hc4
  obtain ⟨v, hv1, hv2⟩ := Okk.idx (l := a) hn0 hn1
  rw [hv1]
  simp only [Option.bind_some]
  have := ha.2 v hv2
  refine Okk.ite (fun hv3 => ?_) fun hv3 => ?_
  ·refine Okk.ite (fun _ => .pure ⟨hN, by simp, hc4.mono (by omega)⟩) fun hd => ?_
   refine Okk.bind (hL (by simp at hd; omega) n v c4 (by omega) (by omega) hc4) ?_
   rintro _ ⟨c5, t, rfl, t1, t2, t3⟩
   exact .pure ⟨t2, t1, t3⟩
  ·obtain rfl : v = 0 := by simp at hv3; omega
   have hl : zM M c4 deep vars (a, ()) [n] 0 = some (.inl (c4, [n], ())) := by
    apply zft
    simp [zbR, zbK]
   rw [hl]
   exact .pure ⟨hN, by simp, hc4.mono (by omega)⟩
 refine Okk.ite (fun _ => ?_) fun _ => ?_
 ·refine Okk.bind (zlA hb hc 3 (by omega) (by omega)) ?_
  rintro ⟨⟨x, ⟨⟩⟩, ⟨c2, ⟨⟩⟩⟩ h2
  refine Okk.ite (fun _ => ?_) fun _ => ?_
  ·refine Okk.bind (zdR hb h2 vars (by omega) (by omega)) ?_
   rintro ⟨⟨y, ⟨⟩⟩, ⟨c3, ⟨⟩⟩⟩ ⟨_, _, h3⟩
   exact .pure ⟨hN, by simp, h3.mono (by omega)⟩
  ·refine Okk.bind (zdR hb h2 _ (by omega) (by omega)) ?_
   rintro ⟨⟨y, ⟨⟩⟩, ⟨c3, ⟨⟩⟩⟩ ⟨g1, g2, h3⟩
   refine Okk.bind (A y c3 g1 g2 (h3.mono (by omega))) ?_
   rintro _ ⟨c4, n, rfl, k1, k2, k3⟩
   exact B n c4 k1 k2 k3
 ·refine Okk.bind (zdR hb hc _ (by omega) (by omega)) ?_
  rintro ⟨⟨y, ⟨⟩⟩, ⟨c3, ⟨⟩⟩⟩ ⟨g1, g2, h3⟩
  refine Okk.bind (A y c3 g1 g2 (h3.mono (by omega))) ?_
  rintro _ ⟨c4, n, rfl, k1, k2, k3⟩
  exact B n c4 k1 k2 k3
def dl : Nat → Nat
 | 0 => 1
 | d + 1 => 1 + 3 * dl d
def dk : Nat → Int
 | 0 => 6
 | d + 1 => 6 + 3 * dk d
omit hb in
theorem zzR (d : Nat) : 1 ≤ dl d := by cases d <;> simp [dl]
omit hb in
theorem zz3 (d : Nat) : 6 ≤ dk d := by
 induction d with
 | zero => simp [dk]
 | succ d ih => simp [dk]; omega
theorem zwW {a : List Int} (ha : SgD a) (vars : Int) (hv : vars ≤ 1000) : ∀ (d : Nat) (deep : Int) (j : Int) (c : TCur), deep ≤ (d : Int) + 1 → d ≤ 5 → j + dk d ≤ 200000 → Cu code j c → Okk (fun r => r.1.1.length ≤ dl d ∧ 0 < r.1.1.length ∧ Cu code (j + dk d) r.2.1) (zbS M c (a, ()) deep vars) := by
 intro d
 induction d with
 | zero =>
  intro deep j c hd _ hj hc
  simp only [dk] at hj
  exact zp1 hb ha vars hv deep (by omega) hc 1 (by omega) (j + 6) (by omega) (fun h => by omega)
 | succ d ih =>
  intro deep j c hd hd5 hj hc
  have hdl : dl d ≤ 1000 := by
   have : d ≤ 4 := by omega
   rcases d with _ | _ | _ | _ | _ | d <;> first | (simp [dl]; done) | omega
  have hdk : dk d ≤ 10000 := by
   rcases d with _ | _ | _ | _ | _ | d <;> first | (simp [dk]; done) | omega
  have hp := zz3 d
  simp only [dk] at hj
  have loop : 1 < deep → ∀ (k : Nat) (out : List Int) (j' : Int) (c4 : TCur), k ≤ 3 → 0 < out.length → out.length + k * dl d ≤ 10000 → j' + k * dk d ≤ j + 6 + 3 * dk d → Cu code j' c4 → Okk (fun y => ∃ (c5 : TCur) (t : List Int), y = .inl (c5, t, ()) ∧ 0 < t.length ∧ t.length ≤ out.length + k * dl d ∧ Cu code (j' + k * dk d) c5) (zM M c4 deep vars (a, ()) out (k : Int)) := by
   intro hdeep k
   induction k with
   | zero =>
    intro out j' c4 _ h0 _ _ hc4
    refine Okk.lift ?_ (zft _ _ _ _ _ _)
    simp only [zbR, zbK]
    refine Okk.iteF (by simp) (.pure ⟨c4, out, rfl, h0, by omega, hc4.mono (by simp)⟩)
   | succ k ihk =>
    intro out j' c4 hk h0 ho hj2 hc4
    have e1 : ((k + 1 : Nat) : Int) * dk d = k * dk d + dk d := by rw [Int.natCast_add, Int.add_mul]; simp
    have e2 : (k + 1) * dl d = k * dl d + dl d := by rw [Nat.add_mul]; simp
    have e3 : 0 ≤ (k : Int) * dk d := Int.mul_nonneg (by omega) (by omega)
    rw [e1] at hj2
    rw [e2] at ho
    refine Okk.lift ?_ (zft _ _ _ _ _ _)
    simp only [zbR, zbK]
    refine Okk.iteT (by simp <;> omega) ?_
    rw [dec64 (x := deep) (by omega) (by omega), dec64 (x := ((k + 1 : Nat) : Int)) (by omega) (by omega), show ((k + 1 : Nat) : Int) - 1 = (k : Int) by omega]
    refine Okk.bind (ih (deep - 1) j' c4 (by omega) (by omega) (by omega) hc4) ?_
    rintro ⟨⟨t, ⟨⟩⟩, ⟨c5, ⟨⟩⟩⟩ ⟨g1, g2, g3⟩
    simp only at g1 g2 g3
    refine Okk.iteT (by simp only; omega) ?_
    refine Okk.mono (ihk (out ++ t) (j' + dk d) c5 (by omega) (by simp; omega) (by rw [List.length_append]; omega) (by omega) g3) ?_
    rintro _ ⟨c6, t', rfl, h1, h2, h3⟩
    refine ⟨c6, t', rfl, h1, ?_, h3.mono (by rw [e1]; omega)⟩
    rw [List.length_append] at h2
    rw [e2]; omega
  refine zp1 hb ha vars hv deep (by omega) hc (dl (d + 1)) (zzR _) (j + dk (d + 1)) (by simp only [dk]; omega) ?_
  intro hdeep n v c4 hv0 hv3 hc4
  obtain ⟨k, rfl⟩ : ∃ m : Nat, v = (m : Int) := ⟨v.toNat, by omega⟩
  have e4 : (k : Int) * dk d ≤ 3 * dk d := Int.mul_le_mul_of_nonneg_right (by omega) (by omega)
  have e5 : k * dl d ≤ 3 * dl d := Nat.mul_le_mul_right _ (by omega)
  refine Okk.mono (loop hdeep k [n] (j + 6) c4 (by omega) (by simp) (by simp only [List.length_cons, List.length_nil]; omega) (by omega) hc4) ?_
  rintro _ ⟨c6, t', rfl, h1, h2, h3⟩
  refine ⟨c6, t', rfl, h1, ?_, h3.mono (by simp only [dk]; omega)⟩
  simp only [List.length_cons, List.length_nil] at h2
  simp only [dl]; omega
end
end Go.Proofs.YtenknihdnkiplaaGreatSs.Ev
namespace Go.Proofs.YtenknihdnkiplaaGreatSs.Ev
open Go
set_option autoImplicit false
set_option linter.unusedVariables false
set_option linter.unusedSimpArgs false
theorem zzg {code : List Int} (hb : isBytes code) {j : Int} (hj : j ≤ 100000000) {c : TCur} (hc : Cu code j c) (l : List Int) (hl : l.length ≤ 1000000) (hl0 : 0 < l.length) : ∃ x c', zdG M c l = some ((x, ()), (c', ())) ∧ x ∈ l ∧ Cu code (j + 2) c' := by
 obtain ⟨x, c', n1, n2, n3, n4⟩ := zuP hb hj hc l.length (by omega)
 obtain ⟨m, rfl⟩ : ∃ m : Nat, x = (m : Int) := ⟨x.toNat, by omega⟩
 have hm : m < l.length := by omega
 refine ⟨l[m], c', zoR _ _ ?_, List.getElem_mem hm, n4⟩
 simp only [zhI, zbK, n1, Option.bind_some]
 rw [ze hm]
 rfl
section
variable {code : List Int} (hb : isBytes code) {j : Int} {c : TCur} (hc : Cu code j c)
include hb hc
theorem zyY (l : List Int) (hj : j ≤ 100000000) (hl : l.length ≤ 1000000) (hl0 : 0 < l.length) : Okk (fun r => r.1.1 ∈ l ∧ Cu code (j + 2) r.2.1) (zdG M c l) := by
 obtain ⟨x, c', h, h1, h2⟩ := zzg hb hj hc l hl hl0
 exact ⟨_, h, h1, h2⟩
end
end Go.Proofs.YtenknihdnkiplaaGreatSs.Ev
namespace Go.Proofs.YtenknihdnkiplaaGreatSs.Ev
open Go
set_option autoImplicit false
set_option linter.unusedVariables false
set_option linter.unusedSimpArgs false
section
variable {code : List Int} (hb : isBytes code)
include hb
def liD (x : TLit) : Prop := x.2.1.length ≤ 100 ∧ x.2.2.1.length ≤ 100
theorem zyF {a : List Int} (ha : SgD a) {j : Int} (hj : j ≤ 90000) {c : TCur} (hc : Cu code j c) : Okk (fun r => liD r.1.1 ∧ Cu code (j + 1000) r.2.1) (ze7 M c (a, ())) := by
 refine Okk.lift ?_ (zqH c (a, ()))
 simp only [ziQ, zbK]
 refine Okk.bind (zlA hb hc 3 (by omega) (by omega)) ?_
 rintro ⟨⟨b, ⟨⟩⟩, ⟨c1, ⟨⟩⟩⟩ h1
 refine Okk.bind (zdR hb h1 3 (by omega) (by omega)) ?_
 rintro ⟨⟨n, ⟨⟩⟩, ⟨c2, ⟨⟩⟩⟩ ⟨n1, n2, h2⟩
 simp only at n1 n2 h2
 refine Okk.bind (zwW hb ha 3 (by omega) 3 (IntKind.i64.wrap (1 + n)) (j + 4) c2 (by rw [w64 (by omega) (by omega)]; omega) (by omega) (by simp only [dk]; omega) (h2.mono (by omega))) ?_
 rintro ⟨⟨t, ⟨⟩⟩, ⟨c3, ⟨⟩⟩⟩ ⟨t1, _, h3⟩
 simp only [dl, dk] at t1 h3
 refine Okk.bind (zdR hb h3 2 (by omega) (by omega)) ?_
 rintro ⟨⟨m, ⟨⟩⟩, ⟨c4, ⟨⟩⟩⟩ ⟨m1, m2, h4⟩
 simp only at m1 m2 h4
 refine Okk.bind (zwW hb ha 3 (by omega) 3 (IntKind.i64.wrap (1 + m)) (j + 400) c4 (by rw [w64 (by omega) (by omega)]; omega) (by omega) (by simp only [dk]; omega) (h4.mono (by omega))) ?_
 rintro ⟨⟨u, ⟨⟩⟩, ⟨c5, ⟨⟩⟩⟩ ⟨u1, _, h5⟩
 simp only [dl, dk] at u1 h5
 refine Okk.bind (P := fun y => ∃ (c' : TCur) (z x : TLit), y = .inl (c', z, x, ()) ∧ liD x ∧ Cu code (j + 1000) c') ?_ ?_
 ·refine Okk.bind (zlA hb h5 3 (by omega) (by omega)) ?_
  rintro ⟨⟨b2, ⟨⟩⟩, ⟨c6, ⟨⟩⟩⟩ h6
  refine Okk.ite (fun _ => .pure ⟨c6, _, _, rfl, ⟨by simp only; omega, by simp⟩, h6.mono (by omega)⟩) fun _ => .pure ⟨c6, _, _, rfl, ⟨by simp only; omega, by simp only; omega⟩, h6.mono (by omega)⟩
 ·rintro _ ⟨c', z, x, rfl, h1, h2⟩
  exact .pure ⟨h1, h2⟩
theorem ztn {a : List Int} (ha : SgD a) : ∀ (k : Nat) (j : Int) (c : TCur) (out : List TLit), k ≤ 20 → out.length + k ≤ 20 → j + 1000 * k ≤ 90000 → (∀ x ∈ out, liD x) → Cu code j c → Okk (fun y => ∃ (c' : TCur) (o : List TLit), y = .inl (c', (a, ()), o, ()) ∧ o.length = out.length + k ∧ (∀ x ∈ o, liD x) ∧ Cu code (j + 1000 * k) c') (zb3 M c (a, ()) out (k : Int)) := by
 intro k
 induction k with
 | zero =>
  intro j c out _ _ _ hx hc
  refine Okk.lift ?_ (zh6 _ _ _ _)
  simp only [zcW, zbK]
  exact Okk.iteF (by simp) (.pure ⟨c, out, rfl, by simp, hx, by simpa using hc⟩)
 | succ k ih =>
  intro j c out hk ho hj hx hc
  refine Okk.lift ?_ (zh6 _ _ _ _)
  simp only [zcW, zbK]
  refine Okk.iteT (by simp <;> omega) ?_
  rw [dec64 (by omega) (by omega), show ((k + 1 : Nat) : Int) - 1 = (k : Int) by omega]
  refine Okk.bind (zyF hb ha (by omega) hc) ?_
  rintro ⟨⟨x, ⟨⟩⟩, ⟨c1, ⟨⟩⟩⟩ ⟨h1, h2⟩
  refine Okk.iteT (by simp only [List.length_cons, List.length_nil]; omega) ?_
  ·refine Okk.mono (ih (j + 1000) c1 (out ++ [x]) (by omega) (by simp; omega) (by omega) ?_ h2) ?_
   ·intro y hy
    simp only [List.mem_append, List.mem_singleton] at hy
    rcases hy with hy | rfl
    ·exact hx y hy
    ·exact h1
   ·rintro _ ⟨c', o, rfl, g1, g2, g3⟩
    exact ⟨c', o, rfl, by rw [g1, List.length_append]; simp only [List.length_cons, List.length_nil]; omega, g2, g3.mono (by omega)⟩
theorem zs6 {a : List Int} (ha : SgD a) : ∀ (k : Nat) (j : Int) (c : TCur) (out : List TLit), out.length + k = 9 → j + 1010 * (k + 1) ≤ 90000 → (∀ x ∈ out, liD x) → Cu code j c → Okk (fun y => ∃ (c' : TCur) (o : List TLit), y = .inl (c', o, ()) ∧ o.length ≤ 9 ∧ (∀ x ∈ o, liD x) ∧ Cu code (j + 1010 * (k + 1)) c') (zbH M c (a, ()) out) := by
 intro k
 induction k with
 | zero =>
  intro j c out ho hj hx hc
  refine Okk.lift ?_ (zhw _ _ _)
  simp only [zcu, zbK]
  refine Okk.bind (zdR hb hc 2 (by omega) (by omega)) ?_
  rintro ⟨⟨n, ⟨⟩⟩, ⟨c1, ⟨⟩⟩⟩ ⟨n1, n2, h1⟩
  simp only at n1 n2 h1
  simp only [w64 (x := 8 + n) (by omega) (by omega)]
  exact Okk.iteF (by simp; omega) (.pure ⟨c1, out, rfl, by omega, hx, h1.mono (by omega)⟩)
 | succ k ih =>
  intro j c out ho hj hx hc
  refine Okk.lift ?_ (zhw _ _ _)
  simp only [zcu, zbK]
  refine Okk.bind (zdR hb hc 2 (by omega) (by omega)) ?_
  rintro ⟨⟨n, ⟨⟩⟩, ⟨c1, ⟨⟩⟩⟩ ⟨n1, n2, h1⟩
  simp only at n1 n2 h1
  refine Okk.ite (fun _ => ?_) fun _ => .pure ⟨c1, out, rfl, by omega, hx, h1.mono (by omega)⟩
  refine Okk.bind (zyF hb ha (by omega) h1) ?_
  rintro ⟨⟨x, ⟨⟩⟩, ⟨c2, ⟨⟩⟩⟩ ⟨g1, g2⟩
  refine Okk.iteT (by simp only [List.length_cons, List.length_nil]; omega) ?_
  refine Okk.mono (ih (j + 1002) c2 (out ++ [x]) (by simp; omega) (by omega) ?_ (g2.mono (by omega))) ?_
  ·intro y hy
   simp only [List.mem_append, List.mem_singleton] at hy
   rcases hy with hy | rfl
   ·exact hx y hy
   ·exact g1
  ·rintro _ ⟨c', o, rfl, k1, k2, k3⟩
   exact ⟨c', o, rfl, k1, k2, k3.mono (by omega)⟩
theorem ztB {a : List Int} (ha : SgD a) {j : Int} (hj : j ≤ 70000) {c : TCur} (hc : Cu code j c) : Okk (fun r => r.1.1.length ≤ 9 ∧ (∀ x ∈ r.1.1, liD x) ∧ Cu code (j + 20000) r.2.1) (zdc M c (a, ())) := by
 refine Okk.lift ?_ (zoA c (a, ()))
 simp only [zhk, zbK]
 refine Okk.bind (zyY hb hc [0, 1, 1, 1, 2, 2, 3] (by omega) (by simp) (by simp)) ?_
 rintro ⟨⟨n, ⟨⟩⟩, ⟨c1, ⟨⟩⟩⟩ ⟨n1, h1⟩
 simp only at n1 h1
 obtain ⟨k, rfl, hk⟩ : ∃ m : Nat, n = (m : Int) ∧ m ≤ 3 := ⟨n.toNat, by simp at n1; omega, by simp at n1; omega⟩
 refine Okk.bind (ztn hb ha k (j + 2) c1 [] (by omega) (by simp; omega) (by omega) (by simp) h1) ?_
 rintro _ ⟨c2, o, rfl, o1, o2, h2⟩
 simp only [List.length_nil, Nat.zero_add] at o1
 simp only [Sum.elim_inl]
 refine Okk.bind (P := fun y => ∃ (c' : TCur) (o : List TLit), y = .inl (c', (a, ()), o, ()) ∧ o.length ≤ 4 ∧ (∀ x ∈ o, liD x) ∧ Cu code (j + 3010) c') ?_ ?_
 ·refine Okk.ite (fun ho => ?_) fun _ => .pure ⟨c2, o, rfl, by omega, o2, h2.mono (by omega)⟩
  refine Okk.bind (zlA hb h2 6 (by omega) (by omega)) ?_
  rintro ⟨⟨b, ⟨⟩⟩, ⟨c3, ⟨⟩⟩⟩ h3
  refine Okk.ite (fun _ => ?_) fun _ => .pure ⟨c3, o, rfl, by omega, o2, h3.mono (by omega)⟩
  refine Okk.bind (zdR hb h3 _ (by omega) (by omega)) ?_
  rintro ⟨⟨i, ⟨⟩⟩, ⟨c4, ⟨⟩⟩⟩ ⟨i1, i2, h4⟩
  simp only at i1 i2 h4
  simp only [decide_eq_true_eq] at ho
  refine Okk.iteT (by simp only; omega) ?_
  refine Okk.bind (Okk.get (by simp only; omega)) fun x hx => ?_
  refine Okk.bind (zlA hb h4 3 (by omega) (by omega)) ?_
  rintro ⟨⟨b2, ⟨⟩⟩, ⟨c5, ⟨⟩⟩⟩ h5
  refine Okk.iteT (by simp only [List.length_cons, List.length_nil]; omega) (.pure ⟨c5, _, rfl, by simp; omega, ?_, h5.mono (by omega)⟩)
  intro y hy
  simp only [List.mem_append, List.mem_singleton] at hy
  have hxl := o2 x hx
  rcases hy with hy | rfl
  ·exact o2 y hy
  ·exact ⟨hxl.2, hxl.1⟩
 ·rintro _ ⟨c3, o', rfl, q1, q2, h3⟩
  simp only [Sum.elim_inl]
  refine Okk.bind (P := fun y => ∃ (c' : TCur) (o : List TLit), y = .inl (c', (a, ()), o, ()) ∧ o.length ≤ 4 ∧ (∀ x ∈ o, liD x) ∧ Cu code (j + 3020) c') ?_ ?_
  ·refine Okk.ite (fun ho => ?_) fun _ => .pure ⟨c3, o', rfl, by omega, q2, h3.mono (by omega)⟩
   refine Okk.bind (zlA hb h3 12 (by omega) (by omega)) ?_
   rintro ⟨⟨b, ⟨⟩⟩, ⟨c4, ⟨⟩⟩⟩ h4
   simp only [decide_eq_true_eq] at ho
   refine Okk.ite (fun _ => ?_) fun _ => .pure ⟨c4, o', rfl, by omega, q2, h4.mono (by omega)⟩
   refine Okk.iteT (by omega) ?_
   refine Okk.bind (Okk.get (by simp only [Int.toNat_zero]; omega)) fun x hx => ?_
   refine Okk.iteT (by omega) ?_
   refine Okk.bind (Okk.get (by simp only [Int.toNat_zero]; omega)) fun y hy => ?_
   refine .pure ⟨c4, _, rfl, by simp; omega, ?_, h4.mono (by omega)⟩
   intro z hz
   rcases List.mem_or_eq_of_mem_set hz with hz | rfl
   ·exact q2 z hz
   ·exact ⟨(q2 y hy).1, (q2 x hx).1⟩
  ·rintro _ ⟨c4, o'', rfl, q3, q4, h4⟩
   simp only [Sum.elim_inl]
   refine Okk.bind (P := fun y => ∃ (c' : TCur) (o : List TLit), y = .inl (c', o, ()) ∧ o.length ≤ 9 ∧ (∀ x ∈ o, liD x) ∧ Cu code (j + 20000) c') ?_ ?_
   ·refine Okk.bind (zdR hb h4 60 (by omega) (by omega)) ?_
    rintro ⟨⟨i, ⟨⟩⟩, ⟨c5, ⟨⟩⟩⟩ ⟨_, _, h5⟩
    simp only at h5
    refine Okk.ite (fun _ => ?_) fun _ => Okk.ite (fun _ => ?_) fun _ => .pure ⟨c5, o'', rfl, by omega, q4, h5.mono (by omega)⟩
    ·refine Okk.bind (zs6 hb ha (9 - o''.length) (j + 3022) c5 o'' (by omega) (by omega) q4 (h5.mono (by omega))) ?_
     rintro _ ⟨c6, o3, rfl, r1, r2, h6⟩
     exact .pure ⟨c6, o3, rfl, r1, r2, h6.mono (by omega)⟩
    ·refine Okk.iteT (by simp only [List.length_cons, List.length_nil]; omega) (.pure ⟨c5, _, rfl, by simp; omega, ?_, h5.mono (by omega)⟩)
     intro y hy
     simp only [List.mem_append, List.mem_singleton] at hy
     rcases hy with hy | rfl
     ·exact q4 y hy
     ·exact ⟨by simp, by simp⟩
   ·rintro _ ⟨c6, o3, rfl, r1, r2, h6⟩
    exact .pure ⟨r1, r2, h6⟩
end
end Go.Proofs.YtenknihdnkiplaaGreatSs.Ev
namespace Go.Proofs.YtenknihdnkiplaaGreatSs.Ev
open Go
set_option autoImplicit false
set_option linter.unusedVariables false
set_option linter.unusedSimpArgs false
theorem zkB (x lo hi : Int) : zb6 M x lo hi = some ((decide (lo ≤ x) && decide (x ≤ hi), ()), ()) := by
 apply zvc
 simp only [zmN, decide_eq_true_eq]
 by_cases h : x ≥ lo
 ·rw [if_pos h]; simp [h]
 ·rw [if_neg h]; simp; omega
theorem zuD (a : List Int) (lo up : Int) (ha : a.length ≤ 17592186044416) : ∀ k i : Nat, i + k = a.length → zfO M lo up a a.length i = some (if (a.drop i).all (fun x => decide (lo ≤ x) && decide (x ≤ up)) = true then .inl () else .inr ((false, ()), ())) := by
 intro k
 induction k with
 | zero =>
  intro i hi
  obtain rfl : i = a.length := by omega
  apply zmj
  simp [zgI]
 | succ k ih =>
  intro i hi
  apply zmj
  have h1 : i < a.length := by omega
  simp only [zgI]
  rw [if_pos (by simpa using h1), ze h1, za (by omega)]
  simp only [Option.bind_some, zkB, ih (i + 1) (by omega)]
  rw [List.drop_eq_getElem_cons h1, List.all_cons]
  generalize (decide (lo ≤ a[i]) && decide (a[i] ≤ up)) = b
  cases b <;> rfl
theorem zzm (a : List Int) (lo hi : Int) (ha : a.length ≤ 17592186044416) : zjj M a lo hi = some ((a.all (fun x => decide (lo ≤ x) && decide (x ≤ hi)), ()), ()) := by
 apply ztZ
 simp only [zmb]
 have := zuD a lo hi ha a.length 0 (by omega)
 rw [show ((0 : Nat) : Int) = 0 from rfl] at this
 rw [this, List.drop_zero]
 cases a.all (fun x => decide (lo ≤ x) && decide (x ≤ hi)) <;> simp
def gS (a : List Int) : Bool := decide (1 ≤ a.length) && (decide (a.length ≤ 10) && (a.all (fun x => decide (0 ≤ x) && decide (x ≤ 3)) && decide (a[0]? = some 0)))
theorem zrC (s : TSign) (ha : s.1.length ≤ 17592186044416) : zhz M s = some ((gS s.1, ()), ()) := by
 apply zrq
 simp only [zjw, zkB, zzm s.1 0 3 ha, Option.bind_some, gS]
 rcases hs : s.1 with _ | ⟨x, r⟩
 ·simp
 ·rw [zuo]
  simp only [List.length_cons, List.getElem?_cons_zero, Option.bind_some]
  by_cases h : r.length + 1 ≤ 10
  ·rw [if_pos (by simp; omega)]
   cases (x :: r).all (fun x => decide (0 ≤ x) && decide (x ≤ 3)) <;> simp [h]
   rw [Bool.eq_iff_iff]; simp
  ·rw [if_neg (by simp; omega)]
   simp [h]
theorem zyC (x : Int) : zgl M x = some ((!(decide (0 ≤ x) && decide (x ≤ 3)), ()), ()) := by
 apply zpC
 simp only [zid, decide_eq_true_eq]
 by_cases h : x < 0
 ·rw [if_pos h]; simp; omega
 ·rw [if_neg h]
  have h0 : 0 ≤ x := by omega
  rw [decide_eq_true h0, Bool.true_and]
  by_cases h3 : x ≤ 3
  ·rw [decide_eq_true h3, decide_eq_false (by omega)]; rfl
  ·rw [decide_eq_false h3, decide_eq_true (by omega)]; rfl
theorem ztE (a : List Int) (ha : a.length ≤ 17592186044416) : ∀ k i : Nat, i + k = a.length → ∃ r, zR M a () a.length i = some r ∧ (match r with | .inl _ => (a.drop i).all (fun x => decide (0 ≤ x) && decide (x ≤ 3)) = true | .inr r => 0 ≤ r.1.1 ∧ (a.drop i).all (fun x => decide (0 ≤ x) && decide (x ≤ 3)) = false) := by
 intro k
 induction k with
 | zero =>
  intro i hi
  obtain rfl : i = a.length := by omega
  refine ⟨.inl (), zaN _ _ _ _ (by simp [zQ]), by simp⟩
 | succ k ih =>
  intro i hi
  have h1 : i < a.length := by omega
  obtain ⟨r, hr, hm⟩ := ih (i + 1) (by omega)
  rw [List.drop_eq_getElem_cons h1, List.all_cons]
  by_cases hp : (decide (0 ≤ a[i]) && decide (a[i] ≤ 3)) = true
  ·refine ⟨r, zaN _ _ _ _ ?_, by rw [hp, Bool.true_and]; exact hm⟩
   simp only [zQ]
   rw [if_pos (by simpa using h1), ze h1, za (by omega)]
   simp only [Option.bind_some, zyC, hp, Bool.not_true, Bool.false_eq_true, if_false]
   exact hr
  ·rw [Bool.not_eq_true] at hp
   refine ⟨.inr (((i : Int), ()), ()), zaN _ _ _ _ ?_, Int.natCast_nonneg i, by rw [hp, Bool.false_and]⟩
   simp only [zQ]
   rw [if_pos (by simpa using h1), ze h1]
   simp only [Option.bind_some, zyC, hp, Bool.not_false, if_true]
theorem ztO (a : List Int) (ha : a.length ≤ 17592186044416) : zaf M a () = some ((!(a.all (fun x => decide (0 ≤ x) && decide (x ≤ 3))), ()), ()) := by
 apply zfw
 simp only [zaR]
 obtain ⟨r, hr, hm⟩ := ztE a ha a.length 0 (by omega)
 rw [show ((0 : Nat) : Int) = 0 from rfl] at hr
 rw [List.drop_zero] at hm
 cases r with
 | inl r =>
  rw [zcd a () (r := ((-1, ()), ())) (by simp only [zar, hr, Option.bind_some, Sum.elim_inl])]
  simp only at hm
  simp [hm]
 | inr r =>
  rw [zcd a () (r := r) (by simp only [zar, hr, Option.bind_some, Sum.elim_inr])]
  simp only at hm
  simp [hm]
theorem zmG (s : TSign) (ha : s.1.length ≤ 17592186044416) : zfP M s = some ((gS s.1, ()), ()) := by
 apply zrn
 simp only [zjf, ztO s.1 ha, Option.bind_some, gS, decide_eq_true_eq]
 rcases hs : s.1 with _ | ⟨x, r⟩
 ·simp
 ·rw [zuo]
  simp only [List.length_cons, List.getElem?_cons_zero, Option.bind_some]
  rw [if_neg (by omega)]
  by_cases h : r.length + 1 ≤ 10
  ·rw [if_neg (by omega)]
   by_cases hx : x = 0
   ·subst hx; simp [h]
   ·rw [if_pos (by simpa using hx)]; simp [hx]
  ·rw [if_pos (by omega)]
   simp [h]
theorem zb (x : TSign) : (x.1, ()) = x := rfl
theorem zK (x : TLit) : (x.1, x.2.1, x.2.2.1, ()) = x := rfl
theorem zg (x : TSign) : (x.1, ()) = x := rfl
end Go.Proofs.YtenknihdnkiplaaGreatSs.Ev
namespace Go.Proofs.YtenknihdnkiplaaGreatSs.Ev
open Go
set_option autoImplicit false
set_option linter.unusedVariables false
set_option linter.unusedSimpArgs false
def ar (a : List Int) (n : Int) : Int := if n < 0 then 0 else (a[n.toNat]?).getD 0
def badN (a : List Int) (n : Int) : Prop := n < -12 ∨ (a.length : Int) ≤ n
instance (a : List Int) (n : Int) : Decidable (badN a n) := inferInstanceAs (Decidable (_ ∨ _))
def sE (a : List Int) : Int → List Int → Option (List Int)
 | k, [] => if k ≤ 0 then some [] else none
 | k, n :: t => if k ≤ 0 then some (n :: t) else if badN a n then none else sE a (k - 1 + ar a n) t
theorem zlz {a : List Int} (hg : gS a = true) (n : Int) : 0 ≤ ar a n ∧ ar a n ≤ 3 := by
 unfold ar
 split
 ·omega
 ·cases h : a[n.toNat]? with
  | none => simp
  | some x =>
   simp only [gS, Bool.and_eq_true, List.all_eq_true, decide_eq_true_eq] at hg
   have := hg.2.2.1 x (List.mem_of_getElem? h)
   simpa using this
theorem zwS {a : List Int} {n : Int} (h : ¬ badN a n) (h0 : ¬ n < 0) : idx a n = some (ar a n) := by
 unfold badN at h
 have h1 : n.toNat < a.length := by omega
 unfold ar idx
 rw [if_pos (by omega), if_neg h0, List.getElem?_eq_getElem h1]
 rfl
theorem zps (a : List Int) (t : List Int) : sE a 0 t = some t := by cases t <;> simp [sE]
theorem zo1 {a : List Int} (hg : gS a = true) : ∀ (u : List Int) (j k : Int) (x : List Int), 0 ≤ j → 0 ≤ k → sE a j u = some [] → sE a (j + k) (u ++ x) = sE a k x := by
 intro u
 induction u with
 | nil =>
  intro j k x hj hk h
  simp only [sE] at h
  split at h
  ·obtain rfl : j = 0 := by omega
   simp
  ·cases h
 | cons n u ih =>
  intro j k x hj hk h
  simp only [sE] at h
  split at h
  ·cases h
  ·rename_i hj'
   split at h
   ·cases h
   ·rename_i hb
    have hn := zlz hg n
    rw [List.cons_append]
    conv => lhs; unfold sE
    rw [if_neg (by omega), if_neg hb]
    have := ih (j - 1 + ar a n) k x (by omega) hk h
    rw [← this]
    congr 1; omega
theorem zty {a : List Int} (hg : gS a = true) : ∀ (t : List Int) (j k : Int) (r : List Int), 0 ≤ j → 0 ≤ k → sE a (j + k) t = some r → ∃ u x, t = u ++ x ∧ sE a j u = some [] ∧ sE a k x = some r := by
 intro t
 induction t with
 | nil =>
  intro j k r hj hk h
  simp only [sE] at h
  split at h
  ·obtain rfl : j = 0 := by omega
   obtain rfl : k = 0 := by omega
   exact ⟨[], [], rfl, by simp [sE], by simpa [sE] using h⟩
  ·cases h
 | cons n t ih =>
  intro j k r hj hk h
  by_cases h0 : j = 0
  ·subst h0
   exact ⟨[], n :: t, rfl, by simp [sE], by simpa using h⟩
  ·simp only [sE] at h
   split at h
   ·omega
   ·split at h
    ·cases h
    ·rename_i hb
     have hn := zlz hg n
     obtain ⟨u, x, rfl, h1, h2⟩ := ih (j - 1 + ar a n) k r (by omega) hk (by rw [← h]; congr 1; omega)
     refine ⟨n :: u, x, rfl, ?_, h2⟩
     unfold sE
     rw [if_neg (by omega), if_neg hb]
     exact h1
abbrev Tm (a : List Int) (u : List Int) : Prop := sE a 1 u = some []
theorem zza {a : List Int} (hg : gS a = true) : ∀ (k : Nat) (t r : List Int), sE a k t = some r → ∃ us : List (List Int), us.length = k ∧ t = us.flatten ++ r ∧ ∀ u ∈ us, Tm a u := by
 intro k
 induction k with
 | zero =>
  intro t r h
  rw [show ((0 : Nat) : Int) = 0 from rfl, zps] at h
  obtain rfl := Option.some.inj h
  exact ⟨[], rfl, rfl, by simp⟩
 | succ k ih =>
  intro t r h
  obtain ⟨u, x, rfl, h1, h2⟩ := zty hg t 1 k r (by omega) (by omega) (by rw [← h]; congr 1; omega)
  obtain ⟨us, hl, rfl, hu⟩ := ih x r h2
  exact ⟨u :: us, by simp [hl], by simp, by simpa using ⟨h1, hu⟩⟩
theorem Tm.parts {a : List Int} (hg : gS a = true) {u : List Int} (h : Tm a u) : ∃ (n : Int) (us : List (List Int)), u = n :: us.flatten ∧ ¬ badN a n ∧ (us.length : Int) = ar a n ∧ ∀ v ∈ us, Tm a v := by
 cases u with
 | nil => simp [Tm, sE] at h
 | cons n t =>
  simp only [Tm, sE] at h
  rw [if_neg (by omega)] at h
  split at h
  ·cases h
  ·rename_i hb
   have hn := zlz hg n
   obtain ⟨us, hl, ht, hu⟩ := zza hg (ar a n).toNat t [] (by rw [← h]; congr 1; omega)
   exact ⟨n, us, by rw [ht]; simp, hb, by omega, hu⟩
theorem Tm.rest {a : List Int} (hg : gS a = true) {u : List Int} (h : Tm a u) (x : List Int) : sE a 1 (u ++ x) = some x := by
 have := zo1 hg u 1 0 x (by omega) (by omega) h
 rw [zps] at this
 simpa using this
theorem Tm.pos {a u : List Int} (h : Tm a u) : 0 < u.length := by
 cases u with
 | nil => simp [Tm, sE] at h
 | cons n t => simp
theorem zuf (s : TSign) (hg : gS s.1 = true) (t : List Int) (ht : t.length ≤ 1048576) : ∀ (k i : Nat) (need : Int), i + k = t.length → 0 ≤ need → need + 3 * k ≤ 4000000 →
  zf0 M t i s need = some (match sE s.1 need (t.drop i) with | none => .inr (((-1 : Int), ()), ()) | some r => .inl ((t.length : Int) - r.length, ())) := by
 have hs : s.1.length ≤ 10 := by simp only [gS, Bool.and_eq_true, decide_eq_true_eq] at hg; exact hg.2.1
 intro k
 induction k with
 | zero =>
  intro i need hi h0 hn
  obtain rfl : i = t.length := by omega
  apply zma
  simp only [zgC, List.drop_length, sE, decide_eq_true_eq]
  by_cases h : need > 0
  ·rw [if_pos h, if_pos (by omega), if_neg (by omega)]
  ·rw [if_neg h, if_pos (by omega)]; simp
 | succ k ih =>
  intro i need hi h0 hn
  apply zma
  have h1 : i < t.length := by omega
  rw [List.drop_eq_getElem_cons h1]
  simp only [zgC, sE, decide_eq_true_eq]
  by_cases h : need > 0
  ·rw [if_pos h, if_neg (by omega), if_neg (by omega), ze h1]
   simp only [Option.bind_some, zkB]
   rw [w64 (x := (s.1.length : Int) - 1) (by omega) (by omega)]
   by_cases hb : badN s.1 t[i]
   ·rw [if_pos hb, if_pos (by unfold badN at hb; simp; omega)]
   ·rw [if_neg hb, if_neg (by unfold badN at hb; simp; omega)]
    have ha := zlz hg t[i]
    have hw : IntKind.i64.wrap (need - 1) = need - 1 := w64 (by omega) (by omega)
    by_cases hx : t[i] ≥ 0
    ·rw [if_pos hx, zwS hb (by omega), hw]
     simp only [Option.bind_some, Sum.elim_inl]
     rw [w64 (x := need - 1 + _) (by omega) (by omega), za (by omega)]
     exact ih (i + 1) _ (by omega) (by omega) (by omega)
    ·have : ar s.1 t[i] = 0 := by unfold ar; rw [if_pos (by omega)]
     rw [if_neg hx, hw, this]
     simp only [Option.bind_some, Sum.elim_inl]
     rw [za (by omega), Int.add_zero]
     exact ih (i + 1) _ (by omega) (by omega) (by omega)
  ·rw [if_neg h, if_pos (by omega)]
   simp only [List.length_cons, List.length_drop]
   congr 3
   omega
theorem zr9 (s : TSign) (hg : gS s.1 = true) (t : List Int) (i : Nat) (hi : i ≤ t.length) (ht : t.length ≤ 1048576) :
  zgs M s t i = some ((match sE s.1 1 (t.drop i) with | none => (-1 : Int) | some r => (t.length : Int) - r.length, ()), ()) := by
 apply ztF
 simp only [zlP]
 rw [zuf s hg t ht (t.length - i) i 1 (by omega) (by omega) (by omega)]
 cases sE s.1 1 (t.drop i) <;> rfl
theorem zzw {a : List Int} : ∀ (t : List Int) (k : Int) (r : List Int), sE a k t = some r → r.length ≤ t.length := by
 intro t
 induction t with
 | nil => intro k r h; simp only [sE] at h; split at h <;> simp_all
 | cons n t ih =>
  intro k r h
  simp only [sE] at h
  split at h
  ·obtain rfl := Option.some.inj h; simp
  ·split at h
   ·cases h
   ·have := ih _ _ h; simp; omega
def isT (a t : List Int) : Bool := decide (t.length ≤ 40) && decide (Tm a t)
theorem zlS (s : TSign) (hg : gS s.1 = true) (t : List Int) (ht : t.length ≤ 1048576) : zcU M s t = some ((isT s.1 t, ()), ()) := by
 apply ztp
 have := zr9 s hg t 0 (by omega) ht
 rw [show ((0 : Nat) : Int) = 0 from rfl, List.drop_zero] at this
 simp only [zkW, zkB, Option.bind_some, this, isT]
 by_cases h0 : t = []
 ·subst h0; simp [Tm, sE]
 ·have : 0 < t.length := List.length_pos_iff.2 h0
  by_cases h : t.length ≤ 40
  ·rw [if_pos (by simp; omega)]
   simp only [Option.some.injEq, Prod.mk.injEq, and_true]
   rw [Bool.eq_iff_iff]
   simp only [Bool.and_eq_true, decide_eq_true_eq, Tm, beq_iff_eq]
   cases hE : sE s.1 1 t with
   | none => simp
   | some r =>
    have := zzw _ _ _ hE
    simp only [Option.some.injEq]
    constructor
    ·intro h'; exact ⟨h, List.eq_nil_of_length_eq_zero (by omega)⟩
    ·rintro ⟨-, rfl⟩; simp
  ·rw [if_neg (by simp; omega)]
   simp [h]
theorem zt4 (s : TSign) (n : Int) (h : ¬ badN s.1 n) : zcj M s n = some ((ar s.1 n, ()), ()) := by
 apply zqX
 simp only [ziW, decide_eq_true_eq]
 by_cases hn : n < 0
 ·rw [if_pos hn]; simp [ar, hn]
 ·rw [if_neg hn, zwS h hn]; rfl
theorem ztj (s : TSign) (hg : gS s.1 = true) (t : List Int) (ht : t.length ≤ 40) : ∀ (k i : Nat) (left : Int), i + k = t.length → 0 ≤ left → left + 3 * k ≤ 4000000 →
  ∃ r, za1 M s left t t.length i = some r ∧ Sum.elim (fun y => y.1 == 0) (fun r => r.1.1) r = decide (sE s.1 left (t.drop i) = some []) := by
 intro k
 induction k with
 | zero =>
  intro i left hi h0 hn
  obtain rfl : i = t.length := by omega
  refine ⟨.inl (left, ()), zh3 _ _ _ _ _ ?_, ?_⟩
  ·simp [zcY]
  ·rw [List.drop_length]
   simp only [Sum.elim_inl, sE]
   rw [Bool.eq_iff_iff]; simp; omega
 | succ k ih =>
  intro i left hi h0 hn
  have h1 : i < t.length := by omega
  rw [List.drop_eq_getElem_cons h1]
  have pre : ∀ r, (if (left == 0) = true then some (.inr ((false, ()), ())) else if decide (t[i] < -12) = true then some (.inr ((false, ()), ())) else if decide (t[i] ≥ (s.1.length : Int)) = true then some (.inr ((false, ()), ())) else (zcj M (s.1, ()) t[i]).bind fun r2 => za1 M (s.1, ()) (IntKind.i64.wrap (left + IntKind.i64.wrap (r2.1.1 - 1))) t t.length (IntKind.i64.wrap ((i : Int) + 1))) = some r → za1 M s left t t.length i = some r := by
   intro r hr
   apply zh3
   simp only [zcY]
   rw [if_pos (by simpa using h1), ze h1]
   exact hr
  by_cases hl : left = 0
  ·subst hl
   refine ⟨.inr ((false, ()), ()), pre _ rfl, (decide_eq_false (by rw [zps]; exact fun h => by cases h)).symm⟩
  ·by_cases hb : badN s.1 t[i]
   ·refine ⟨.inr ((false, ()), ()), pre _ ?_, by simp [sE, hb]; omega⟩
    rw [if_neg (by simpa using hl)]
    unfold badN at hb
    by_cases h2 : t[i] < -12
    ·rw [if_pos (by simpa using h2)]
    ·rw [if_neg (by simpa using h2), if_pos (by simp; omega)]
   ·have ha := zlz hg t[i]
    obtain ⟨r, hr, hm⟩ := ih (i + 1) (left - 1 + ar s.1 t[i]) (by omega) (by omega) (by omega)
    refine ⟨r, pre _ ?_, ?_⟩
    ·have hb' := hb
     unfold badN at hb'
     rw [if_neg (by simpa using hl), if_neg (by simp; omega), if_neg (by simp; omega), zt4 (s.1, ()) _ hb]
     simp only [Option.bind_some]
     rw [w64 (x := ar s.1 t[i] - 1) (by omega) (by omega), w64 (by omega) (by omega), za (by omega), show left + (ar s.1 t[i] - 1) = left - 1 + ar s.1 t[i] by omega]
     exact hr
    ·rw [hm]
     conv => rhs; unfold sE
     rw [if_neg (by omega), if_neg hb]
theorem zqV (s : TSign) (hg : gS s.1 = true) (t : List Int) : zcs M s t = some ((isT s.1 t, ()), ()) := by
 apply zoN
 simp only [zhR, decide_eq_true_eq, isT]
 by_cases h : t.length ≤ 40
 ·obtain ⟨r, hr, hm⟩ := ztj s hg t h t.length 0 1 (by omega) (by omega) (by omega)
  rw [show ((0 : Nat) : Int) = 0 from rfl] at hr
  rw [List.drop_zero] at hm
  rw [if_neg (by omega), show ((s.1, ()) : TSign) = s from rfl, hr]
  cases r with
  | inl r => simp only [Sum.elim_inl, Option.bind_some] at hm ⊢; rw [hm]; simp [h, Tm]
  | inr r => obtain ⟨⟨b, _⟩, _⟩ := r; simp only [Sum.elim_inr, Option.bind_some] at hm ⊢; rw [hm]; simp [h, Tm]
 ·rw [if_pos (by omega)]; simp [h]
end Go.Proofs.YtenknihdnkiplaaGreatSs.Ev
namespace Go.Proofs.YtenknihdnkiplaaGreatSs.Ev
open Go
set_option autoImplicit false
set_option linter.unusedVariables false
set_option linter.unusedSimpArgs false
def litOK (a : List Int) (x : TLit) : Bool := isT a x.2.1 && isT a x.2.2.1
def clOK (a : List Int) (c : List TLit) : Bool := decide (c.length ≤ 8) && c.all (litOK a)
theorem zzi (s : TSign) (hg : gS s.1 = true) (x : TLit) (h : smL x) : zjL M s x = some ((litOK s.1 x, ()), ()) := by
 apply zux
 simp only [zl8, zb, zlS s hg x.2.1 h.1, zlS s hg x.2.2.1 h.2, Option.bind_some, litOK]
 cases isT s.1 x.2.1 <;> simp
theorem zzf (s : TSign) (hg : gS s.1 = true) (x : TLit) : zgh M s x = some ((litOK s.1 x, ()), ()) := by
 apply zpF
 simp only [zii, zb, zqV s hg x.2.1, zqV s hg x.2.2.1, Option.bind_some, litOK]
 cases isT s.1 x.2.1 <;> simp
theorem zrr (s : TSign) (hg : gS s.1 = true) (a : List TLit) (ha : a.length ≤ 1048576) (hx : ∀ x ∈ a, smL x) : ∀ k i : Nat, i + k = a.length → zdK M a s a a.length i = some (if (a.drop i).all (litOK s.1) = true then .inl (a, ()) else .inr ((false, ()), ())) := by
 intro k
 induction k with
 | zero =>
  intro i hi
  obtain rfl : i = a.length := by omega
  apply zjS
  simp [zfm]
 | succ k ih =>
  intro i hi
  apply zjS
  have h1 : i < a.length := by omega
  simp only [zfm]
  rw [if_pos (by simpa using h1), ze h1, za (by omega)]
  simp only [Option.bind_some, zb, zK, zzi s hg a[i] (hx _ (List.getElem_mem h1)), ih (i + 1) (by omega)]
  rw [List.drop_eq_getElem_cons h1, List.all_cons]
  generalize litOK s.1 a[i] = b
  cases b <;> rfl
theorem zcP (s : TSign) (hg : gS s.1 = true) (a : List TLit) (ha : a.length ≤ 1048576) (hx : ∀ x ∈ a, smL x) : zaV M s a = some ((clOK s.1 a, ()), ()) := by
 apply zq9
 simp only [zjd, zb]
 have := zrr s hg a ha hx a.length 0 (by omega)
 rw [show ((0 : Nat) : Int) = 0 from rfl] at this
 rw [this, List.drop_zero, clOK]
 cases a.all (litOK s.1)
 ·simp
 ·simp; omega
theorem zp5 (s : TSign) (hg : gS s.1 = true) (x : TLit) : zdt M x s = some ((!litOK s.1 x, ()), ()) := by
 apply zmJ
 simp only [zf7, zb, zK, zzf s hg x, Option.bind_some]
theorem zuF (s : TSign) (hg : gS s.1 = true) (a : List TLit) (ha : a.length ≤ 1048576) : ∀ k i : Nat, i + k = a.length → ∃ r, zk M a (s, ()) a.length i = some r ∧ (match r with | .inl _ => (a.drop i).all (litOK s.1) = true | .inr r => 0 ≤ r.1.1 ∧ (a.drop i).all (litOK s.1) = false) := by
 intro k
 induction k with
 | zero =>
  intro i hi
  obtain rfl : i = a.length := by omega
  refine ⟨.inl (), zY _ _ _ _ (by simp [zh]), by simp⟩
 | succ k ih =>
  intro i hi
  have h1 : i < a.length := by omega
  obtain ⟨r, hr, hm⟩ := ih (i + 1) (by omega)
  rw [List.drop_eq_getElem_cons h1, List.all_cons]
  by_cases hp : litOK s.1 a[i] = true
  ·refine ⟨r, zY _ _ _ _ ?_, by rw [hp, Bool.true_and]; exact hm⟩
   simp only [zh]
   rw [if_pos (by simpa using h1), ze h1, za (by omega)]
   simp only [Option.bind_some, zK, zp5 s hg, hp, Bool.not_true, Bool.false_eq_true, if_false]
   exact hr
  ·rw [Bool.not_eq_true] at hp
   refine ⟨.inr (((i : Int), ()), ()), zY _ _ _ _ ?_, Int.natCast_nonneg i, by rw [hp, Bool.false_and]⟩
   simp only [zh]
   rw [if_pos (by simpa using h1), ze h1]
   simp only [Option.bind_some, zK, zp5 s hg, hp, Bool.not_false, if_true]
theorem ztC (s : TSign) (hg : gS s.1 = true) (a : List TLit) (ha : a.length ≤ 1048576) : zA M a (s, ()) = some ((!(a.all (litOK s.1)), ()), ()) := by
 apply zcz
 simp only [z7]
 obtain ⟨r, hr, hm⟩ := zuF s hg a ha a.length 0 (by omega)
 rw [show ((0 : Nat) : Int) = 0 from rfl] at hr
 rw [List.drop_zero] at hm
 cases r with
 | inl r =>
  rw [za5 a (s, ()) (r := ((-1, ()), ())) (by simp only [zI, hr, Option.bind_some, Sum.elim_inl])]
  simp only at hm
  simp [hm]
 | inr r =>
  rw [za5 a (s, ()) (r := r) (by simp only [zI, hr, Option.bind_some, Sum.elim_inr])]
  simp only at hm
  simp [hm]
theorem zeL (s : TSign) (hg : gS s.1 = true) (a : List TLit) (ha : a.length ≤ 1048576) : zaZ M s a = some ((clOK s.1 a, ()), ()) := by
 apply znM
 simp only [zgK, zb, ztC s hg a ha, Option.bind_some, clOK]
 by_cases h : a.length ≤ 8
 ·rw [if_pos (by simp; omega)]; simp [h]
 ·rw [if_neg (by simp; omega)]; simp [h]
end Go.Proofs.YtenknihdnkiplaaGreatSs.Ev
namespace Go.Proofs.YtenknihdnkiplaaGreatSs.Ev
open Go
set_option autoImplicit false
set_option linter.unusedVariables false
set_option linter.unusedSimpArgs false
theorem za9 (s : TSign) (hs : s.1.length ≤ 1048576) (a : List TLit) (ha : a.length ≤ 1048576) (hx : ∀ x ∈ a, smL x) : zcS M s a = some ((gS s.1 && clOK s.1 a, ()), ()) := by
 apply zpD
 simp only [zh8, zb, zrC s (by omega), Option.bind_some]
 cases hg : gS s.1 with
 | false => rfl
 | true => rw [if_pos rfl, zcP s hg a ha hx]; rfl
end Go.Proofs.YtenknihdnkiplaaGreatSs.Ev
namespace Go.Proofs.YtenknihdnkiplaaGreatSs.Ev
open Go
set_option autoImplicit false
set_option linter.unusedVariables false
set_option linter.unusedSimpArgs false
theorem zax (s : TSign) (hs : s.1.length ≤ 1048576) (a : List TLit) (ha : a.length ≤ 1048576) : zbU M s a = some ((gS s.1 && clOK s.1 a, ()), ()) := by
 apply zpA
 simp only [zif, zb, zmG s (by omega), Option.bind_some]
 cases hg : gS s.1 with
 | false => rfl
 | true => rw [if_pos rfl, zeL s hg a ha]; rfl
end Go.Proofs.YtenknihdnkiplaaGreatSs.Ev
namespace Go.Proofs.YtenknihdnkiplaaGreatSs.Ev
open Go
set_option autoImplicit false
set_option linter.unusedVariables false
set_option linter.unusedSimpArgs false
def rp (σ : Int → List Int) (n : Int) : List Int := if n < 0 ∧ 0 < (σ (-1 - n)).length then σ (-1 - n) else [n]
def apS (σ : Int → List Int) (T : List Int) : List Int := T.flatMap (rp σ)
theorem zzr {σ : Int → List Int} (h : ∀ v, (σ v).length ≤ 60) (n : Int) : (rp σ n).length ≤ 60 := by
 unfold rp
 split
 ·exact h _
 ·simp
theorem zhZ {σ : Int → List Int} (h : ∀ v, (σ v).length ≤ 60) : ∀ T : List Int, (apS σ T).length ≤ 60 * T.length
 | [] => by simp [apS]
 | n :: T => by
  have h1 := zzr h n
  have h2 := zhZ h T
  simp only [apS, List.flatMap_cons, List.length_append, List.length_cons] at h2 ⊢
  omega
theorem zce (σ : Int → List Int) (n : Int) (t : List Int) : apS σ (n :: t) = rp σ n ++ apS σ t := by simp only [apS, List.flatMap_cons]
theorem zfY (σ : Int → List Int) (t u : List Int) : apS σ (t ++ u) = apS σ t ++ apS σ u := by simp only [apS, List.flatMap_append]
theorem zjK {σ : Int → List Int} {n : Int} (h : 0 ≤ n) : rp σ n = [n] := by unfold rp; rw [if_neg (fun q => by omega)]
theorem zi0 {σ : Int → List Int} {n : Int} (h : σ (-1 - n) = []) : rp σ n = [n] := by unfold rp; rw [if_neg (fun q => by rw [h] at q; simp at q)]
theorem zgR {σ : Int → List Int} {n : Int} (hn : n < 0) (h : σ (-1 - n) ≠ []) : rp σ n = σ (-1 - n) := by unfold rp; rw [if_pos ⟨hn, List.length_pos_iff.2 h⟩]
theorem zzS {a : List Int} (hg : gS a = true) {σ : Int → List Int} (hσ : ∀ v, σ v ≠ [] → Tm a (σ v)) : ∀ (t : List Int) (k : Int), sE a k t = some [] → sE a k (apS σ t) = some [] := by
 intro t
 induction t with
 | nil => intro k h; exact h
 | cons n r ih =>
  intro k h
  rw [zce]
  by_cases hk : k ≤ 0
  ·simp only [sE, if_pos hk] at h
   cases h
  ·simp only [sE, if_neg hk] at h
   by_cases hb : badN a n
   ·rw [if_pos hb] at h; cases h
   ·rw [if_neg hb] at h
    by_cases hs : n < 0 ∧ σ (-1 - n) ≠ []
    ·rw [zgR hs.1 hs.2]
     have h1 : ar a n = 0 := by unfold ar; rw [if_pos hs.1]
     rw [h1] at h
     have hT : sE a 1 (σ (-1 - n)) = some [] := hσ _ hs.2
     have := zo1 hg (σ (-1 - n)) 1 (k - 1) (apS σ r) (by omega) (by omega) hT
     rw [show 1 + (k - 1) = k by omega] at this
     rw [this]
     exact ih _ (by rw [show k - 1 = k - 1 + 0 by omega]; exact h)
    ·have hr : rp σ n = [n] := by
      by_cases hn : n < 0
      ·exact zi0 (by
        by_cases e : σ (-1 - n) = []
        ·exact e
        ·exact absurd ⟨hn, e⟩ hs)
      ·exact zjK (by omega)
     rw [hr, List.singleton_append]
     simp only [sE, if_neg hk, if_neg hb]
     exact ih _ h
theorem zg7 {a : List Int} (hg : gS a = true) {σ : Int → List Int} (hσ : ∀ v, σ v ≠ [] → Tm a (σ v)) {t : List Int} (h : Tm a t) : Tm a (apS σ t) := zzS hg hσ t 1 h
theorem zph {a : List Int} (hg : gS a = true) {x z : List Int} (h : Tm a x) (k : Tm a (x ++ z)) : z = [] := by
 have := zo1 hg x 1 0 z (by omega) (by omega) h
 rw [show (1 : Int) + 0 = 1 from rfl, zps] at this
 have k' : sE a 1 (x ++ z) = some [] := k
 rw [k'] at this
 exact (Option.some.inj this).symm
def lcp : List Int → List Int → Nat
 | n :: x, m :: y => if n = m then lcp x y + 1 else 0
 | _, _ => 0
theorem zre : ∀ (x y : List Int), lcp x y ≤ x.length ∧ lcp x y ≤ y.length
 | [], _ => by simp [lcp]
 | _ :: _, [] => by simp [lcp]
 | n :: x, m :: y => by
  have := zre x y
  simp only [lcp, List.length_cons]
  split <;> omega
theorem zus : ∀ (x y : List Int), x.take (lcp x y) = y.take (lcp x y)
 | [], y => by simp [lcp]
 | _ :: _, [] => by simp [lcp]
 | n :: x, m :: y => by
  simp only [lcp]
  split
  ·rename_i h; rw [h, List.take_succ_cons, List.take_succ_cons, zus x y]
  ·simp
theorem zrl : ∀ (x y : List Int) (h1 : lcp x y < x.length) (h2 : lcp x y < y.length), x[lcp x y] ≠ y[lcp x y]
 | [], _, h, _ => by simp at h
 | _ :: _, [], _, h => by simp at h
 | n :: x, m :: y, h1, h2 => by
  by_cases e : n = m
  ·have e1 : lcp (n :: x) (m :: y) = lcp x y + 1 := by simp only [lcp, if_pos e]
   simp only [e1] at h1 h2 ⊢
   simpa using zrl x y (by simpa using h1) (by simpa using h2)
  ·have e1 : lcp (n :: x) (m :: y) = 0 := by simp only [lcp, if_neg e]
   simp only [e1]
   simpa using e
theorem zr1 : ∀ (x y : List Int) (i : Nat), i < lcp x y → x[i]? = y[i]?
 | [], _, _, h => by simp [lcp] at h
 | _ :: _, [], _, h => by simp [lcp] at h
 | n :: x, m :: y, i, h => by
  simp only [lcp] at h
  split at h
  ·rename_i e
   cases i with
   | zero => simp [e]
   | succ i => simpa using zr1 x y i (by omega)
  ·omega
theorem zvp {a : List Int} (hg : gS a = true) {x y : List Int} (hx : Tm a x) (hy : Tm a y) (h : lcp x y = x.length ∨ lcp x y = y.length) : x = y := by
 have ht := zus x y
 rcases h with h | h
 ·rw [h, List.take_length] at ht
  have e : y = x ++ y.drop x.length := by
   conv => lhs; rw [← List.take_append_drop x.length y]
   rw [← ht]
  have := zph hg hx (by rw [← e]; exact hy)
  rw [e, this, List.append_nil]
 ·rw [h, List.take_length] at ht
  have e : x = y ++ x.drop y.length := by
   conv => lhs; rw [← List.take_append_drop y.length x]
   rw [ht]
  have := zph hg hy (by rw [← e]; exact hx)
  rw [e, this, List.append_nil]
end Go.Proofs.YtenknihdnkiplaaGreatSs.Ev
namespace Go.Proofs.YtenknihdnkiplaaGreatSs.Ev
open Go
set_option autoImplicit false
set_option linter.unusedVariables false
set_option linter.unusedSimpArgs false
def SubF (sub : List (List Int)) (σ : Int → List Int) : Prop := sub.length = 12 ∧ ∀ v, 0 ≤ v → v ≤ 11 → sub[v.toNat]? = some (σ v)
theorem SubF.idx {sub : List (List Int)} {σ : Int → List Int} (h : SubF sub σ) {v : Int} (v0 : 0 ≤ v) (v1 : v ≤ 11) : idx sub v = some (σ v) := by
 have := h.2 v v0 v1
 obtain ⟨q1, q2⟩ := List.getElem?_eq_some_iff.1 this
 have e := ze (xs := sub) q1
 rw [show ((v.toNat : Nat) : Int) = v by omega, q2] at e
 exact e
theorem zvI {σ : Int → List Int} (h : ∀ v, (σ v).length ≤ 100000) (n : Int) : (rp σ n).length ≤ 100000 := by
 unfold rp
 split
 ·exact h _
 ·simp
theorem zts (sub : List (List Int)) (σ : Int → List Int) (hσ : SubF sub σ) (hb : ∀ v, (σ v).length ≤ 100000) (T : List Int) (hT : T.length ≤ 100) (hv : ∀ n ∈ T, -12 ≤ n) :
  ∀ k i : Nat, i + k = T.length → ∀ o : List Int, o.length ≤ 100000 * i → zcR M sub o T T.length i = some (.inl (o ++ apS σ (T.drop i), ())) := by
 intro k
 induction k with
 | zero =>
  intro i hi o ho
  obtain rfl : i = T.length := by omega
  apply zkz
  simp only [zfG]
  rw [if_neg (by simp)]
  simp [apS]
 | succ k ih =>
  intro i hi o ho
  have h1 : i < T.length := by omega
  have h2 := hv _ (List.getElem_mem h1)
  have h3 := zvI hb T[i]
  have h4 := hb (-1 - T[i])
  have hs : apS σ (T.drop i) = rp σ T[i] ++ apS σ (T.drop (i + 1)) := by rw [List.drop_eq_getElem_cons h1]; simp only [apS, List.flatMap_cons]
  have go : ∀ x : List Int, rp σ T[i] = x → zcR M sub (o ++ x) T T.length ((i + 1 : Nat) : Int) = some (.inl (o ++ apS σ (T.drop i), ())) := by
   intro x hx
   subst hx
   rw [ih (i + 1) (by omega) _ (by simp; omega), hs, List.append_assoc]
  apply zkz
  simp only [zfG]
  rw [if_pos (by simpa using h1), ze h1]
  simp only [Option.bind_some]
  by_cases hn : T[i] < 0
  ·rw [if_pos (by simpa using hn), w64 (x := -1 - T[i]) (by omega) (by omega), hσ.idx (by omega) (by omega)]
   simp only [Option.bind_some]
   by_cases hl : 0 < (σ (-1 - T[i])).length
   ·rw [if_pos (by simp; omega), if_pos (by omega)]
    simp only [Option.bind_some, Sum.elim_inl]
    rw [za (by omega)]
    exact go _ (by unfold rp; rw [if_pos ⟨hn, hl⟩])
   ·rw [if_neg (by simp only [decide_eq_true_eq]; omega), if_pos (by simp; omega)]
    simp only [Option.bind_some, Sum.elim_inl]
    rw [za (by omega)]
    exact go _ (by unfold rp; rw [if_neg (fun q => hl q.2)])
  ·rw [if_neg (by simpa using hn), if_pos (by simp; omega)]
   simp only [Option.bind_some, Sum.elim_inl]
   rw [za (by omega)]
   exact go _ (by unfold rp; rw [if_neg (fun q => hn q.1)])
theorem zf5 (sub : List (List Int)) (σ : Int → List Int) (hσ : SubF sub σ) (hb : ∀ v, (σ v).length ≤ 100000) (T : List Int) (hT : T.length ≤ 100) (hv : ∀ n ∈ T, -12 ≤ n) : zF M sub T = some ((apS σ T, ()), ()) := by
 apply zsf
 have := zts sub σ hσ hb T hT hv T.length 0 (by omega) [] (by simp)
 rw [show ((0 : Nat) : Int) = 0 from rfl, List.drop_zero, List.nil_append] at this
 simp only [zj9, this, Option.bind_some, Sum.elim_inl]
end Go.Proofs.YtenknihdnkiplaaGreatSs.Ev
namespace Go.Proofs.YtenknihdnkiplaaGreatSs.Ev
open Go
set_option autoImplicit false
set_option linter.unusedVariables false
set_option linter.unusedSimpArgs false
def oneS (n : Int) (t : List Int) : Int → List Int := fun u => if u = -1 - n then t else []
def bindS (σ : Int → List Int) (n : Int) (t : List Int) : Int → List Int := fun u => if u = -1 - n then t else if σ u ≠ [] then apS (oneS n t) (σ u) else []
def Free (σ : Int → List Int) (x : List Int) : Prop := ∀ m ∈ x, m < 0 → σ (-1 - m) = []
theorem zyx (σ : Int → List Int) (n : Int) : rp σ n ≠ [] := by
 unfold rp
 split
 ·rename_i h; exact List.length_pos_iff.1 h.2
 ·simp
theorem zuA (σ : Int → List Int) {t : List Int} (h : t ≠ []) : apS σ t ≠ [] := by
 cases t with
 | nil => exact absurd rfl h
 | cons n r =>
  rw [zce]
  have := zyx σ n
  cases hr : rp σ n with
  | nil => exact absurd hr this
  | cons _ _ => simp
theorem zvY (σ : Int → List Int) : ∀ t : List Int, t.length ≤ (apS σ t).length
 | [] => by simp [apS]
 | n :: t => by
  have h1 := zvY σ t
  have h2 := List.length_pos_iff.2 (zyx σ n)
  rw [zce]; simp; omega
theorem zqE {σ : Int → List Int} : ∀ {x : List Int}, Free σ x → apS σ x = x
 | [], _ => rfl
 | n :: x, h => by
  rw [zce, zqE (fun m hm => h m (List.mem_cons_of_mem _ hm))]
  have : rp σ n = [n] := by
   by_cases hn : n < 0
   ·exact zi0 (h n (List.mem_cons_self ..) hn)
   ·exact zjK (by omega)
  rw [this]; rfl
theorem zuU (n k : Int) (t : List Int) (hn : n < 0) (ht : t ≠ []) : rp (oneS n t) k = if k = n then t else [k] := by
 by_cases h : k = n
 ·subst h
  rw [if_pos rfl, zgR hn (by unfold oneS; rw [if_pos rfl]; exact ht)]
  unfold oneS; rw [if_pos rfl]
 ·rw [if_neg h]
  exact zi0 (by unfold oneS; rw [if_neg (by omega)])
theorem zvr {n m : Int} {t : List Int} (hn : n < 0) (ht : t ≠ []) : ∀ {x : List Int}, m ∈ apS (oneS n t) x → (m ∈ x ∧ m ≠ n) ∨ m ∈ t
 | [], h => by cases h
 | k :: x, h => by
  rw [zce, zuU n k t hn ht, List.mem_append] at h
  rcases h with h | h
  ·split at h
   ·exact .inr h
   ·rename_i hk
    rw [List.mem_singleton.1 h]
    exact .inl ⟨List.mem_cons_self .., hk⟩
  ·rcases zvr hn ht h with ⟨h1, h2⟩ | h1
   ·exact .inl ⟨List.mem_cons_of_mem _ h1, h2⟩
   ·exact .inr h1
section
variable {σ : Int → List Int} {n : Int} {t : List Int} (hn : n < 0) (ht : t ≠ []) (hb : σ (-1 - n) = [])
include hn ht hb
theorem zqA : ∀ x : List Int, apS (bindS σ n t) x = apS (oneS n t) (apS σ x)
 | [] => rfl
 | k :: x => by
  rw [zce, zce, zfY, zqA x]
  congr 1
  by_cases hk : k < 0
  ·by_cases e : k = n
   ·subst e
    rw [zi0 hb, zgR hk (by unfold bindS; rw [if_pos rfl]; exact ht)]
    show bindS σ k t (-1 - k) = apS (oneS k t) [k]
    rw [zce, zuU k k t hn ht, if_pos rfl]
    unfold bindS; rw [if_pos rfl]; simp [apS]
   ·by_cases hs : σ (-1 - k) = []
    ·rw [zi0 hs, zi0 (by unfold bindS; rw [if_neg (by omega), if_neg (by simpa using hs)]), zce, zuU n k t hn ht, if_neg e]
     rfl
    ·have hbs : bindS σ n t (-1 - k) = apS (oneS n t) (σ (-1 - k)) := by unfold bindS; rw [if_neg (by omega), if_pos hs]
     rw [zgR hk hs, zgR hk (by rw [hbs]; exact zuA _ hs), hbs]
  ·rw [zjK (by omega), zjK (by omega), zce, zjK (by omega)]
   rfl
omit hb in
theorem Free.bind {x : List Int} (hx : Free σ x) (hf : Free σ t) (hnt : n ∉ t) : Free (bindS σ n t) (apS (oneS n t) x) := by
 intro m hm h0
 rcases zvr hn ht hm with ⟨h1, h2⟩ | h1
 ·unfold bindS
  rw [if_neg (by omega), if_neg (by simpa using hx m h1 h0)]
 ·have h2 : m ≠ n := fun e => hnt (e ▸ h1)
  unfold bindS
  rw [if_neg (by omega), if_neg (by simpa using hf m h1 h0)]
omit hb in
theorem zwK (hi : ∀ u, Free σ (σ u)) (hf : Free σ t) (hnt : n ∉ t) : ∀ u, Free (bindS σ n t) (bindS σ n t u) := by
 intro u
 have htt : apS (oneS n t) t = t := zqE (fun m hm h0 => by
  unfold oneS; rw [if_neg (fun e => hnt (by rw [show n = m by omega]; exact hm))])
 have key := Free.bind hn ht hf hf hnt
 rw [htt] at key
 by_cases e : u = -1 - n
 ·have : bindS σ n t u = t := by unfold bindS; rw [if_pos e]
  rw [this]; exact key
 ·by_cases hs : σ u = []
  ·have : bindS σ n t u = [] := by unfold bindS; rw [if_neg e, if_neg (by simpa using hs)]
   rw [this]; intro m hm; cases hm
  ·have : bindS σ n t u = apS (oneS n t) (σ u) := by unfold bindS; rw [if_neg e, if_pos hs]
   rw [this]; exact Free.bind hn ht (hi u) hf hnt
end
theorem zy3 {a : List Int} {n : Int} {t : List Int} (h : Tm a t) : ∀ v, oneS n t v ≠ [] → Tm a (oneS n t v) := by
 intro v hv
 unfold oneS at hv ⊢
 split
 ·exact h
 ·rename_i e; rw [if_neg e] at hv; exact absurd rfl hv
theorem zyq {a : List Int} (hg : gS a = true) {σ : Int → List Int} {n : Int} {t : List Int} (hσ : ∀ v, σ v ≠ [] → Tm a (σ v)) (h : Tm a t) : ∀ v, bindS σ n t v ≠ [] → Tm a (bindS σ n t v) := by
 intro v hv
 unfold bindS at hv ⊢
 split
 ·exact h
 ·rename_i e
  rw [if_neg e] at hv
  split
  ·rename_i hs
   exact zg7 hg (zy3 h) (hσ v hs)
  ·rename_i hs; rw [if_neg hs] at hv; exact absurd rfl hv
def nbound (σ : Int → List Int) : Nat := ((List.range 12).filter fun u : Nat => !(σ (u : Int)).isEmpty).length
theorem zsR (σ : Int → List Int) : nbound σ ≤ 12 := by
 unfold nbound
 exact Nat.le_trans (List.length_filter_le _ _) (by simp)
theorem zvl {σ : Int → List Int} {n : Int} {t : List Int} (hn : n < 0) (h12 : -12 ≤ n) (ht : t ≠ []) (hb : σ (-1 - n) = []) : nbound σ < nbound (bindS σ n t) := by
 unfold nbound
 have hmono : ∀ u : Nat, (!(σ (u : Int)).isEmpty) = true → (!(bindS σ n t (u : Int)).isEmpty) = true := by
  intro u hu
  simp only [Bool.not_eq_true', List.isEmpty_eq_false_iff] at hu ⊢
  unfold bindS
  split
  ·exact ht
  ·first
   | exact zuA _ hu
   | (rw [if_pos hu]; exact zuA _ hu)
 have gen : ∀ (l : List Nat) (w : Nat), w ∈ l → (σ (w : Int)) = [] → bindS σ n t (w : Int) ≠ [] → (l.filter fun u : Nat => !(σ (u : Int)).isEmpty).length < (l.filter fun u : Nat => !(bindS σ n t (u : Int)).isEmpty).length := by
  intro l
  induction l with
  | nil => intro w hw; cases hw
  | cons u r ih =>
   intro w hw h1 h2
   have hle : ∀ l : List Nat, (l.filter fun u : Nat => !(σ (u : Int)).isEmpty).length ≤ (l.filter fun u : Nat => !(bindS σ n t (u : Int)).isEmpty).length := by
    intro l
    induction l with
    | nil => simp
    | cons v q ihq =>
     simp only [List.filter_cons]
     by_cases hv : (!(σ (v : Int)).isEmpty) = true
     ·rw [if_pos hv, if_pos (hmono v hv)]; simp; exact ihq
     ·rw [if_neg hv]
      split
      ·simp; omega
      ·exact ihq
   simp only [List.filter_cons]
   rcases List.mem_cons.1 hw with rfl | hw
   ·rw [if_neg (by simp [h1]), if_pos (by simpa using h2)]
    have := hle r
    simp; omega
   ·have hr := ih w hw h1 h2
    by_cases hv : (!(σ (u : Int)).isEmpty) = true
    ·rw [if_pos hv, if_pos (hmono u hv)]; simp; exact hr
    ·rw [if_neg hv]
     split
     ·simp; omega
     ·exact hr
 refine gen _ (-1 - n).toNat (by simp; omega) ?_ ?_
 ·rw [show (((-1 - n).toNat : Nat) : Int) = -1 - n by omega]; exact hb
 ·rw [show (((-1 - n).toNat : Nat) : Int) = -1 - n by omega]
  unfold bindS; rw [if_pos rfl]; exact ht
end Go.Proofs.YtenknihdnkiplaaGreatSs.Ev
namespace Go.Proofs.YtenknihdnkiplaaGreatSs.Ev
open Go
set_option autoImplicit false
set_option linter.unusedVariables false
set_option linter.unusedSimpArgs false
theorem zuO (a : List Int) (x : Int) (ha : a.length ≤ 17592186044416) : ∀ k i : Nat, i + k = a.length → ∃ r, zbu M a x a.length i = some r ∧ (match r with | .inl _ => x ∉ a.drop i | .inr r => 0 ≤ r.1.1 ∧ x ∈ a.drop i) := by
 intro k
 induction k with
 | zero =>
  intro i hi
  obtain rfl : i = a.length := by omega
  exact ⟨.inl (), zeb _ _ _ _ (by simp [zbo]), by simp⟩
 | succ k ih =>
  intro i hi
  have h1 : i < a.length := by omega
  obtain ⟨r, hr, hm⟩ := ih (i + 1) (by omega)
  rw [List.drop_eq_getElem_cons h1]
  by_cases hx : x = a[i]
  ·refine ⟨.inr (((i : Int), ()), ()), zeb _ _ _ _ ?_, Int.natCast_nonneg i, hx ▸ List.mem_cons_self⟩
   simp only [zbo]
   rw [if_pos (by simpa using h1), ze h1]
   simp only [Option.bind_some]
   rw [if_pos (by simpa using hx)]
  ·refine ⟨r, zeb _ _ _ _ ?_, ?_⟩
   ·simp only [zbo]
    rw [if_pos (by simpa using h1), ze h1]
    simp only [Option.bind_some]
    rw [if_neg (by simpa using hx), za (by omega)]
    exact hr
   ·cases r with
    | inl r => simp only [List.mem_cons, not_or]; exact ⟨hx, hm⟩
    | inr r => exact ⟨hm.1, List.mem_cons_of_mem _ hm.2⟩
theorem znO (a : List Int) (x : Int) (ha : a.length ≤ 17592186044416) : za4 M a x = some ((decide (x ∈ a), ()), ()) := by
 obtain ⟨r, hr, hm⟩ := zuO a x ha a.length 0 (by omega)
 rw [show ((0 : Nat) : Int) = 0 from rfl] at hr
 rw [List.drop_zero] at hm
 apply zlJ
 cases r with
 | inl r =>
  rw [zcv, zis a x (r := ((-1, ()), ())) (by simp only [zdz, hr, Option.bind_some, Sum.elim_inl])]
  have : decide (x ∈ a) = false := by simpa using hm
  rw [this]; rfl
 | inr r =>
  rw [zcv, zis a x (r := r) (by simp only [zdz, hr, Option.bind_some, Sum.elim_inr])]
  have : decide (x ∈ a) = true := by simpa using hm.2
  rw [this]
  simp [hm.1]
def Up (l : List Int) : Prop := l.Pairwise (· < ·)
theorem Up.ext {l k : List Int} (hl : Up l) (hk : Up k) (h : ∀ x, x ∈ l ↔ x ∈ k) : l = k := by
 induction l generalizing k with
 | nil =>
  cases k with
  | nil => rfl
  | cons y k => exact absurd ((h y).2 (by simp)) (by simp)
 | cons x l ih =>
  cases k with
  | nil => exact absurd ((h x).1 (by simp)) (by simp)
  | cons y k =>
   have hl' := List.pairwise_cons.1 hl
   have hk' := List.pairwise_cons.1 hk
   have hxy : x = y := by
    have a1 := (h x).1 (by simp)
    have a2 := (h y).2 (by simp)
    rcases List.mem_cons.1 a1 with a1 | a1
    ·exact a1
    ·rcases List.mem_cons.1 a2 with a2 | a2
     ·exact a2.symm
     ·have := hl'.1 _ a2; have := hk'.1 _ a1; omega
   subst hxy
   rw [ih hl'.2 hk'.2 fun z => ?_]
   constructor
   ·intro hz
    rcases List.mem_cons.1 ((h z).1 (by simp [hz])) with e | e
    ·have := hl'.1 _ hz; omega
    ·exact e
   ·intro hz
    rcases List.mem_cons.1 ((h z).2 (by simp [hz])) with e | e
    ·have := hk'.1 _ hz; omega
    ·exact e
def upTo (p : Int → Bool) : List Int := ((List.range 12).map Int.ofNat).filter p
theorem zpw (p : Int → Bool) : Up (upTo p) := by
 unfold Up upTo
 exact List.Pairwise.filter _ (by decide)
theorem zdg {p : Int → Bool} {v : Int} : v ∈ upTo p ↔ 0 ≤ v ∧ v ≤ 11 ∧ p v = true := by
 simp only [upTo, List.mem_filter, List.mem_map, List.mem_range]
 constructor
 ·rintro ⟨⟨n, h, rfl⟩, hp⟩
  exact ⟨Int.natCast_nonneg n, by simp only [Int.ofNat_eq_natCast]; omega, hp⟩
 ·rintro ⟨h1, h2, hp⟩
  exact ⟨⟨v.toNat, by omega, by simp only [Int.ofNat_eq_natCast]; omega⟩, hp⟩
theorem zkk (p : Int → Bool) : (upTo p).length ≤ 12 := by
 unfold upTo
 exact Nat.le_trans (List.length_filter_le _ _) (by simp)
theorem zxA (p : Int → Bool) (i : Nat) (hi : i ≤ 12) : ∀ o, o = (((List.range i).map Int.ofNat).filter p) → (i < 12 → ((((List.range (i + 1)).map Int.ofNat).filter p) = if p i = true then o ++ [(i : Int)] else o)) := by
 intro o ho _
 subst ho
 rw [List.range_succ, List.map_append, List.filter_append]
 simp only [List.map_cons, List.map_nil, Int.ofNat_eq_natCast]
 cases h : p i <;> simp [h]
def putN : List Int → Int → List Int
 | [], n => [n]
 | x :: r, n => if x < n then x :: putN r n else if x = n then x :: r else n :: x :: r
theorem zt9 {l : List Int} {n x : Int} : x ∈ putN l n ↔ x ∈ l ∨ x = n := by
 induction l with
 | nil => simp [putN]
 | cons y r ih =>
  simp only [putN]
  split
  ·simp only [List.mem_cons, ih, or_assoc]
  ·split
   ·rename_i h; subst h
    simp only [List.mem_cons]
    constructor
    ·intro h; exact .inl h
    ·rintro (h | rfl)
     ·exact h
     ·exact .inl rfl
   ·simp only [List.mem_cons]
    constructor
    ·rintro (h | h)
     ·exact .inr h
     ·exact .inl h
    ·rintro (h | h)
     ·exact .inr h
     ·exact .inl h
theorem zze {l : List Int} (h : Up l) (n : Int) : Up (putN l n) := by
 induction l with
 | nil => simp [putN, Up]
 | cons y r ih =>
  have h' := List.pairwise_cons.1 h
  simp only [putN]
  split
  ·refine List.pairwise_cons.2 ⟨fun z hz => ?_, ih h'.2⟩
   rcases zt9.1 hz with hz | rfl
   ·exact h'.1 _ hz
   ·assumption
  ·split
   ·exact h
   ·refine List.pairwise_cons.2 ⟨fun z hz => ?_, h⟩
    rcases List.mem_cons.1 hz with rfl | hz
    ·omega
    ·have := h'.1 _ hz; omega
theorem zqp (l : List Int) (n : Int) : (putN l n).length ≤ l.length + 1 := by
 induction l with
 | nil => simp [putN]
 | cons y r ih =>
  simp only [putN]
  split
  ·simp only [List.length_cons]; omega
  ·split <;> simp
theorem zrm (n : Int) : ∀ (P R : List Int), (∀ x ∈ P, x < n) → (∀ y, R.head? = some y → n ≤ y) → putN (P ++ R) n = if R.head? = some n then P ++ R else P ++ n :: R
 | [], [], _, _ => by simp [putN]
 | [], y :: R, _, h => by
  have := h y rfl
  simp only [List.nil_append, putN, List.head?_cons, Option.some.injEq]
  rw [if_neg (by omega)]
 | x :: P, R, h, h' => by
  have ih := zrm n P R (fun y hy => h y (by simp [hy])) h'
  simp only [List.cons_append, putN]
  rw [if_pos (h x (by simp)), ih]
  split <;> rfl
theorem zvZ (l : List Int) (hl : l.length ≤ 100000) (n : Int) : ∀ k i : Nat, i + k = l.length → (∀ x ∈ l.take i, x < n) → ∃ j : Nat, j ≤ l.length ∧ zfW M l n i = some (.inl (l, n, j, ())) ∧ (∀ x ∈ l.take j, x < n) ∧ (∀ y, (l.drop j).head? = some y → n ≤ y) := by
 intro k
 induction k with
 | zero =>
  intro i hi h
  obtain rfl : i = l.length := by omega
  exact ⟨l.length, Nat.le_refl _, ziO _ _ _ (by simp [zeT]), h, by simp⟩
 | succ k ih =>
  intro i hi h
  have h1 : i < l.length := by omega
  by_cases hx : l[i] < n
  ·obtain ⟨j, g2, g3, g4⟩ := ih (i + 1) (by omega) (by
    intro x hx'
    rw [List.take_succ_eq_append_getElem h1, List.mem_append] at hx'
    rcases hx' with hx' | hx'
    ·exact h x hx'
    ·simp at hx'; omega)
   refine ⟨j, g2, ziO _ _ _ ?_, g4⟩
   simp only [zeT]
   rw [if_pos (by simpa using h1), if_pos (by omega), Int.toNat_natCast, List.getElem?_eq_getElem h1]
   simp only [Option.bind_some]
   rw [if_pos (by simpa using hx), za (by omega)]
   exact g3
  ·refine ⟨i, by omega, ziO _ _ _ ?_, h, ?_⟩
   ·simp only [zeT]
    rw [if_pos (by simpa using h1), if_pos (by omega), Int.toNat_natCast, List.getElem?_eq_getElem h1]
    simp only [Option.bind_some]
    rw [if_neg (by simpa using hx)]
   ·intro y hy
    rw [List.drop_eq_getElem_cons h1] at hy
    simp only [List.head?_cons, Option.some.injEq] at hy; omega
theorem zxE (l : List Int) (hl : l.length ≤ 100000) (n : Int) : zhJ M l n = some ((putN l n, ()), ()) := by
 obtain ⟨j, g2, g3, g4, g5⟩ := zvZ l hl n l.length 0 (by omega) (by simp)
 rw [show ((0 : Nat) : Int) = 0 from rfl] at g3
 have key := zrm n (l.take j) (l.drop j) g4 g5
 rw [List.take_append_drop] at key
 apply zt8
 simp only [zmg, g3, Option.bind_some, Sum.elim_inl]
 by_cases h1 : j < l.length
 ·have hh : (l.drop j).head? = some l[j] := by rw [List.drop_eq_getElem_cons h1]; rfl
  rw [if_pos (by simpa using h1), if_pos (by omega), Int.toNat_natCast, List.getElem?_eq_getElem h1]
  simp only [Option.bind_some, Int.toNat_natCast, Int.toNat_zero, List.drop_zero, List.nil_append, List.length_nil, List.length_append, List.length_take, List.length_drop, List.length_cons, List.take_length]
  rw [hh] at key
  by_cases h2 : l[j] = n
  ·rw [if_pos (by simpa using h2), key, if_pos (by rw [h2])]
  ·rw [if_neg (by simpa using h2), if_pos (by omega), if_pos (by omega), if_pos (by omega), if_pos (by omega), if_pos (by omega), key, if_neg (by simpa using h2)]
   simp
 ·have hd : l.drop j = [] := List.drop_of_length_le (by omega)
  rw [hd] at key
  rw [if_neg (by simpa using h1)]
  simp only [Option.bind_some, Int.toNat_natCast, Int.toNat_zero, List.drop_zero, List.nil_append, List.length_nil, List.length_append, List.length_take, List.length_drop, List.length_cons, List.take_length]
  rw [if_pos (by omega), if_pos (by omega), if_pos (by omega), if_pos (by omega), if_pos (by omega), key, hd]
  simp
theorem Up.le12 {L : List Int} (h : Up L) (hb : ∀ v ∈ L, 0 ≤ v ∧ v ≤ 11) : L = upTo (fun v => decide (v ∈ L)) := by
 refine Up.ext h (zpw _) fun x => ?_
 rw [zdg]
 constructor
 ·intro hx; exact ⟨(hb x hx).1, (hb x hx).2, by simpa using hx⟩
 ·rintro ⟨_, _, hx⟩; simpa using hx
theorem Up.len12 {L : List Int} (h : Up L) (hb : ∀ v ∈ L, 0 ≤ v ∧ v ≤ 11) : L.length ≤ 12 := by
 rw [h.le12 hb]; exact zkk _
theorem zks : ∀ (vs o : List Int), (vs.foldl putN o).length ≤ o.length + vs.length
 | [], o => by simp
 | v :: vs, o => by
  have h1 := zks vs (putN o v)
  have h2 := zqp o v
  simp only [List.foldl_cons, List.length_cons]
  omega
theorem zim : ∀ (vs o : List Int) (x : Int), x ∈ vs.foldl putN o ↔ x ∈ o ∨ x ∈ vs
 | [], o, x => by simp
 | v :: vs, o, x => by
  simp only [List.foldl_cons, zim vs, zt9, List.mem_cons, or_assoc]
theorem zri : ∀ (vs o : List Int), Up o → Up (vs.foldl putN o)
 | [], o, h => h
 | v :: vs, o, h => zri vs _ (zze h v)
end Go.Proofs.YtenknihdnkiplaaGreatSs.Ev
namespace Go.Proofs.YtenknihdnkiplaaGreatSs.Ev
open Go
set_option autoImplicit false
set_option linter.unusedVariables false
set_option linter.unusedSimpArgs false
theorem zkD (x : List Int) (h : x.length ≤ 1048576) : zbd M x = some ((x, ()), ()) := by
 apply zpb
 simp only [zjs]
 rw [if_pos (by simp; omega)]
 simp
theorem zve (v : Int) (a : List Int) (ha : a.length ≤ 1000) : ∀ k i : Nat, i + k = a.length → zdU M v a a.length i = some (if v ∈ a.drop i then .inr ((true, ()), ()) else .inl ()) := by
 intro k
 induction k with
 | zero =>
  intro i hi
  obtain rfl : i = a.length := by omega
  exact zgJ _ _ _ _ (by simp [zdn])
 | succ k ih =>
  intro i hi
  have h1 : i < a.length := by omega
  rw [List.drop_eq_getElem_cons h1]
  apply zgJ
  simp only [zdn]
  rw [if_pos (by simpa using h1), ze h1, za (by omega)]
  simp only [Option.bind_some]
  by_cases h : a[i] = v
  ·rw [if_pos (by simpa using h), if_pos (by rw [h]; exact List.mem_cons_self ..)]
  ·rw [if_neg (by simpa using h), ih (i + 1) (by omega)]
   by_cases h2 : v ∈ a.drop (i + 1)
   ·rw [if_pos h2, if_pos (List.mem_cons_of_mem _ h2)]
   ·rw [if_neg h2, if_neg (fun h3 => by rcases List.mem_cons.1 h3 with e | e; exact h e.symm; exact h2 e)]
theorem zxh (a : List Int) (v : Int) (ha : a.length ≤ 1000) : zdQ M a v = some ((decide (v ∈ a), ()), ()) := by
 apply zpa
 have := zve v a ha a.length 0 (by omega)
 rw [show ((0 : Nat) : Int) = 0 from rfl, List.drop_zero] at this
 simp only [zju, this, Option.bind_some]
 by_cases h : v ∈ a
 ·rw [if_pos h, decide_eq_true h]; rfl
 ·rw [if_neg h, decide_eq_false h]; rfl
theorem zAf {a : List Int} (hg : gS a = true) : ∀ (t : List Int) (k : Int) (i : Nat), 0 ≤ k → sE a k t = some [] → i < t.length → ∃ u x, t.drop i = u ++ x ∧ Tm a u := by
 intro t
 induction t with
 | nil => intro k i _ _ h; simp at h
 | cons n t ih =>
  intro k i hk h hi
  have h0 := h
  simp only [sE] at h
  split at h
  ·cases h
  ·rename_i hk'
   split at h
   ·cases h
   ·rename_i hb
    have hn := zlz hg n
    cases i with
    | zero =>
     obtain ⟨u, x, e, h1, _⟩ := zty hg (n :: t) 1 (k - 1) [] (by omega) (by omega) (by rw [← h0]; congr 1; omega)
     exact ⟨u, x, by simpa using e, h1⟩
    | succ i => simpa using ih _ i (by omega) h (by simpa using hi)
theorem Tm.at {a : List Int} (hg : gS a = true) {t : List Int} (h : Tm a t) {i : Nat} (hi : i < t.length) : ∃ u x, t.drop i = u ++ x ∧ Tm a u := zAf hg t 1 i (by omega) h hi
theorem znE {t u x : List Int} {i : Nat} (h : t.drop i = u ++ x) (hu : 0 < u.length) : i + u.length + x.length = t.length ∧ (t.take (i + u.length)).drop i = u := by
 have hl := congrArg List.length h
 simp only [List.length_drop, List.length_append] at hl
 refine ⟨by omega, ?_⟩
 rw [List.drop_take, h, Nat.add_sub_cancel_left, List.take_left]
theorem zoM (s : TSign) (hg : gS s.1 = true) (t : List Int) (ht : t.length ≤ 1048576) {i : Nat} {u x : List Int} (h : t.drop i = u ++ x) (hu : Tm s.1 u) : zbI M s t i = some ((u, ()), ()) := by
 obtain ⟨c1, c2⟩ := znE h (Tm.pos hu)
 have hp := Tm.pos hu
 have he := zr9 s hg t i (by omega) ht
 rw [h, Tm.rest hg hu x] at he
 apply zto
 simp only [zkV, zb, he, Option.bind_some]
 rw [if_pos (by omega), Int.toNat_natCast, show ((t.length : Int) - x.length).toNat = i + u.length by omega, c2, zkD u (by omega)]
 rfl
theorem zsL (s : TSign) (hg : gS s.1 = true) (t : List Int) (ht : t.length ≤ 1048576) : ∀ (u x : List Int) (i : Nat) (k : Int), t.drop i = u ++ x → i ≤ t.length → 0 ≤ k → k + 3 * u.length ≤ 4000000 → sE s.1 k u = some [] → zdH M t i s k = some (.inl (((i + u.length : Nat) : Int), ())) := by
 intro u
 induction u with
 | nil =>
  intro x i k h hi h0 hb hk
  simp only [sE] at hk
  split at hk
  ·apply zjT
   simp only [zfn]
   rw [if_neg (by simp; omega)]
   simp
  ·cases hk
 | cons n u ih =>
  intro x i k h hi h0 hb hk
  have h1 : i < t.length := by
   have hl := congrArg List.length h
   simp at hl; omega
  have hd := h
  rw [List.drop_eq_getElem_cons h1, List.cons_append] at hd
  obtain ⟨hn, hd⟩ := List.cons.inj hd
  simp only [sE] at hk
  split at hk
  ·cases hk
  ·rename_i hk'
   split at hk
   ·cases hk
   ·rename_i hbad
    have ha := zlz hg n
    simp only [List.length_cons] at hb
    have := ih x (i + 1) (k - 1 + ar s.1 n) hd (by omega) (by omega) (by omega) hk
    apply zjT
    simp only [zfn]
    rw [if_pos (by simp; omega), ze h1, hn]
    simp only [Option.bind_some, zb, zt4 s n hbad]
    rw [za (by omega), w64 (x := ar s.1 n - 1) (by omega) (by omega), w64 (by omega) (by omega), show k + (ar s.1 n - 1) = k - 1 + ar s.1 n by omega, this]
    simp; omega
theorem zrT (s : TSign) (hg : gS s.1 = true) (t : List Int) (ht : t.length ≤ 1000000) {i : Nat} {u x : List Int} (h : t.drop i = u ++ x) (hu : Tm s.1 u) : zau M s t i = some ((u, ()), ()) := by
 obtain ⟨c1, c2⟩ := znE h (Tm.pos hu)
 have hp := Tm.pos hu
 have he := zsL s hg t (by omega) u x i 1 h (by omega) (by omega) (by omega) hu
 have he' : zd0 M s t i = some ((((i + u.length : Nat) : Int), ()), ()) := by
  apply zmH
  simp only [zhy, zb, he, Option.bind_some, Sum.elim_inl]
 apply zqm
 simp only [ziZ, zb, he', Option.bind_some]
 rw [if_pos (by omega), Int.toNat_natCast, Int.toNat_natCast, c2, if_pos (by omega)]
theorem ztq (sub : List (List Int)) (σ : Int → List Int) (hσ : SubF sub σ) (hb : ∀ v, (σ v).length ≤ 100000) (T : List Int) (hT : T.length ≤ 100) (hv : ∀ n ∈ T, -12 ≤ n) :
  ∀ k i : Nat, i + k = T.length → ∀ o : List Int, o.length ≤ 40 → zd3 M sub o T T.length i = some (if (o ++ apS σ (T.drop i)).length ≤ 40 then .inl (o ++ apS σ (T.drop i), ()) else .inr (([], false, ()), ())) := by
 intro k
 induction k with
 | zero =>
  intro i hi o ho
  obtain rfl : i = T.length := by omega
  apply zmk
  simp only [zgE]
  rw [if_neg (by simp), List.drop_length]
  simp [apS, ho]
 | succ k ih =>
  intro i hi o ho
  have h1 : i < T.length := by omega
  have h2 := hv _ (List.getElem_mem h1)
  have h3 := zvI hb T[i]
  have h4 := hb (-1 - T[i])
  have hs : apS σ (T.drop i) = rp σ T[i] ++ apS σ (T.drop (i + 1)) := by rw [List.drop_eq_getElem_cons h1]; simp only [apS, List.flatMap_cons]
  have go : ∀ x : List Int, rp σ T[i] = x → (if decide (((o ++ x).length : Int) > (40 : Int)) = true then some (.inr (([], false, ()), ())) else zd3 M sub (o ++ x) T T.length ((i + 1 : Nat) : Int)) = some (if (o ++ apS σ (T.drop i)).length ≤ 40 then .inl (o ++ apS σ (T.drop i), ()) else .inr (([], false, ()), ())) := by
   intro x hx
   subst hx
   rw [hs, ← List.append_assoc]
   by_cases hl : (o ++ rp σ T[i]).length ≤ 40
   ·rw [if_neg (by simp only [decide_eq_true_eq]; omega), ih (i + 1) (by omega) _ hl]
   ·rw [if_pos (by simp only [decide_eq_true_eq]; omega), if_neg (by rw [List.length_append]; omega)]
  apply zmk
  simp only [zgE]
  rw [if_pos (by simpa using h1), ze h1]
  simp only [Option.bind_some]
  by_cases hn : T[i] < 0
  ·rw [if_pos (by simpa using hn), w64 (x := -1 - T[i]) (by omega) (by omega), hσ.idx (by omega) (by omega)]
   simp only [Option.bind_some]
   by_cases hl : 0 < (σ (-1 - T[i])).length
   ·rw [if_pos (by simp; omega), if_pos (by omega)]
    simp only [Option.bind_some, Sum.elim_inl]
    rw [za (by omega)]
    exact go _ (by unfold rp; rw [if_pos ⟨hn, hl⟩])
   ·rw [if_neg (by simp only [decide_eq_true_eq]; omega), if_pos (by simp; omega)]
    simp only [Option.bind_some, Sum.elim_inl]
    rw [za (by omega)]
    exact go _ (by unfold rp; rw [if_neg (fun q => hl q.2)])
  ·rw [if_neg (by simpa using hn), if_pos (by simp; omega)]
   simp only [Option.bind_some, Sum.elim_inl]
   rw [za (by omega)]
   exact go _ (by unfold rp; rw [if_neg (fun q => hn q.1)])
theorem zmi (sub : List (List Int)) (σ : Int → List Int) (hσ : SubF sub σ) (hb : ∀ v, (σ v).length ≤ 100000) (T : List Int) (hT : T.length ≤ 100) (hv : ∀ n ∈ T, -12 ≤ n) : zbm M sub T = some (if (apS σ T).length ≤ 40 then ((apS σ T, true, ()), ()) else (([], false, ()), ())) := by
 apply zuS
 have := ztq sub σ hσ hb T hT hv T.length 0 (by omega) [] (by simp)
 rw [show ((0 : Nat) : Int) = 0 from rfl, List.drop_zero, List.nil_append] at this
 simp only [zl5, this, Option.bind_some]
 split <;> rfl
end Go.Proofs.YtenknihdnkiplaaGreatSs.Ev
namespace Go.Proofs.YtenknihdnkiplaaGreatSs.Ev
open Go
set_option autoImplicit false
set_option linter.unusedVariables false
set_option linter.unusedSimpArgs false
theorem zAh (t : List Int) (v : Int) (ht : t.length ≤ 17592186044416) (h0 : -1000 ≤ v) (h1 : v ≤ 1000) : zht M t v = some ((decide (-1 - v ∈ t), ()), ()) := by
 apply zrw
 simp only [zjF]
 rw [w64 (x := -1 - v) (by omega) (by omega), znO t _ ht]
 rfl
def inV (ts : List (List Int)) (v : Int) : Bool := ts.any fun t => decide (-1 - v ∈ t)
theorem zuN (ts : List (List Int)) (v : Int) (h0 : -1000 ≤ v) (h1 : v ≤ 1000) (hl : ts.length ≤ 17592186044416) (hx : ∀ t ∈ ts, t.length ≤ 17592186044416) : ∀ k i : Nat, i + k = ts.length → ∃ r, zP M ts (v, ()) ts.length i = some r ∧ (match r with | .inl _ => inV (ts.drop i) v = false | .inr r => 0 ≤ r.1.1 ∧ inV (ts.drop i) v = true) := by
 intro k
 induction k with
 | zero =>
  intro i hi
  obtain rfl : i = ts.length := by omega
  exact ⟨.inl (), zaJ _ _ _ _ (by simp [zJ]), by simp [inV]⟩
 | succ k ih =>
  intro i hi
  have h2 : i < ts.length := by omega
  obtain ⟨r, hr, hm⟩ := ih (i + 1) (by omega)
  rw [List.drop_eq_getElem_cons h2]
  have hc := zAh ts[i] v (hx _ (List.getElem_mem h2)) h0 h1
  cases hp : decide (-1 - v ∈ ts[i]) with
  | false =>
   refine ⟨r, zaJ _ _ _ _ ?_, ?_⟩
   ·simp only [zJ]
    rw [if_pos (by simpa using h2), ze h2]
    simp only [Option.bind_some, hc, hp, Bool.false_eq_true, if_false]
    rw [za (by omega)]
    exact hr
   ·cases r with
    | inl r => simp only [inV, List.any_cons, hp, Bool.false_or]; exact hm
    | inr r => simp only [inV, List.any_cons, hp, Bool.false_or]; exact hm
  | true =>
   refine ⟨.inr (((i : Int), ()), ()), zaJ _ _ _ _ ?_, Int.natCast_nonneg i, ?_⟩
   ·simp only [zJ]
    rw [if_pos (by simpa using h2), ze h2]
    simp only [Option.bind_some, hc, hp, if_true]
   ·simp only [inV, List.any_cons, hp, Bool.true_or]
theorem zt0 (ts : List (List Int)) (v : Int) (h0 : -1000 ≤ v) (h1 : v ≤ 1000) (hl : ts.length ≤ 17592186044416) (hx : ∀ t ∈ ts, t.length ≤ 17592186044416) : zaa M ts (v, ()) = some ((inV ts v, ()), ()) := by
 obtain ⟨r, hr, hm⟩ := zuN ts v h0 h1 hl hx ts.length 0 (by omega)
 rw [show ((0 : Nat) : Int) = 0 from rfl] at hr
 rw [List.drop_zero] at hm
 apply zfq
 cases r with
 | inl r =>
  rw [zac, zb4 ts (v, ()) (r := ((-1, ()), ())) (by simp only [zal, hr, Option.bind_some, Sum.elim_inl])]
  simp only at hm
  simp [hm]
 | inr r =>
  rw [zac, zb4 ts (v, ()) (r := r) (by simp only [zal, hr, Option.bind_some, Sum.elim_inr])]
  simp only at hm
  simp [hm]
theorem zs4 (ts : List (List Int)) (hl : ts.length ≤ 17592186044416) (hx : ∀ t ∈ ts, t.length ≤ 17592186044416) : ∀ k i : Nat, i + k = 12 → ∀ o : List Int, o = ((List.range i).map Int.ofNat).filter (inV ts) → ze2 M ts o i = some (.inl (upTo (inV ts), ())) := by
 intro k
 induction k with
 | zero =>
  intro i hi o ho
  obtain rfl : i = 12 := by omega
  subst ho
  exact zlq _ _ _ (by simp [zge, upTo])
 | succ k ih =>
  intro i hi o ho
  have hp := zxA (inV ts) i (by omega) o ho (by omega)
  have hol : o.length ≤ 12 := by rw [ho]; exact Nat.le_trans (List.length_filter_le _ _) (by simp; omega)
  apply zlq
  simp only [zge]
  rw [if_pos (by simp; omega), zt0 ts i (by omega) (by omega) hl hx]
  simp only [Option.bind_some]
  cases hv : inV ts (i : Int) with
  | true =>
   rw [hv, if_pos rfl] at hp
   rw [if_pos rfl, if_pos (by simp; omega)]
   simp only [Option.bind_some, Sum.elim_inl]
   rw [za (by omega)]
   exact ih (i + 1) (by omega) _ hp.symm
  | false =>
   rw [hv, if_neg (by simp)] at hp
   rw [if_neg (by simp)]
   simp only [Option.bind_some, Sum.elim_inl]
   rw [za (by omega)]
   exact ih (i + 1) (by omega) _ hp.symm
theorem zuQ (ts : List (List Int)) (hl : ts.length ≤ 17592186044416) (hx : ∀ t ∈ ts, t.length ≤ 17592186044416) : zcV M ts = some ((upTo (inV ts), ()), ()) := by
 apply ztb
 simp only [zln]
 have := zs4 ts hl hx 12 0 (by omega) [] (by simp)
 rw [show ((0 : Nat) : Int) = 0 from rfl] at this
 rw [this]
 rfl
end Go.Proofs.YtenknihdnkiplaaGreatSs.Ev
namespace Go.Proofs.YtenknihdnkiplaaGreatSs.Ev
open Go
set_option autoImplicit false
set_option linter.unusedVariables false
set_option linter.unusedSimpArgs false
theorem zzD {a : List Int} : ∀ (t : List Int) (k : Int), sE a k t = some [] → ∀ n ∈ t, -12 ≤ n ∧ n < a.length := by
 intro t
 induction t with
 | nil => intro k _ n hn; cases hn
 | cons m t ih =>
  intro k h n hn
  simp only [sE] at h
  split at h
  ·cases h
  ·split at h
   ·cases h
   ·rename_i hb
    unfold badN at hb
    rcases List.mem_cons.1 hn with rfl | hn
    ·omega
    ·exact ih _ h n hn
theorem zi3 {a t : List Int} (h : isT a t = true) : t.length ≤ 40 ∧ ∀ n ∈ t, -12 ≤ n ∧ n < a.length := by
 simp only [isT, Bool.and_eq_true, decide_eq_true_eq] at h
 exact ⟨h.1, zzD t 1 h.2⟩
end Go.Proofs.YtenknihdnkiplaaGreatSs.Ev
namespace Go.Proofs.YtenknihdnkiplaaGreatSs.Ev
open Go
set_option autoImplicit false
set_option linter.unusedVariables false
set_option linter.unusedSimpArgs false
def tms (c : List TLit) : List (List Int) := c.flatMap fun x => [x.2.1, x.2.2.1]
theorem zhY (c : List TLit) : (tms c).length = 2 * c.length := by
 induction c with
 | nil => rfl
 | cons x r ih =>
  have : tms (x :: r) = [x.2.1, x.2.2.1] ++ tms r := rfl
  rw [this, List.length_append, ih]; simp; omega
theorem zbh {c : List TLit} {t : List Int} : t ∈ tms c ↔ ∃ x ∈ c, t = x.2.1 ∨ t = x.2.2.1 := by
 simp [tms]
theorem zrP (c : List TLit) (hc : c.length ≤ 1048576) : ∀ k i : Nat, i + k = c.length → ∀ o : List (List Int), o.length ≤ 2 * i → zes M o c c.length i = some (.inl (o ++ tms (c.drop i), ())) := by
 intro k
 induction k with
 | zero =>
  intro i hi o ho
  obtain rfl : i = c.length := by omega
  exact zkE _ _ _ _ (by simp [zfQ, tms])
 | succ k ih =>
  intro i hi o ho
  have h1 : i < c.length := by omega
  apply zkE
  simp only [zfQ]
  rw [if_pos (by simpa using h1), ze h1]
  simp only [Option.bind_some]
  rw [if_pos (by simp; omega), za (by omega), ih (i + 1) (by omega) _ (by simp; omega), List.drop_eq_getElem_cons h1]
  have : tms (c[i] :: c.drop (i + 1)) = [c[i].2.1, c[i].2.2.1] ++ tms (c.drop (i + 1)) := rfl
  rw [this, List.append_assoc]
theorem zkK (c : List TLit) (hc : c.length ≤ 1048576) : zaT M c = some ((tms c, ()), ()) := by
 apply zrL
 have := zrP c hc c.length 0 (by omega) [] (by simp)
 rw [show ((0 : Nat) : Int) = 0 from rfl] at this
 simp only [zj1, this, Option.bind_some, Sum.elim_inl, List.nil_append, List.drop_zero]
end Go.Proofs.YtenknihdnkiplaaGreatSs.Ev
namespace Go.Proofs.YtenknihdnkiplaaGreatSs.Ev
open Go
set_option autoImplicit false
set_option linter.unusedVariables false
set_option linter.unusedSimpArgs false
def negs (t : List Int) : List Int := (t.filter fun n => decide (n < 0)).map fun n => -1 - n
theorem zyg {x : Int} (h : x < 0) (r : List Int) : negs (x :: r) = (-1 - x) :: negs r := by simp [negs, h]
theorem zx3 {x : Int} (h : ¬ x < 0) (r : List Int) : negs (x :: r) = negs r := by simp [negs, h]
theorem zqj (t : List Int) : (negs t).length ≤ t.length := by simp only [negs, List.length_map]; exact List.length_filter_le _ _
theorem ztQ {t : List Int} {v : Int} : v ∈ negs t ↔ 0 ≤ v ∧ -1 - v ∈ t := by
 simp only [negs, List.mem_map, List.mem_filter, decide_eq_true_eq]
 constructor
 ·rintro ⟨n, ⟨h1, h2⟩, rfl⟩
  exact ⟨by omega, by rw [show -1 - (-1 - n) = n by omega]; exact h1⟩
 ·rintro ⟨h1, h2⟩
  exact ⟨-1 - v, ⟨h2, by omega⟩, by omega⟩
theorem zrN (t : List Int) (ht : t.length ≤ 4000) (hw : ∀ n ∈ t, -1000 ≤ n) : ∀ k i : Nat, i + k = t.length → ∀ o : List Int, o.length ≤ i → ze6 M o t t.length i = some (.inl ((negs (t.drop i)).foldl putN o, ())) := by
 intro k
 induction k with
 | zero =>
  intro i hi o ho
  obtain rfl : i = t.length := by omega
  exact zlt _ _ _ _ (by simp [zgf, negs])
 | succ k ih =>
  intro i hi o ho
  have h1 : i < t.length := by omega
  have hn := hw _ (List.getElem_mem h1)
  apply zlt
  simp only [zgf]
  rw [if_pos (by simpa using h1), ze h1, List.drop_eq_getElem_cons h1]
  simp only [Option.bind_some]
  by_cases hx : t[i] < 0
  ·have hl := zqp o (-1 - t[i])
   rw [if_pos (by simpa using hx), w64 (x := -1 - t[i]) (by omega) (by omega), zxE o (by omega)]
   simp only [Option.bind_some, Sum.elim_inl]
   rw [za (by omega), ih (i + 1) (by omega) _ (by omega)]
   rw [zyg hx]
   rfl
  ·rw [if_neg (by simpa using hx)]
   simp only [Option.bind_some, Sum.elim_inl]
   rw [za (by omega), ih (i + 1) (by omega) _ (by omega)]
   rw [zx3 hx]
theorem zpq (t : List Int) (ht : t.length ≤ 4000) (hw : ∀ n ∈ t, -1000 ≤ n) : zfA M t = some (((negs t).foldl putN [], ()), ()) := by
 apply ztk
 have := zrN t ht hw t.length 0 (by omega) [] (by simp)
 rw [show ((0 : Nat) : Int) = 0 from rfl] at this
 simp only [zle, this, Option.bind_some, Sum.elim_inl, List.drop_zero]
def lvs (x : TLit) : List Int := (negs x.2.1).foldl putN [] ++ (negs x.2.2.1).foldl putN []
theorem zvu {x : TLit} {v : Int} : v ∈ lvs x ↔ 0 ≤ v ∧ (-1 - v ∈ x.2.1 ∨ -1 - v ∈ x.2.2.1) := by
 simp only [lvs, List.mem_append, zim, List.not_mem_nil, false_or, ztQ]
 constructor
 ·rintro (⟨h1, h2⟩ | ⟨h1, h2⟩)
  ·exact ⟨h1, .inl h2⟩
  ·exact ⟨h1, .inr h2⟩
 ·rintro ⟨h1, h2 | h2⟩
  ·exact .inl ⟨h1, h2⟩
  ·exact .inr ⟨h1, h2⟩
theorem zu4 (c : List TLit) (n j : Int) (vs : List Int) (hl : vs.length ≤ 500) : ∀ k i : Nat, i + k = vs.length → ∀ o : List Int, o.length ≤ 400 + i → zbY M o c n j vs vs.length i = some (.inl ((vs.drop i).foldl putN o, c, n, j, ())) := by
 intro k
 induction k with
 | zero =>
  intro i hi o ho
  obtain rfl : i = vs.length := by omega
  exact zjC _ _ _ _ _ _ _ (by simp [zex])
 | succ k ih =>
  intro i hi o ho
  have h1 : i < vs.length := by omega
  apply zjC
  simp only [zex]
  rw [if_pos (by simpa using h1), if_pos (by omega), Int.toNat_natCast, List.getElem?_eq_getElem h1]
  simp only [Option.bind_some, zxE o (by omega)]
  have := zqp o vs[i]
  rw [za (by omega), ih (i + 1) (by omega) _ (by omega), List.drop_eq_getElem_cons h1]
  rfl
def liV (x : TLit) : Prop := x.2.1.length ≤ 40 ∧ x.2.2.1.length ≤ 40 ∧ (∀ n ∈ x.2.1, -12 ≤ n) ∧ ∀ n ∈ x.2.2.1, -12 ≤ n
theorem foldv (c : List TLit) (hc : ∀ x ∈ c, liV x) : ∀ o : List Int, Up o → (∀ v ∈ o, 0 ≤ v ∧ v ≤ 11) → Up (c.foldl (fun o x => (lvs x).foldl putN o) o) ∧ (∀ v ∈ c.foldl (fun o x => (lvs x).foldl putN o) o, 0 ≤ v ∧ v ≤ 11) ∧ ∀ v, v ∈ c.foldl (fun o x => (lvs x).foldl putN o) o ↔ v ∈ o ∨ ∃ x ∈ c, v ∈ lvs x := by
 induction c with
 | nil => intro o h1 h2; exact ⟨h1, h2, by simp⟩
 | cons x r ih =>
  intro o h1 h2
  have hx := hc x (by simp)
  have hb : ∀ v ∈ (lvs x).foldl putN o, 0 ≤ v ∧ v ≤ 11 := by
   intro v hv
   rcases (zim _ _ _).1 hv with h | h
   ·exact h2 v h
   ·obtain ⟨a1, a2⟩ := zvu.1 h
    rcases a2 with a2 | a2
    ·have := hx.2.2.1 _ a2; omega
    ·have := hx.2.2.2 _ a2; omega
  obtain ⟨g1, g2, g3⟩ := ih (fun y hy => hc y (by simp [hy])) _ (zri (lvs x) o h1) hb
  refine ⟨g1, g2, fun v => ?_⟩
  rw [List.foldl_cons, g3 v, zim]
  simp only [List.mem_cons, exists_eq_or_imp, or_assoc]
theorem zsZ (c : List TLit) (hl : c.length ≤ 1000) (hc : ∀ x ∈ c, liV x) : ∀ k i : Nat, i + k = c.length → ∀ o : List Int, Up o → (∀ v ∈ o, 0 ≤ v ∧ v ≤ 11) → zeS M o c c.length i = some (.inl ((c.drop i).foldl (fun o x => (lvs x).foldl putN o) o, ())) := by
 intro k
 induction k with
 | zero =>
  intro i hi o ho hb
  obtain rfl : i = c.length := by omega
  exact zlo _ _ _ _ (by simp [zgb])
 | succ k ih =>
  intro i hi o ho hb
  have h1 : i < c.length := by omega
  have hx := hc _ (List.getElem_mem h1)
  have l1 := zqj c[i].2.1
  have l2 := zqj c[i].2.2.1
  have l3 := zks (negs c[i].2.1) []
  have l4 := zks (negs c[i].2.2.1) []
  have x1 := hx.1
  have x2 := hx.2.1
  simp only [List.length_nil] at l3 l4
  have ol := ho.len12 hb
  have step := foldv [c[i]] (by intro y hy; simp at hy; subst hy; exact hx) o ho hb
  simp only [List.foldl_cons, List.foldl_nil] at step
  apply zlo
  simp only [zgb]
  rw [if_pos (by simpa using h1), ze h1]
  simp only [Option.bind_some]
  rw [zpq _ (by omega) (fun n hn => by have := hx.2.2.1 n hn; omega)]
  simp only [Option.bind_some]
  rw [zpq _ (by omega) (fun n hn => by have := hx.2.2.2 n hn; omega)]
  simp only [Option.bind_some]
  rw [if_pos (by omega)]
  have hin := zu4 c c.length i (lvs c[i]) (by simp only [lvs, List.length_append]; omega) (lvs c[i]).length 0 (by omega) o (by omega)
  rw [show ((0 : Nat) : Int) = 0 from rfl, List.drop_zero] at hin
  have hin' : zbY M o c c.length i ((negs c[i].2.1).foldl putN [] ++ (negs c[i].2.2.1).foldl putN []) ((negs c[i].2.1).foldl putN [] ++ (negs c[i].2.2.1).foldl putN []).length 0 = some (.inl ((lvs c[i]).foldl putN o, c, c.length, i, ())) := hin
  rw [hin']
  simp only [Option.bind_some, Sum.elim_inl]
  rw [za (by omega), ih (i + 1) (by omega) _ step.1 step.2.1, List.drop_eq_getElem_cons h1]
  rfl
theorem zxO (c : List TLit) (hl : c.length ≤ 1000) (hc : ∀ x ∈ c, liV x) : ziA M c = some ((upTo (inV (tms c)), ()), ()) := by
 apply zsX
 have := zsZ c hl hc c.length 0 (by omega) [] List.Pairwise.nil (by simp)
 rw [show ((0 : Nat) : Int) = 0 from rfl] at this
 simp only [zll, this, Option.bind_some, Sum.elim_inl, List.drop_zero]
 obtain ⟨g1, g2, g3⟩ := foldv c hc [] List.Pairwise.nil (by simp)
 congr 3
 refine Up.ext g1 (zpw _) fun v => ?_
 rw [g3 v, zdg]
 simp only [List.not_mem_nil, false_or, zvu, inV, List.any_eq_true, decide_eq_true_eq]
 constructor
 ·rintro ⟨x, hx, h0, h⟩
  have hh := hc x hx
  refine ⟨h0, ?_, ?_⟩
  ·rcases h with h | h
   ·have := hh.2.2.1 _ h; omega
   ·have := hh.2.2.2 _ h; omega
  ·rcases h with h | h
   ·exact ⟨_, zbh.2 ⟨x, hx, .inl rfl⟩, h⟩
   ·exact ⟨_, zbh.2 ⟨x, hx, .inr rfl⟩, h⟩
 ·rintro ⟨h0, _, t, ht, h⟩
  obtain ⟨x, hx, h1⟩ := zbh.1 ht
  rcases h1 with rfl | rfl
  ·exact ⟨x, hx, h0, .inl h⟩
  ·exact ⟨x, hx, h0, .inr h⟩
theorem ziP {a : List Int} {c : List TLit} (h : clOK a c = true) : c.length ≤ 8 ∧ ∀ x ∈ c, liV x := by
 simp only [clOK, Bool.and_eq_true, decide_eq_true_eq] at h
 refine ⟨h.1, fun x hx => ?_⟩
 have := (List.all_eq_true.1 h.2) x hx
 simp only [litOK, Bool.and_eq_true] at this
 obtain ⟨l1, l2⟩ := zi3 this.1
 obtain ⟨r1, r2⟩ := zi3 this.2
 exact ⟨l1, r1, fun n hn => (l2 n hn).1, fun n hn => (r2 n hn).1⟩
end Go.Proofs.YtenknihdnkiplaaGreatSs.Ev
namespace Go.Proofs.YtenknihdnkiplaaGreatSs.Ev
open Go
set_option autoImplicit false
set_option linter.unusedVariables false
set_option linter.unusedSimpArgs false
def shn (by' n : Int) : Int := if n < 0 then n - by' else n
theorem zuV (by' : Int) (h0 : 0 ≤ by') (h1 : by' ≤ 1000) (t : List Int) (hl : t.length ≤ 1000000) (hx : ∀ n ∈ t, -1000000 ≤ n ∧ n ≤ 1000000) : ∀ k i : Nat, i + k = t.length → zfD M by' ((t.take i).map (shn by') ++ t.drop i) t.length i = some (.inl (t.map (shn by'), ())) := by
 intro k
 induction k with
 | zero =>
  intro i hi
  obtain rfl : i = t.length := by omega
  apply zlL
  simp [zgT]
 | succ k ih =>
  intro i hi
  have h2 : i < t.length := by omega
  have hn := hx _ (List.getElem_mem h2)
  have hlen : ((t.take i).map (shn by') ++ t.drop i).length = t.length := by simp; omega
  have hget : ((t.take i).map (shn by') ++ t.drop i)[i]? = some t[i] := by
   rw [List.getElem?_append_right (by simp; omega)]
   simp [Nat.min_eq_left (Nat.le_of_lt h2), h2]
  have hnext : (t.take (i + 1)).map (shn by') ++ t.drop (i + 1) = ((t.take i).map (shn by') ++ t.drop i).set i (shn by' t[i]) := by
   rw [List.take_succ_eq_append_getElem h2, List.map_append, List.set_append_right _ _ (by simp; omega)]
   have e : i - ((t.take i).map (shn by')).length = 0 := by simp; omega
   rw [e, List.drop_eq_getElem_cons h2, List.set_cons_zero, List.append_assoc]
   rfl
  have ih' := ih (i + 1) (by omega)
  rw [hnext] at ih'
  apply zlL
  simp only [zgT]
  rw [if_pos (by simpa using h2), if_pos (by rw [hlen]; omega), Int.toNat_natCast, hget]
  simp only [Option.bind_some]
  by_cases hneg : t[i] < 0
  ·rw [if_pos (by simpa using hneg), if_pos (by rw [hlen]; omega), w64 (x := t[i] - by') (by omega) (by omega)]
   simp only [Option.bind_some, Sum.elim_inl]
   rw [za (by omega)]
   have : shn by' t[i] = t[i] - by' := by simp [shn, hneg]
   rw [this] at ih'
   exact ih'
  ·rw [if_neg (by simpa using hneg)]
   simp only [Option.bind_some, Sum.elim_inl]
   rw [za (by omega)]
   have : shn by' t[i] = t[i] := by simp [shn, hneg]
   rw [this] at ih'
   have hset : ((t.take i).map (shn by') ++ t.drop i).set i t[i] = (t.take i).map (shn by') ++ t.drop i := by
    apply List.ext_getElem?
    intro j
    rw [List.getElem?_set]
    split
    ·rename_i e; subst e; rw [hget, if_pos (by rw [hlen]; exact h2)]
    ·rfl
   rw [hset] at ih'
   exact ih'
theorem zy4 (t : List Int) (by' : Int) (h0 : 0 ≤ by') (h1 : by' ≤ 1000) (hl : t.length ≤ 1000000) (hx : ∀ n ∈ t, -1000000 ≤ n ∧ n ≤ 1000000) : zji M t by' = some ((t.map (shn by'), ()), ()) := by
 apply zum
 simp only [zmc]
 have := zuV by' h0 h1 t hl hx t.length 0 (by omega)
 rw [show ((0 : Nat) : Int) = 0 from rfl] at this
 simp only [List.take_zero, List.map_nil, List.nil_append, List.drop_zero] at this
 rw [if_pos (by omega), this]
 rfl
theorem zss (by' : Int) (h0 : 0 ≤ by') (h1 : by' ≤ 1000) (t : List Int) (hl : t.length ≤ 1000000) (hx : ∀ n ∈ t, -1000000 ≤ n ∧ n ≤ 1000000) : ∀ k i : Nat, i + k = t.length → zeo M by' ((t.take i).map (shn by') ++ t.drop i) t.length i = some (.inl (t.map (shn by'), ())) := by
 intro k
 induction k with
 | zero =>
  intro i hi
  obtain rfl : i = t.length := by omega
  apply zkN
  simp [zfV]
 | succ k ih =>
  intro i hi
  have h2 : i < t.length := by omega
  have hn := hx _ (List.getElem_mem h2)
  have hlen : ((t.take i).map (shn by') ++ t.drop i).length = t.length := by simp; omega
  have hget : ((t.take i).map (shn by') ++ t.drop i)[i]? = some t[i] := by
   rw [List.getElem?_append_right (by simp; omega)]
   simp [Nat.min_eq_left (Nat.le_of_lt h2), h2]
  have hnext : (t.take (i + 1)).map (shn by') ++ t.drop (i + 1) = ((t.take i).map (shn by') ++ t.drop i).set i (shn by' t[i]) := by
   rw [List.take_succ_eq_append_getElem h2, List.map_append, List.set_append_right _ _ (by simp; omega)]
   have e : i - ((t.take i).map (shn by')).length = 0 := by simp; omega
   rw [e, List.drop_eq_getElem_cons h2, List.set_cons_zero, List.append_assoc]
   rfl
  have ih' := ih (i + 1) (by omega)
  rw [hnext] at ih'
  apply zkN
  simp only [zfV]
  rw [if_pos (by simpa using h2), if_pos (by rw [hlen]; omega), Int.toNat_natCast, hget]
  simp only [Option.bind_some]
  by_cases hneg : t[i] < 0
  ·rw [if_pos (by simpa using hneg), if_pos (by rw [hlen]; omega), w64 (x := t[i] - by') (by omega) (by omega)]
   simp only [Option.bind_some, Sum.elim_inl]
   rw [za (by omega)]
   have : shn by' t[i] = t[i] - by' := by simp [shn, hneg]
   rw [this] at ih'
   exact ih'
  ·rw [if_neg (by simpa using hneg)]
   simp only [Option.bind_some, Sum.elim_inl]
   rw [za (by omega)]
   have : shn by' t[i] = t[i] := by simp [shn, hneg]
   rw [this] at ih'
   have hset : ((t.take i).map (shn by') ++ t.drop i).set i t[i] = (t.take i).map (shn by') ++ t.drop i := by
    apply List.ext_getElem?
    intro j
    rw [List.getElem?_set]
    split
    ·rename_i e; subst e; rw [hget, if_pos (by rw [hlen]; exact h2)]
    ·rfl
   rw [hset] at ih'
   exact ih'
theorem zsz (t : List Int) (by' : Int) (h0 : 0 ≤ by') (h1 : by' ≤ 1000) (hl : t.length ≤ 1000000) (hx : ∀ n ∈ t, -1000000 ≤ n ∧ n ≤ 1000000) : zgr M t by' = some ((t.map (shn by'), ()), ()) := by
 apply zsk
 have ho : zbd M t = some ((t, ()), ()) := by
  apply zpb
  simp only [zjs, List.length_nil, List.nil_append]
  rw [if_pos (by omega)]
 simp only [zj2, ho, Option.bind_some]
 have := zss by' h0 h1 t hl hx t.length 0 (by omega)
 rw [show ((0 : Nat) : Int) = 0 from rfl] at this
 simp only [List.take_zero, List.map_nil, List.nil_append, List.drop_zero] at this
 rw [this]
 rfl
end Go.Proofs.YtenknihdnkiplaaGreatSs.Ev
namespace Go.Proofs.YtenknihdnkiplaaGreatSs.Ev
open Go
set_option autoImplicit false
set_option linter.unusedVariables false
set_option linter.unusedSimpArgs false
def nmb (m : List (Int × Int)) (n : Int) : List (Int × Int) := if mhas m n = true then m else mput m n (-1 - (m.length : Int))
def rnm : List (Int × Int) → List Int → List Int × List (Int × Int)
 | m, [] => ([], m)
 | m, n :: r => if 0 ≤ n then (n :: (rnm m r).1, (rnm m r).2) else (mget (nmb m n) n 0 :: (rnm (nmb m n) r).1, (rnm (nmb m n) r).2)
def rnL : List (Int × Int) → List (List Int) → List (List Int)
 | _, [] => []
 | m, t :: r => (rnm m t).1 :: rnL (rnm m t).2 r
theorem zyr {α : Type} (m : List (Int × α)) (k : Int) (y : α) : (mput m k y).length ≤ m.length + 1 := by
 induction m with
 | nil => simp [mput]
 | cons p r ih =>
  obtain ⟨a, b⟩ := p
  simp only [mput]
  split <;> simp only [List.length_cons] <;> omega
theorem zvy (m : List (Int × Int)) (n : Int) : (nmb m n).length ≤ m.length + 1 := by
 unfold nmb
 split
 ·omega
 ·exact zyr _ _ _
theorem znm : ∀ (t : List Int) (m : List (Int × Int)), (rnm m t).1.length = t.length ∧ (rnm m t).2.length ≤ m.length + t.length
 | [], m => by simp [rnm]
 | n :: r, m => by
  simp only [rnm]
  split
  ·have := znm r m
   simp only [List.length_cons]; omega
  ·have h1 := znm r (nmb m n)
   have h2 := zvy m n
   simp only [List.length_cons]; omega
theorem zuX (outs : List (List Int)) (i : Nat) (hi : i < outs.length) (ho : outs.length ≤ 1000000) (l : List (List Int)) (N I : Int) (t : List Int) (ht : t.length ≤ 1000000) : ∀ (k j : Nat) (m : List (Int × Int)) (P : List Int), j + k = t.length → P.length = j → m.length + k ≤ 2000000 →
  zc4 M m (outs.set i (P ++ t.drop j)) i l N I t t.length j = some (.inl ((rnm m (t.drop j)).2, outs.set i (P ++ (rnm m (t.drop j)).1), l, N, I, ())) := by
 intro k
 induction k with
 | zero =>
  intro j m P hj hP hm
  obtain rfl : j = t.length := by omega
  apply zjI
  simp [zeJ, rnm]
 | succ k ih =>
  intro j m P hj hP hm
  have h1 : j < t.length := by omega
  rw [List.drop_eq_getElem_cons h1]
  apply zjI
  simp only [zeJ]
  rw [if_pos (by simpa using h1), ze h1]
  simp only [Option.bind_some]
  by_cases h0 : 0 ≤ t[j]
  ·rw [if_pos (by simpa using h0)]
   simp only [Option.bind_some, Sum.elim_inl]
   have := ih (j + 1) m (P ++ [t[j]]) (by omega) (by simp [hP]) (by omega)
   rw [List.append_assoc, List.append_assoc] at this
   simp only [List.cons_append, List.nil_append] at this
   rw [za (by omega), this]
   simp only [rnm, if_pos h0]
  ·rw [if_neg (by simpa using h0)]
   have hl := zvy m t[j]
   have hmap : (if (!(mhas m t[j])) = true then (some (.inl ((mput m t[j] (IntKind.i64.wrap ((-1 : Int) - (List.length m : Int)))), outs.set i (P ++ t[j] :: t.drop (j + 1)), (i : Int), (j : Int), t[j], l, N, I, t, (t.length : Int), (j : Int), ()))) else (some (.inl (m, outs.set i (P ++ t[j] :: t.drop (j + 1)), (i : Int), (j : Int), t[j], l, N, I, t, (t.length : Int), (j : Int), ())))
     : Option (((List (Int × Int)) × (List (List Int)) × Int × Int × Int × (List (List Int)) × Int × Int × (List Int) × Int × Int × Unit) ⊕ (((List (Int × Int)) × (List (List Int)) × Int × (List (List Int)) × Int × Int × (List Int) × Int × Int × Unit) ⊕ (((List (Int × Int)) × (List (List Int)) × (List (List Int)) × Int × Int × Unit) ⊕ ((((List (List Int)) × Unit) × (Unit)))))))
     = some (.inl (nmb m t[j], outs.set i (P ++ t[j] :: t.drop (j + 1)), (i : Int), (j : Int), t[j], l, N, I, t, (t.length : Int), (j : Int), ())) := by
    unfold nmb
    cases mhas m t[j] with
    | true => rfl
    | false => rw [w64 (by omega) (by omega)]; rfl
   rw [hmap]
   simp only [Option.bind_some, Sum.elim_inl]
   have hset : (outs.set i (P ++ t[j] :: t.drop (j + 1)))[i]? = some (P ++ t[j] :: t.drop (j + 1)) := by simp [hi]
   have hel : (P ++ t[j] :: t.drop (j + 1))[j]? = some t[j] := by
    rw [List.getElem?_append_right (by omega), hP, Nat.sub_self]; rfl
   rw [if_pos (by rw [List.length_set]; omega), Int.toNat_natCast, hset]
   simp only [Option.bind_some]
   rw [if_pos (by simp; omega), Int.toNat_natCast, hel]
   simp only [Option.bind_some, Sum.elim_inl]
   rw [List.set_set, show (P ++ t[j] :: t.drop (j + 1)).set j (mget (nmb m t[j]) t[j] 0) = (P ++ [mget (nmb m t[j]) t[j] 0]) ++ t.drop (j + 1) by
    rw [List.set_append_right _ _ (by omega), hP, Nat.sub_self, List.set_cons_zero]; simp]
   have := ih (j + 1) (nmb m t[j]) (P ++ [mget (nmb m t[j]) t[j] 0]) (by omega) (by simp [hP]) (by omega)
   rw [za (by omega), this]
   simp only [rnm, if_neg h0]
   simp
theorem zs1 (l : List (List Int)) (hl : l.length ≤ 1000) (hx : ∀ t ∈ l, t.length ≤ 1000) : ∀ (k j : Nat) (m : List (Int × Int)) (D : List (List Int)), j + k = l.length → D.length = j → m.length ≤ 1000 * j → zeu M m (D ++ List.replicate k []) l l.length j = some (.inl (D ++ rnL m (l.drop j), ())) := by
 intro k
 induction k with
 | zero =>
  intro j m D hj hD hm
  obtain rfl : j = l.length := by omega
  apply zkR
  simp [zf3, rnL]
 | succ k ih =>
  intro j m D hj hD hm
  have h1 : j < l.length := by omega
  have ht := hx _ (List.getElem_mem h1)
  apply zkR
  simp only [zf3]
  have hlen : (D ++ List.replicate (k + 1) ([] : List Int)).length = l.length := by simp; omega
  have hget : (D ++ List.replicate (k + 1) ([] : List Int))[j]? = some [] := by
   rw [List.getElem?_append_right (by omega), hD, Nat.sub_self]; rfl
  rw [if_pos (by simpa using h1), ze h1]
  simp only [Option.bind_some]
  rw [if_pos (by omega), if_pos (by rw [hlen]; omega), Int.toNat_natCast, hget]
  simp only [Option.bind_some]
  have hin := zuX (D ++ List.replicate (k + 1) []) j (by omega) (by omega) l l.length j l[j] (by omega) l[j].length 0 m [] (by omega) rfl (by omega)
  rw [show ((0 : Nat) : Int) = 0 from rfl] at hin
  simp only [List.nil_append, List.drop_zero] at hin
  rw [hin]
  simp only [Option.bind_some, Sum.elim_inl]
  have hset : (D ++ List.replicate (k + 1) []).set j (rnm m l[j]).1 = (D ++ [(rnm m l[j]).1]) ++ List.replicate k [] := by
   rw [List.set_append_right _ _ (by omega), hD, Nat.sub_self, List.replicate_succ, List.set_cons_zero]; simp
  have hrl := (znm l[j] m).2
  rw [za (by omega), hset, ih (j + 1) _ _ (by omega) (by simp [hD]) (by omega), List.drop_eq_getElem_cons h1]
  simp [rnL]
theorem zyd (l : List (List Int)) (hl : l.length ≤ 1000) (hx : ∀ t ∈ l, t.length ≤ 1000) : ziy M l = some ((rnL [] l, ()), ()) := by
 apply ztu
 have := zs1 l hl hx l.length 0 [] [] (by omega) rfl (by simp)
 rw [show ((0 : Nat) : Int) = 0 from rfl] at this
 simp only [List.nil_append, List.drop_zero] at this
 simp only [zk3]
 rw [if_pos ⟨by omega, by omega, trivial⟩, Int.toNat_natCast, this]
 rfl
theorem zuI (a b : List Int) (hab : a.length = b.length) (ha : a.length ≤ 17592186044416) : ∀ k i : Nat, i + k = a.length → zbx M a b a.length i = some (if a.drop i = b.drop i then .inl () else .inr ((false, ()), ())) := by
 intro k
 induction k with
 | zero =>
  intro i hi
  obtain rfl : i = a.length := by omega
  apply zg9
  simp only [zca]
  rw [if_neg (by simp), List.drop_length, hab, List.drop_length, if_pos rfl]
 | succ k ih =>
  intro i hi
  have h1 : i < a.length := by omega
  have h2 : i < b.length := by omega
  apply zg9
  simp only [zca]
  rw [if_pos (by simpa using h1), ze h1, ze h2]
  simp only [Option.bind_some]
  rw [List.drop_eq_getElem_cons h1, List.drop_eq_getElem_cons h2]
  by_cases he : a[i] = b[i]
  ·rw [if_neg (by simpa using he), za (by omega), ih (i + 1) (by omega)]
   by_cases hd : a.drop (i + 1) = b.drop (i + 1)
   ·rw [if_pos hd, if_pos (by rw [he, hd])]
   ·rw [if_neg hd, if_neg (fun h => hd (List.cons.inj h).2)]
  ·rw [if_pos (by simpa using he), if_neg (fun h => he (List.cons.inj h).1)]
theorem zkc (a b : List Int) (ha : a.length ≤ 17592186044416) : zL M a b = some ((decide (a = b), ()), ()) := by
 apply zmK
 simp only [zf4]
 by_cases hl : a.length = b.length
 ·have := zuI a b hl ha a.length 0 (by omega)
  rw [show ((0 : Nat) : Int) = 0 from rfl, List.drop_zero, List.drop_zero] at this
  rw [if_neg (by simp [hl]), this]
  by_cases h : a = b
  ·rw [if_pos h]; simp [h]
  ·rw [if_neg h]; simp [h]
 ·have : ¬ a = b := fun h => hl (by rw [h])
  rw [if_pos (by simp; omega)]
  simp [this]
end Go.Proofs.YtenknihdnkiplaaGreatSs.Ev
namespace Go.Proofs.YtenknihdnkiplaaGreatSs.Ev
open Go
set_option autoImplicit false
set_option linter.unusedVariables false
set_option linter.unusedSimpArgs false
theorem zwd (n : Int) (t : List Int) (ht : t.length ≤ 1048576) : ∀ k i c : Nat, i + k = t.length → c ≤ i → zfS M n c t t.length i = some (.inl (((c + (t.drop i).count n : Nat) : Int), ())) := by
 intro k
 induction k with
 | zero =>
  intro i c hi hc
  obtain rfl : i = t.length := by omega
  apply zlX
  simp only [zgY]
  rw [if_neg (by simp), List.drop_length]
  simp
 | succ k ih =>
  intro i c hi hc
  have h1 : i < t.length := by omega
  apply zlX
  simp only [zgY]
  rw [if_pos (by simpa using h1), ze h1]
  simp only [Option.bind_some]
  rw [List.drop_eq_getElem_cons h1, List.count_cons]
  by_cases h : t[i] = n
  ·rw [if_pos (by simpa using h)]
   simp only [Option.bind_some, Sum.elim_inl]
   rw [za (by omega), za (by omega), ih (i + 1) (c + 1) (by omega) (by omega)]
   simp [h]; omega
  ·rw [if_neg (by simpa using h)]
   simp only [Option.bind_some, Sum.elim_inl]
   rw [za (by omega), ih (i + 1) c (by omega) (by omega)]
   simp [h]
theorem zxz (t : List Int) (n : Int) (ht : t.length ≤ 1048576) : zhH M t n = some ((((t.count n : Nat) : Int), ()), ()) := by
 apply zuk
 have := zwd n t ht t.length 0 0 (by omega) (by omega)
 rw [show ((0 : Nat) : Int) = 0 from rfl, List.drop_zero, Nat.zero_add] at this
 simp only [zl2, this, Option.bind_some, Sum.elim_inl]
theorem zv5 (n : Int) (t : List Int) (ht : t.length ≤ 1048576) : ∀ k i c : Nat, i + k = t.length → c ≤ i → zei M n c t t.length i = some (.inl (((c + (t.drop i).count n : Nat) : Int), ())) := by
 intro k
 induction k with
 | zero =>
  intro i c hi hc
  obtain rfl : i = t.length := by omega
  apply zkG
  simp only [zfM]
  rw [if_neg (by simp), List.drop_length]
  simp
 | succ k ih =>
  intro i c hi hc
  have h1 : i < t.length := by omega
  apply zkG
  simp only [zfM]
  rw [if_pos (by simpa using h1), ze h1]
  simp only [Option.bind_some]
  rw [List.drop_eq_getElem_cons h1, List.count_cons]
  by_cases h : t[i] = n
  ·rw [if_pos (by simpa using h)]
   simp only [Option.bind_some, Sum.elim_inl]
   rw [za (by omega), za (by omega), ih (i + 1) (c + 1) (by omega) (by omega)]
   simp [h]; omega
  ·rw [if_neg (by simpa using h)]
   simp only [Option.bind_some, Sum.elim_inl]
   rw [za (by omega), ih (i + 1) c (by omega) (by omega)]
   simp [h]
theorem zw9 (t : List Int) (n : Int) (ht : t.length ≤ 1048576) : zgq M t n = some ((((t.count n : Nat) : Int), ()), ()) := by
 apply zrM
 have := zv5 n t ht t.length 0 0 (by omega) (by omega)
 rw [show ((0 : Nat) : Int) = 0 from rfl, List.drop_zero, Nat.zero_add] at this
 simp only [zkb, this, Option.bind_some, Sum.elim_inl]
def wgh (a b : List Int) : Bool := decide (∀ v : Nat, v < 12 → b.count (-1 - (v : Int)) ≤ a.count (-1 - (v : Int)))
def gtLex : List Int → List Int → Bool
 | x :: a, y :: b => if x = y then gtLex a b else decide (0 ≤ x) && (decide (0 ≤ y) && decide (y < x))
 | _, _ => false
def gtT (a b : List Int) : Bool := wgh a b && (decide (b.length ≤ a.length) && (decide (b.length < a.length) || gtLex a b))
def cmpK (a b : List Int) : Int := if a = b then 0 else if gtT a b = true then 1 else if gtT b a = true then -1 else 2
theorem zth (a b : List Int) (ha : a.length ≤ 1048576) (hb : b.length ≤ 1048576) : ∀ k v : Nat, v + k = 12 → zcK M a b v = some (if decide (∀ w : Nat, w < 12 → v ≤ w → b.count (-1 - (w : Int)) ≤ a.count (-1 - (w : Int))) = true then .inl () else .inr ((false, ()), ())) := by
 intro k
 induction k with
 | zero =>
  intro v hv
  obtain rfl : v = 12 := by omega
  apply zi9
  simp only [zdZ]
  rw [if_neg (by simp), if_pos (by simp; omega)]
 | succ k ih =>
  intro v hv
  apply zi9
  simp only [zdZ]
  rw [if_pos (by simp; omega), w64 (by omega) (by omega)]
  simp only [Option.bind_some, zxz a _ ha, zxz b _ hb]
  by_cases h : b.count (-1 - (v : Int)) ≤ a.count (-1 - (v : Int))
  ·rw [if_neg (by simp; omega), za (by omega), ih (v + 1) (by omega)]
   have : (∀ w : Nat, w < 12 → v + 1 ≤ w → b.count (-1 - (w : Int)) ≤ a.count (-1 - (w : Int))) ↔ ∀ w : Nat, w < 12 → v ≤ w → b.count (-1 - (w : Int)) ≤ a.count (-1 - (w : Int)) := by
    constructor
    ·intro q w h1 h2
     by_cases e : w = v
     ·subst e; exact h
     ·exact q w h1 (by omega)
    ·intro q w h1 h2; exact q w h1 (by omega)
   simp only [this]
  ·rw [if_pos (by simp; omega), if_neg (by simp only [decide_eq_true_eq]; intro q; exact h (q v (by omega) (Nat.le_refl _)))]
theorem zyt (a b : List Int) (ha : a.length ≤ 1048576) (hb : b.length ≤ 1048576) : zgd M a b = some ((wgh a b, ()), ()) := by
 apply zpQ
 have := zth a b ha hb 12 0 (by omega)
 rw [show ((0 : Nat) : Int) = 0 from rfl] at this
 simp only [zij, this, Option.bind_some]
 have e : decide (∀ w : Nat, w < 12 → 0 ≤ w → b.count (-1 - (w : Int)) ≤ a.count (-1 - (w : Int))) = wgh a b := by
  unfold wgh
  simp
 rw [e]
 cases wgh a b <;> rfl
theorem zti (a b r : List Int) (ha : a.length ≤ 1048576) (hb : b.length ≤ 1048576) (hr : r.length ≤ 100000) (hv : ∀ v ∈ r, 0 ≤ v ∧ v ≤ 1000) : ∀ k i : Nat, i + k = r.length → zdP M a b r r.length i = some (if (r.drop i).all (fun v => decide (b.count (-1 - v) ≤ a.count (-1 - v))) = true then .inl () else .inr ((false, ()), ())) := by
 intro k
 induction k with
 | zero =>
  intro i hi
  obtain rfl : i = r.length := by omega
  apply zjX
  simp only [ze9]
  rw [if_neg (by simp), if_pos (by simp)]
 | succ k ih =>
  intro i hi
  have h1 : i < r.length := by omega
  have h2 := hv _ (List.getElem_mem h1)
  apply zjX
  simp only [ze9]
  rw [if_pos (by simpa using h1), if_pos (by omega), Int.toNat_natCast, List.getElem?_eq_getElem h1]
  simp only [Option.bind_some]
  rw [w64 (by omega) (by omega)]
  simp only [Option.bind_some, zw9 a _ ha, zw9 b _ hb]
  rw [List.drop_eq_getElem_cons h1, List.all_cons]
  by_cases h : b.count (-1 - r[i]) ≤ a.count (-1 - r[i])
  ·rw [if_neg (by simp; omega), za (by omega), ih (i + 1) (by omega), decide_eq_true h, Bool.true_and]
  ·rw [if_pos (by simp; omega), decide_eq_false h, Bool.false_and, if_neg (by simp)]
theorem zxY (a b : List Int) (ha : a.length ≤ 1048576) (hb : b.length ≤ 4000) (hw : ∀ n ∈ b, -12 ≤ n) : zhu M a b = some ((wgh a b, ()), ()) := by
 apply zrF
 have hm : ∀ v, v ∈ (negs b).foldl putN [] ↔ 0 ≤ v ∧ -1 - v ∈ b := by
  intro v; rw [zim, ztQ]; simp
 have hl : ((negs b).foldl putN []).length ≤ 100000 := by
  have := zks (negs b) []
  have := zqj b
  simp at *; omega
 have hv : ∀ v ∈ (negs b).foldl putN [], 0 ≤ v ∧ v ≤ 1000 := by
  intro v h
  have h := (hm v).1 h
  have := hw _ h.2
  omega
 have := zti a b _ ha (by omega) hl hv _ 0 (by rw [Nat.zero_add])
 rw [show ((0 : Nat) : Int) = 0 from rfl, List.drop_zero] at this
 simp only [zjm, zpq b hb (fun n hn => by have := hw n hn; omega), Option.bind_some, this]
 have e : ((negs b).foldl putN []).all (fun v => decide (b.count (-1 - v) ≤ a.count (-1 - v))) = wgh a b := by
  unfold wgh
  rw [Bool.eq_iff_iff]
  simp only [List.all_eq_true, decide_eq_true_eq]
  constructor
  ·intro q v hv
   by_cases h : -1 - (v : Int) ∈ b
   ·exact q v ((hm v).2 ⟨by omega, h⟩)
   ·rw [List.count_eq_zero_of_not_mem h]; omega
  ·intro q v hv
   have h := (hm v).1 hv
   have := hw _ h.2
   have := q v.toNat (by omega)
   rwa [show ((v.toNat : Nat) : Int) = v by omega] at this
 rw [e]
 cases wgh a b <;> rfl
theorem zlT (a b : List Int) (hl : a.length = b.length) (ha : a.length ≤ 1048576) : ∀ k i : Nat, i + k = a.length → zcH M b a a.length i = some (if a.drop i = b.drop i then .inl () else .inr ((gtLex (a.drop i) (b.drop i), ()), ())) := by
 intro k
 induction k with
 | zero =>
  intro i hi
  obtain rfl : i = a.length := by omega
  apply zi7
  simp only [zdV]
  rw [if_neg (by simp), List.drop_length, hl, List.drop_length, if_pos rfl]
 | succ k ih =>
  intro i hi
  have h1 : i < a.length := by omega
  have h2 : i < b.length := by omega
  apply zi7
  simp only [zdV]
  rw [if_pos (by simpa using h1), ze h1, ze h2]
  simp only [Option.bind_some]
  rw [List.drop_eq_getElem_cons h1, List.drop_eq_getElem_cons h2]
  by_cases he : a[i] = b[i]
  ·rw [if_neg (by simpa using he), za (by omega), ih (i + 1) (by omega)]
   by_cases hd : a.drop (i + 1) = b.drop (i + 1)
   ·rw [if_pos hd, if_pos (by rw [he, hd])]
   ·rw [if_neg hd, if_neg (fun h => hd (List.cons.inj h).2), gtLex, if_pos he]
  ·rw [if_pos (by simpa using he), if_neg (fun h => he (List.cons.inj h).1), gtLex, if_neg he]
   by_cases p : 0 ≤ a[i]
   ·rw [if_pos (by simpa using p)]
    by_cases q : 0 ≤ b[i]
    ·rw [if_pos (by simpa using q)]
     simp [p, q]
    ·rw [if_neg (by simpa using q)]
     simp [q]
   ·rw [if_neg (by simpa using p)]
    simp [p]
theorem zlY (a b : List Int) (hl : a.length = b.length) (ha : a.length ≤ 1048576) : ∀ k i : Nat, i + k = a.length → zcM M a b a.length i = some (if a.drop i = b.drop i then .inl () else .inr ((gtLex (a.drop i) (b.drop i), ()), ())) := by
 intro k
 induction k with
 | zero =>
  intro i hi
  obtain rfl : i = a.length := by omega
  apply zi8
  simp only [zdX]
  rw [if_neg (by simp), List.drop_length, hl, List.drop_length, if_pos rfl]
 | succ k ih =>
  intro i hi
  have h1 : i < a.length := by omega
  have h2 : i < b.length := by omega
  apply zi8
  simp only [zdX]
  rw [if_pos (by simpa using h1), ze h1, ze h2]
  simp only [Option.bind_some]
  rw [List.drop_eq_getElem_cons h1, List.drop_eq_getElem_cons h2]
  by_cases he : a[i] = b[i]
  ·rw [if_neg (by simpa using he), za (by omega), ih (i + 1) (by omega)]
   by_cases hd : a.drop (i + 1) = b.drop (i + 1)
   ·rw [if_pos hd, if_pos (by rw [he, hd])]
   ·rw [if_neg hd, if_neg (fun h => hd (List.cons.inj h).2), gtLex, if_pos he]
  ·rw [if_pos (by simpa using he), if_neg (fun h => he (List.cons.inj h).1), gtLex, if_neg he]
   by_cases p : 0 ≤ a[i]
   ·rw [if_pos (by simpa using p)]
    by_cases q : 0 ≤ b[i]
    ·rw [if_pos (by simpa using q)]
     simp [p, q]
    ·rw [if_neg (by simpa using q)]
     simp [q]
   ·rw [if_neg (by simpa using p)]
    simp [p]
theorem zrf (a : List Int) : gtLex a a = false := by
 induction a with
 | nil => rfl
 | cons x a ih => rw [gtLex, if_pos rfl, ih]
def smT (a : List Int) : Prop := a.length ≤ 4000 ∧ ∀ n ∈ a, -12 ≤ n
theorem zmX (a b : List Int) (ha : smT a) (hb : smT b) : zdm M a b = some ((gtT a b, ()), ()) := by
 have la := ha.1
 have lb := hb.1
 apply zqT
 simp only [ziX, zyt a b (by omega) (by omega), Option.bind_some, gtT]
 by_cases h1 : a.length < b.length
 ·rw [if_pos (by simpa using h1), decide_eq_false (by omega)]; simp
 ·rw [if_neg (by simpa using h1), decide_eq_true (show b.length ≤ a.length by omega)]
  cases wgh a b with
  | false => rfl
  | true =>
   rw [if_neg (by simp)]
   by_cases h2 : b.length < a.length
   ·rw [if_pos (by simpa using h2), decide_eq_true h2]; rfl
   ·rw [if_neg (by simpa using h2), decide_eq_false h2]
    have := zlT a b (by omega) (by omega) a.length 0 (by omega)
    rw [show ((0 : Nat) : Int) = 0 from rfl, List.drop_zero, List.drop_zero] at this
    rw [this]
    by_cases e : a = b
    ·rw [if_pos e, e, zrf]; rfl
    ·rw [if_neg e]; rfl
theorem zmS (a b : List Int) (ha : smT a) (hb : smT b) : zdl M a b = some ((gtT a b, ()), ()) := by
 have la := ha.1
 have lb := hb.1
 apply zqU
 simp only [ziL, zxY a b (by omega) (by omega) hb.2, Option.bind_some, gtT]
 cases wgh a b with
 | false => rfl
 | true =>
  rw [if_neg (by simp)]
  by_cases h1 : a.length < b.length
  ·rw [if_pos (by simpa using h1), decide_eq_false (by omega)]; simp
  ·rw [if_neg (by simpa using h1), decide_eq_true (show b.length ≤ a.length by omega)]
   by_cases h2 : b.length < a.length
   ·rw [if_pos (by simpa using h2), decide_eq_true h2]; rfl
   ·rw [if_neg (by simpa using h2), decide_eq_false h2]
    have := zlY a b (by omega) (by omega) a.length 0 (by omega)
    rw [show ((0 : Nat) : Int) = 0 from rfl, List.drop_zero, List.drop_zero] at this
    rw [this]
    by_cases e : a = b
    ·rw [if_pos e, e, zrf]; rfl
    ·rw [if_neg e]; rfl
theorem zvf (a b : List Int) (hab : a.length = b.length) (ha : a.length ≤ 17592186044416) : ∀ k i : Nat, i + k = a.length → ze0 M a b a.length i = some (if a.drop i = b.drop i then .inl () else .inr ((false, ()), ())) := by
 intro k
 induction k with
 | zero =>
  intro i hi
  obtain rfl : i = a.length := by omega
  apply zlp
  simp only [zgm]
  rw [if_neg (by simp), List.drop_length, hab, List.drop_length, if_pos rfl]
 | succ k ih =>
  intro i hi
  have h1 : i < a.length := by omega
  have h2 : i < b.length := by omega
  apply zlp
  simp only [zgm]
  rw [if_pos (by simpa using h1), ze h1, ze h2]
  simp only [Option.bind_some]
  rw [List.drop_eq_getElem_cons h1, List.drop_eq_getElem_cons h2]
  by_cases he : a[i] = b[i]
  ·rw [if_neg (by simpa using he), za (by omega), ih (i + 1) (by omega)]
   by_cases hd : a.drop (i + 1) = b.drop (i + 1)
   ·rw [if_pos hd, if_pos (by rw [he, hd])]
   ·rw [if_neg hd, if_neg (fun h => hd (List.cons.inj h).2)]
  ·rw [if_pos (by simpa using he), if_neg (fun h => he (List.cons.inj h).1)]
theorem zky (a b : List Int) (ha : a.length ≤ 17592186044416) : zba M a b = some ((decide (a = b), ()), ()) := by
 apply ztg
 simp only [zlh]
 by_cases hl : a.length = b.length
 ·have := zvf a b hl ha a.length 0 (by omega)
  rw [show ((0 : Nat) : Int) = 0 from rfl, List.drop_zero, List.drop_zero] at this
  rw [if_neg (by simp [hl]), this]
  by_cases h : a = b
  ·rw [if_pos h]; simp [h]
  ·rw [if_neg h]; simp [h]
 ·have : ¬ a = b := fun h => hl (by rw [h])
  rw [if_pos (by simp; omega)]
  simp [this]
theorem zst (a b : List Int) (ha : smT a) (hb : smT b) : zfd M a b = some ((cmpK a b, ()), ()) ∧ zgF M a b = some ((cmpK a b, ()), ()) := by
 have la := ha.1
 refine ⟨zov _ _ ?_, zqQ _ _ ?_⟩
 ·simp only [zhq, zkc a b (by omega), zmX a b ha hb, zmX b a hb ha, Option.bind_some, cmpK, decide_eq_true_eq]
  split
  ·rfl
  ·split
   ·rfl
   ·split <;> rfl
 ·simp only [ziH, zky a b (by omega), zmS a b ha hb, zmS b a hb ha, Option.bind_some, cmpK, decide_eq_true_eq]
  split
  ·rfl
  ·split
   ·rfl
   ·split <;> rfl
end Go.Proofs.YtenknihdnkiplaaGreatSs.Ev
