/- Texts laid together: PXa, PYa, QP; no condition but those that each theorem names. -/
import Derived.Test.YtkdceefdipljaaaFftPHo
import Derived.Test.YtkdceefdipljaaaFftPRb
/- Plain laws: signatures and terms that are drawn are answered, and small. No condition but sizes. -/
namespace Go.Proofs.YtkdceefdipljaaaFft.Ev
open Go
set_option autoImplicit false
set_option linter.unusedVariables false
set_option linter.unusedSimpArgs false

/-- A signature as it is drawn. -/
def SgD (a : List Int) : Prop := a.length ≤ 10 ∧ ∀ x ∈ a, 0 ≤ x ∧ x ≤ 3
theorem dec64 {x : Int} (h : -9223372036854775807 ≤ x) (k : x < 9223372036854775808) : IntKind.i64.wrap (x - 1) = x - 1 := w64 (by omega) (by omega)
section
variable {code : List Int} (hb : isBytes code)
include hb
theorem d_sign {j : Int} (hj : j ≤ 1000000) {c : TCur} (hc : Cu code j c) : Okk (fun r => SgD r.1.1.1 ∧ Cu code (j + 2) r.2.1) (c_spec_l1Cur_sign M c) := by
  refine Okk.lift ?_ (e_spec_l1Cur_sign c)
  simp only [q_spec_l1Cur_sign]
  refine Okk.bind (P := fun y => ∃ c' a, y = .inl (c', ([], ()), (a, ()), ()) ∧ SgD a ∧ Cu code (j + 2) c') ?_ ?_
  · refine Okk.bind (d_pick hb hc 40 (by omega) (by omega)) ?_
    rintro ⟨⟨x, ⟨⟩⟩, ⟨c', ⟨⟩⟩⟩ ⟨_, _, h⟩
    refine Okk.ite (fun _ => .pure ⟨c', _, rfl, by simp [SgD], h⟩) fun _ => Okk.ite (fun _ => .pure ⟨c', _, rfl, by simp [SgD], h⟩) fun _ => Okk.ite (fun _ => .pure ⟨c', _, rfl, by simp [SgD], h⟩) fun _ => .pure ⟨c', _, rfl, by simp [SgD], h⟩
  · rintro _ ⟨c', a, rfl, h1, h2⟩
    exact .pure ⟨h1, h2⟩

theorem d_term_step {a : List Int} (ha : SgD a) (vars : Int) (hv : vars ≤ 1000) (deep : Int) {j : Int} (hj : j ≤ 1000000) {c : TCur} (hc : Cu code j c) (N : Nat) (hN : 1 ≤ N) (K : Int) (hK : j + 6 ≤ K)
    (hL : 1 < deep → ∀ (n v : Int) (c4 : TCur), 0 ≤ v → v ≤ 3 → Cu code (j + 6) c4 → Okk (fun y => ∃ (c5 : TCur) (t : List Int), y = .inl (c5, t, ()) ∧ 0 < t.length ∧ t.length ≤ N ∧ Cu code K c5) (l_spec_l1Cur_term_2042 M c4 deep vars (a, ()) [n] v)) :
    Okk (fun r => r.1.1.length ≤ N ∧ 0 < r.1.1.length ∧ Cu code K r.2.1) (c_spec_l1Cur_term M c (a, ()) deep vars) := by
  refine Okk.lift ?_ (e_spec_l1Cur_term c (a, ()) deep vars)
  simp only [q_spec_l1Cur_term, cur_eta]
  have hal := ha.1
  refine Okk.ite (fun _ => .pure ⟨hN, by simp, hc.mono (by omega)⟩) fun h0 => ?_
  have hpos : 0 < a.length := by simp at h0; exact List.length_pos_iff.2 h0
  have A : ∀ (x : Int) (c3 : TCur), 0 ≤ x → (x < (a.length : Int) ∨ x = 0) → Cu code (j + 4) c3 → Okk (fun y => ∃ (c4 : TCur) (n : Int), y = .inl (c4, deep, vars, (a, ()), n, ()) ∧ 0 ≤ n ∧ n < a.length ∧ Cu code (j + 6) c4) ((((idx a x).bind fun x5 => (if (decide (x5 > (0 : Int))) = true then (if (decide (deep ≤ (1 : Int))) = true then ((c_spec_l1Cur_pick M c3 (List.length a : Int)).bind fun r6 => (if (2 : Int) = 0 then none else (some (.inl ((r6.2.1.1, r6.2.1.2.1, r6.2.1.2.2.1, ()), deep, vars, (a, ()), (IntKind.i64.wrap (Int.tdiv r6.1.1 (2 : Int))), ()))))) else (some (.inl (c3, deep, vars, (a, ()), x, ())))) else (some (.inl (c3, deep, vars, (a, ()), x, ()))))) : Option ((((List Int) × Int × Int × Unit) × Int × Int × ((List Int) × Unit) × Int × Unit) ⊕ ((List Int) × Unit) × (((List Int) × Int × Int × Unit) × Unit)))) := by
    intro x c3 hx0 hx1 hc3
    refine Okk.bind (Okk.idx hx0 (by omega)) fun y hy => ?_
    refine Okk.ite (fun _ => Okk.ite (fun _ => ?_) fun _ => .pure ⟨c3, x, rfl, hx0, by omega, hc3.mono (by omega)⟩) fun _ => .pure ⟨c3, x, rfl, hx0, by omega, hc3.mono (by omega)⟩
    refine Okk.bind (d_pick hb hc3 _ (by omega) (by omega)) ?_
    rintro ⟨⟨z, ⟨⟩⟩, ⟨c4, ⟨⟩⟩⟩ ⟨h1, h2, h3⟩
    simp only at h1 h2 h3
    have h5 := Int.tdiv_nonneg h1 (show (0 : Int) ≤ 2 by omega)
    have h6 : Int.tdiv z 2 ≤ z := by rw [Int.tdiv_eq_ediv_of_nonneg h1]; omega
    refine Okk.iteF (by omega) (.pure ⟨c4, _, rfl, ?_, ?_, h3.mono (by omega)⟩)
    · simp only; rw [w64 (by omega) (by omega)]; exact h5
    · simp only; rw [w64 (by omega) (by omega)]; omega
  have B : ∀ (n : Int) (c4 : TCur), 0 ≤ n → n < (a.length : Int) → Cu code (j + 6) c4 → Okk (fun r : ((List Int) × Unit) × (TCur × Unit) => r.1.1.length ≤ N ∧ 0 < r.1.1.length ∧ Cu code K r.2.1) ((idx a n).bind fun x7 => (if (decide (x7 > (0 : Int))) = true then (if (decide (deep ≤ (1 : Int))) = true then (some ((([(0 : Int)] : List Int), ()), (c4, ()))) else ((idx a n).bind fun x8 => ((l_spec_l1Cur_term_2042 M c4 deep vars (a, ()) ([n] : List Int) x8).bind (Sum.elim (fun y9 => (some ((y9.2.1, ()), ((y9.1.1, y9.1.2.1, y9.1.2.2.1, ()), ())))) (fun r10 => (some r10)))))) else ((idx a n).bind fun x11 => ((l_spec_l1Cur_term_2042 M c4 deep vars (a, ()) ([n] : List Int) x11).bind (Sum.elim (fun y12 => (some ((y12.2.1, ()), ((y12.1.1, y12.1.2.1, y12.1.2.2.1, ()), ())))) (fun r13 => (some r13))))))) := by
    intro n c4 hn0 hn1 hc4
    obtain ⟨v, hv1, hv2⟩ := Okk.idx (l := a) hn0 hn1
    rw [hv1]
    simp only [Option.bind_some]
    have := ha.2 v hv2
    refine Okk.ite (fun hv3 => ?_) fun hv3 => ?_
    · refine Okk.ite (fun _ => .pure ⟨hN, by simp, hc4.mono (by omega)⟩) fun hd => ?_
      refine Okk.bind (hL (by simp at hd; omega) n v c4 (by omega) (by omega) hc4) ?_
      rintro _ ⟨c5, t, rfl, t1, t2, t3⟩
      exact .pure ⟨t2, t1, t3⟩
    · obtain rfl : v = 0 := by simp at hv3; omega
      have hl : l_spec_l1Cur_term_2042 M c4 deep vars (a, ()) [n] 0 = some (.inl (c4, [n], ())) := by
        apply el_spec_l1Cur_term_2042
        simp [ql_spec_l1Cur_term_2042, cur_eta]
      rw [hl]
      exact .pure ⟨hN, by simp, hc4.mono (by omega)⟩
  refine Okk.ite (fun _ => ?_) fun _ => ?_
  · refine Okk.bind (d_one hb hc 3 (by omega) (by omega)) ?_
    rintro ⟨⟨x, ⟨⟩⟩, ⟨c2, ⟨⟩⟩⟩ h2
    refine Okk.ite (fun _ => ?_) fun _ => ?_
    · refine Okk.bind (d_pick hb h2 vars (by omega) (by omega)) ?_
      rintro ⟨⟨y, ⟨⟩⟩, ⟨c3, ⟨⟩⟩⟩ ⟨_, _, h3⟩
      exact .pure ⟨hN, by simp, h3.mono (by omega)⟩
    · refine Okk.bind (d_pick hb h2 _ (by omega) (by omega)) ?_
      rintro ⟨⟨y, ⟨⟩⟩, ⟨c3, ⟨⟩⟩⟩ ⟨g1, g2, h3⟩
      refine Okk.bind (A y c3 g1 g2 (h3.mono (by omega))) ?_
      rintro _ ⟨c4, n, rfl, k1, k2, k3⟩
      exact B n c4 k1 k2 k3
  · refine Okk.bind (d_pick hb hc _ (by omega) (by omega)) ?_
    rintro ⟨⟨y, ⟨⟩⟩, ⟨c3, ⟨⟩⟩⟩ ⟨g1, g2, h3⟩
    refine Okk.bind (A y c3 g1 g2 (h3.mono (by omega))) ?_
    rintro _ ⟨c4, n, rfl, k1, k2, k3⟩
    exact B n c4 k1 k2 k3

/-- How many numbers a term of some levels takes at most, and how many draws. -/
def dl : Nat → Nat
  | 0 => 1
  | d + 1 => 1 + 3 * dl d
def dk : Nat → Int
  | 0 => 6
  | d + 1 => 6 + 3 * dk d
omit hb in
theorem dl_pos (d : Nat) : 1 ≤ dl d := by cases d <;> simp [dl]
omit hb in
theorem dk_pos (d : Nat) : 6 ≤ dk d := by
  induction d with
  | zero => simp [dk]
  | succ d ih => simp [dk]; omega
theorem d_term {a : List Int} (ha : SgD a) (vars : Int) (hv : vars ≤ 1000) : ∀ (d : Nat) (deep : Int) (j : Int) (c : TCur), deep ≤ (d : Int) + 1 → d ≤ 5 → j + dk d ≤ 200000 → Cu code j c → Okk (fun r => r.1.1.length ≤ dl d ∧ 0 < r.1.1.length ∧ Cu code (j + dk d) r.2.1) (c_spec_l1Cur_term M c (a, ()) deep vars) := by
  intro d
  induction d with
  | zero =>
    intro deep j c hd _ hj hc
    simp only [dk] at hj
    exact d_term_step hb ha vars hv deep (by omega) hc 1 (by omega) (j + 6) (by omega) (fun h => by omega)
  | succ d ih =>
    intro deep j c hd hd5 hj hc
    have hdl : dl d ≤ 1000 := by
      have : d ≤ 4 := by omega
      rcases d with _ | _ | _ | _ | _ | d <;> first | (simp [dl]; done) | omega
    have hdk : dk d ≤ 10000 := by
      rcases d with _ | _ | _ | _ | _ | d <;> first | (simp [dk]; done) | omega
    have hp := dk_pos d
    simp only [dk] at hj
    have loop : 1 < deep → ∀ (k : Nat) (out : List Int) (j' : Int) (c4 : TCur), k ≤ 3 → 0 < out.length → out.length + k * dl d ≤ 10000 → j' + k * dk d ≤ j + 6 + 3 * dk d → Cu code j' c4 → Okk (fun y => ∃ (c5 : TCur) (t : List Int), y = .inl (c5, t, ()) ∧ 0 < t.length ∧ t.length ≤ out.length + k * dl d ∧ Cu code (j' + k * dk d) c5) (l_spec_l1Cur_term_2042 M c4 deep vars (a, ()) out (k : Int)) := by
      intro hdeep k
      induction k with
      | zero =>
        intro out j' c4 _ h0 _ _ hc4
        refine Okk.lift ?_ (el_spec_l1Cur_term_2042 _ _ _ _ _ _)
        simp only [ql_spec_l1Cur_term_2042, cur_eta]
        refine Okk.iteF (by simp) (.pure ⟨c4, out, rfl, h0, by omega, hc4.mono (by simp)⟩)
      | succ k ihk =>
        intro out j' c4 hk h0 ho hj2 hc4
        have e1 : ((k + 1 : Nat) : Int) * dk d = k * dk d + dk d := by rw [Int.natCast_add, Int.add_mul]; simp
        have e2 : (k + 1) * dl d = k * dl d + dl d := by rw [Nat.add_mul]; simp
        have e3 : 0 ≤ (k : Int) * dk d := Int.mul_nonneg (by omega) (by omega)
        rw [e1] at hj2
        rw [e2] at ho
        refine Okk.lift ?_ (el_spec_l1Cur_term_2042 _ _ _ _ _ _)
        simp only [ql_spec_l1Cur_term_2042, cur_eta]
        refine Okk.iteT (by simp <;> omega) ?_
        rw [dec64 (x := deep) (by omega) (by omega), dec64 (x := ((k + 1 : Nat) : Int)) (by omega) (by omega), show ((k + 1 : Nat) : Int) - 1 = (k : Int) by omega]
        refine Okk.bind (ih (deep - 1) j' c4 (by omega) (by omega) (by omega) hc4) ?_
        rintro ⟨⟨t, ⟨⟩⟩, ⟨c5, ⟨⟩⟩⟩ ⟨g1, g2, g3⟩
        simp only at g1 g2 g3
        refine Okk.iteT (by simp only; omega) ?_
        refine Okk.mono (ihk (out ++ t) (j' + dk d) c5 (by omega) (by simp; omega) (by rw [List.length_append]; omega) (by omega) g3) ?_
        rintro _ ⟨c6, t', rfl, h1, h2, h3⟩
        refine ⟨c6, t', rfl, h1, ?_, h3.mono (by rw [e1]; omega)⟩
        rw [List.length_append] at h2
        rw [e2]; omega
    refine d_term_step hb ha vars hv deep (by omega) hc (dl (d + 1)) (dl_pos _) (j + dk (d + 1)) (by simp only [dk]; omega) ?_
    intro hdeep n v c4 hv0 hv3 hc4
    obtain ⟨k, rfl⟩ : ∃ m : Nat, v = (m : Int) := ⟨v.toNat, by omega⟩
    have e4 : (k : Int) * dk d ≤ 3 * dk d := Int.mul_le_mul_of_nonneg_right (by omega) (by omega)
    have e5 : k * dl d ≤ 3 * dl d := Nat.mul_le_mul_right _ (by omega)
    refine Okk.mono (loop hdeep k [n] (j + 6) c4 (by omega) (by simp) (by simp only [List.length_cons, List.length_nil]; omega) (by omega) hc4) ?_
    rintro _ ⟨c6, t', rfl, h1, h2, h3⟩
    refine ⟨c6, t', rfl, h1, ?_, h3.mono (by simp only [dk]; omega)⟩
    simp only [List.length_cons, List.length_nil] at h2
    simp only [dl]; omega

end
end Go.Proofs.YtkdceefdipljaaaFft.Ev

/- Plain laws: rows that are alike, as the laws ask. No condition but sizes. -/
namespace Go.Proofs.YtkdceefdipljaaaFft.Ev
open Go
set_option autoImplicit false
set_option linter.unusedVariables false
set_option linter.unusedSimpArgs false

theorem p_sameInts_loop (a : List Int) (ha : a.length ≤ 17592186044416) : ∀ k i : Nat, i + k = a.length → l_laws_sameInts_58 M a a a.length i = some (.inl ()) := by
  intro k
  induction k with
  | zero =>
    intro i hi
    apply el_laws_sameInts_58
    simp only [ql_laws_sameInts_58]
    rw [if_neg (by simp; omega)]
  | succ k ih =>
    intro i hi
    have h1 : i < a.length := by omega
    apply el_laws_sameInts_58
    simp only [ql_laws_sameInts_58]
    rw [if_pos (by simpa using h1), idx_lt h1, inc_nat (by omega)]
    simp only [Option.bind_some]
    rw [if_neg (by simp)]
    exact ih (i + 1) (by omega)
theorem p_sameInts (a : List Int) (ha : a.length ≤ 17592186044416) : c_laws_sameInts M a a = some ((true, ()), ()) := by
  apply e_laws_sameInts
  simp only [q_laws_sameInts]
  have := p_sameInts_loop a ha a.length 0 (by omega)
  rw [show ((0 : Nat) : Int) = 0 from rfl] at this
  rw [if_neg (by simp), this]
  rfl
theorem p_sameTerm (a : List Int) (ha : a.length ≤ 17592186044416) : c_laws_sameTerm M a a = some ((true, ()), ()) := by
  apply e_laws_sameTerm
  simp only [q_laws_sameTerm, p_sameInts a ha, Option.bind_some]
/-- Whether bytes are too many. -/
theorem p_big (a b : List Int) (la : a.length ≤ 9223372036854775807) (lb : b.length ≤ 9223372036854775807) : c_laws_big M a b = some ((decide (1048576 < a.length) || decide (1048576 - (a.length : Int) < b.length), ()), ()) := by
  apply e_laws_big
  simp only [q_laws_big]
  by_cases h : 1048576 < a.length
  · rw [if_pos (by simp; omega)]; simp [h]
  · rw [if_neg (by simp; omega), w64 (by omega) (by omega)]; simp [h]
end Go.Proofs.YtkdceefdipljaaaFft.Ev

/- Plain laws: formulas that are drawn; FnFormText. No condition but that bytes are bytes and fit in memory. -/
namespace Go.Proofs.YtkdceefdipljaaaFft.Ev
open Go
set_option autoImplicit false
set_option linter.unusedVariables false
set_option linter.unusedSimpArgs false

theorem p_sameForm_loop (a : List TForm) (ha : a.length ≤ 1048576) (hx : ∀ x ∈ a, smF x) : ∀ k i : Nat, i + k = a.length → l_laws_sameForm_58 M a a a.length i = some (.inl ()) := by
  intro k
  induction k with
  | zero =>
    intro i hi
    apply el_laws_sameForm_58
    simp only [ql_laws_sameForm_58]
    rw [if_neg (by simp; omega)]
  | succ k ih =>
    intro i hi
    have h1 : i < a.length := by omega
    have h2 := hx _ (List.getElem_mem h1)
    have h3 := h2.1
    have h4 := h2.2
    apply el_laws_sameForm_58
    simp only [ql_laws_sameForm_58]
    rw [if_pos (by simpa using h1), idx_lt h1, inc_nat (by omega)]
    simp only [Option.bind_some]
    rw [if_neg (by simp), if_neg (by simp), p_sameTerm _ (by omega)]
    simp only [Option.bind_some]
    rw [if_neg (by simp), p_sameTerm _ (by omega)]
    simp only [Option.bind_some]
    rw [if_neg (by simp)]
    exact ih (i + 1) (by omega)
theorem p_sameForm (a : List TForm) (ha : a.length ≤ 1048576) (hx : ∀ x ∈ a, smF x) : c_laws_sameForm M a a = some ((true, ()), ()) := by
  apply e_laws_sameForm
  simp only [q_laws_sameForm]
  have := p_sameForm_loop a ha hx a.length 0 (by omega)
  rw [show ((0 : Nat) : Int) = 0 from rfl] at this
  rw [if_neg (by simp), this]
  rfl

/-- How many nodes a formula of some levels has at most, and how many draws. -/
def fl : Nat → Nat
  | 0 => 1
  | d + 1 => 1 + 2 * fl d
def fk : Nat → Int
  | 0 => 40
  | d + 1 => 40 + 2 * fk d
theorem fl_le : ∀ d : Nat, d ≤ 5 → fl d ≤ 100 := by
  intro d h
  rcases d with _ | _ | _ | _ | _ | _ | d <;> first | (simp [fl]; done) | omega
theorem fk_le : ∀ d : Nat, d ≤ 5 → fk d ≤ 5000 := by
  intro d h
  rcases d with _ | _ | _ | _ | _ | _ | d <;> first | (simp [fk]; done) | omega
theorem fk_pos (d : Nat) : 40 ≤ fk d := by
  induction d with
  | zero => simp [fk]
  | succ d ih => simp [fk]; omega
theorem fl_pos (d : Nat) : 1 ≤ fl d := by cases d <;> simp [fl]
theorem smF_nil (x v : Int) : smF (x, v, [], [], ()) := by simp [smF]
theorem smF_add {a : List TForm} {x : TForm} (h : ∀ y ∈ a, smF y) (hx : smF x) : ∀ y ∈ a ++ [x], smF y := by
  intro y hy
  rcases List.mem_append.1 hy with h1 | h1
  · exact h y h1
  · rw [List.mem_singleton.1 h1]; exact hx

section
variable {code : List Int} (hb : isBytes code)
include hb
/-- An equation. -/
theorem d_eqn {a : List Int} (ha : SgD a) (vars : Int) (hv : vars ≤ 1000) {j : Int} (hj : j ≤ 100000) {c : TCur} (hc : Cu code j c) (N : Nat) (hN : 1 ≤ N) (K : Int) (hK : j + 36 ≤ K) :
    Okk (fun r : (List TForm × Unit) × (TCur × Unit) => 0 < r.1.1.length ∧ r.1.1.length ≤ N ∧ (∀ x ∈ r.1.1, smF x) ∧ Cu code K r.2.1) ((c_spec_l1Cur_pick M c (2 : Int)).bind fun r1 => ((c_spec_l1Cur_term M (r1.2.1.1, r1.2.1.2.1, r1.2.1.2.2.1, ()) (a, ()) (IntKind.i64.wrap ((1 : Int) + r1.1.1)) vars).bind fun r2 => ((c_spec_l1Cur_term M (r2.2.1.1, r2.2.1.2.1, r2.2.1.2.2.1, ()) (a, ()) (1 : Int) vars).bind fun r3 => (some ((([((1 : Int), (0 : Int), r2.1.1, r3.1.1, ())] : List (Int × Int × (List Int) × (List Int) × Unit)), ()), ((r3.2.1.1, r3.2.1.2.1, r3.2.1.2.2.1, ()), ())))))) := by
  refine Okk.bind (d_pick hb hc 2 (by omega) (by omega)) ?_
  rintro ⟨⟨x, ⟨⟩⟩, ⟨c1, ⟨⟩⟩⟩ ⟨h1, h2, h3⟩
  simp only [cur_eta] at h1 h2 h3 ⊢
  rw [w64 (x := 1 + x) (by omega) (by omega)]
  refine Okk.bind (d_term hb ha vars hv 1 (1 + x) (j + 2) c1 (by omega) (by omega) (by simp [dk]; omega) h3) ?_
  rintro ⟨⟨t, ⟨⟩⟩, ⟨c2, ⟨⟩⟩⟩ ⟨g1, g2, g3⟩
  simp only [dl, dk] at g1 g2 g3 ⊢
  refine Okk.bind (d_term hb ha vars hv 0 1 _ c2 (by omega) (by omega) (by simp [dk]; omega) g3) ?_
  rintro ⟨⟨u, ⟨⟩⟩, ⟨c3, ⟨⟩⟩⟩ ⟨k1, k2, k3⟩
  simp only [dl, dk] at k1 k2 k3
  refine .pure ⟨by simp, by simpa using hN, ?_, k3.mono (by omega)⟩
  intro y hy
  rw [List.mem_singleton.1 hy]
  exact ⟨by simp only; omega, by simp only; omega⟩
theorem d_form {a : List Int} (ha : SgD a) : ∀ (d : Nat) (deep vars j : Int) (c : TCur), 0 ≤ deep → deep ≤ (d : Int) → d ≤ 5 → 0 ≤ vars → vars ≤ 1000 → j + fk d ≤ 90000 → Cu code j c → Okk (fun r => 0 < r.1.1.length ∧ r.1.1.length ≤ fl d ∧ (∀ x ∈ r.1.1, smF x) ∧ Cu code (j + fk d) r.2.1) (c_spec_l1Cur_form M c (a, ()) deep vars) := by
  intro d
  induction d with
  | zero =>
    intro deep vars j c h0 h1 _ v0 v1 hj hc
    simp only [fk] at hj
    refine Okk.lift ?_ (e_spec_l1Cur_form c (a, ()) deep vars)
    simp only [q_spec_l1Cur_form, cur_eta]
    refine Okk.iteT (by simp; omega) ?_
    exact d_eqn hb ha vars v1 (by omega) hc (fl 0) (by simp [fl]) (j + fk 0) (by simp [fk])
  | succ d ih =>
    intro deep vars j c h0 h1 h5 v0 v1 hj hc
    have l1 := fl_le d (by omega)
    have l2 := fk_le d (by omega)
    have l3 := fk_pos d
    have l4 := fl_pos d
    simp only [fk] at hj
    refine Okk.lift ?_ (e_spec_l1Cur_form c (a, ()) deep vars)
    simp only [q_spec_l1Cur_form, cur_eta]
    refine Okk.ite (fun _ => ?_) fun hd => ?_
    · exact d_eqn hb ha vars v1 (by omega) hc (fl (d + 1)) (fl_pos _) (j + fk (d + 1)) (by simp [fk]; omega)
    have hd1 : 1 ≤ deep := by simp at hd; omega
    refine Okk.bind (d_one hb hc 5 (by omega) (by omega)) ?_
    rintro ⟨⟨b, ⟨⟩⟩, ⟨c1, ⟨⟩⟩⟩ g1
    simp only at g1 ⊢
    refine Okk.ite (fun _ => ?_) fun _ => ?_
    · exact d_eqn hb ha vars v1 (by omega) g1 (fl (d + 1)) (fl_pos _) (j + fk (d + 1)) (by simp [fk]; omega)
    refine Okk.bind (d_pick hb g1 6 (by omega) (by omega)) ?_
    rintro ⟨⟨x, ⟨⟩⟩, ⟨c2, ⟨⟩⟩⟩ ⟨x1, x2, g2⟩
    simp only at x1 x2 g2 ⊢
    rw [dec64 (by omega) (by omega)]
    have one : ∀ (w : Int), 0 ≤ w → w ≤ 1000 → Okk (fun r => 0 < r.1.1.length ∧ r.1.1.length ≤ fl d ∧ (∀ x ∈ r.1.1, smF x) ∧ Cu code (j + 4 + fk d) r.2.1) (c_spec_l1Cur_form M c2 (a, ()) (deep - 1) w) := fun w w0 w1 =>
      ih (deep - 1) w (j + 4) c2 (by omega) (by omega) (by omega) w0 w1 (by omega) (g2.mono (by omega))
    have two : ∀ (c3 : TCur), Cu code (j + 4 + fk d) c3 → Okk (fun r => 0 < r.1.1.length ∧ r.1.1.length ≤ fl d ∧ (∀ x ∈ r.1.1, smF x) ∧ Cu code (j + 4 + fk d + fk d) r.2.1) (c_spec_l1Cur_form M c3 (a, ()) (deep - 1) vars) := fun c3 h3 =>
      ih (deep - 1) vars (j + 4 + fk d) c3 (by omega) (by omega) (by omega) v0 v1 (by omega) h3
    have bin : ∀ (op : Int), Okk (fun r : (List TForm × Unit) × (TCur × Unit) => 0 < r.1.1.length ∧ r.1.1.length ≤ fl (d + 1) ∧ (∀ x ∈ r.1.1, smF x) ∧ Cu code (j + fk (d + 1)) r.2.1) ((c_spec_l1Cur_form M c2 (a, ()) (deep - 1) vars).bind fun r10 => ((c_spec_l1Cur_form M (r10.2.1.1, r10.2.1.2.1, r10.2.1.2.2.1, ()) (a, ()) (deep - 1) vars).bind fun r11 => (if (List.length r10.1.1 + List.length r11.1.1) * 64 ≤ 140737488355328 then (if (List.length (r10.1.1 ++ r11.1.1) + List.length ([(op, (0 : Int), [], [], ())] : List (Int × Int × (List Int) × (List Int) × Unit))) * 64 ≤ 140737488355328 then (some ((((r10.1.1 ++ r11.1.1) ++ ([(op, (0 : Int), [], [], ())] : List (Int × Int × (List Int) × (List Int) × Unit))), ()), ((r11.2.1.1, r11.2.1.2.1, r11.2.1.2.2.1, ()), ()))) else none) else none))) := by
      intro op
      refine Okk.bind (one vars v0 v1) ?_
      rintro ⟨⟨g, ⟨⟩⟩, ⟨c3, ⟨⟩⟩⟩ ⟨e1, e2, e3, e4⟩
      simp only [cur_eta] at e1 e2 e3 e4 ⊢
      refine Okk.bind (two c3 e4) ?_
      rintro ⟨⟨h, ⟨⟩⟩, ⟨c4, ⟨⟩⟩⟩ ⟨k1, k2, k3, k4⟩
      simp only [cur_eta] at k1 k2 k3 k4 ⊢
      refine Okk.iteT (by omega) (Okk.iteT (by simp; omega) (.pure ⟨by simp only [List.length_append, List.length_singleton]; omega, by simp only [List.length_append, List.length_singleton, fl]; omega, ?_, k4.mono (by simp only [fk]; omega)⟩))
      refine smF_add ?_ (smF_nil _ _)
      intro y hy
      rcases List.mem_append.1 hy with h1 | h1
      · exact e3 y h1
      · exact k3 y h1
    refine Okk.ite (fun _ => ?_) fun _ => Okk.ite (fun _ => bin 3) fun _ => Okk.ite (fun _ => bin 4) fun _ => Okk.ite (fun _ => ?_) fun _ => ?_
    · refine Okk.bind (one vars v0 v1) ?_
      rintro ⟨⟨g, ⟨⟩⟩, ⟨c3, ⟨⟩⟩⟩ ⟨e1, e2, e3, e4⟩
      simp only [cur_eta] at e1 e2 e3 e4 ⊢
      exact Okk.iteT (by simp; omega) (.pure ⟨by simp only [List.length_append, List.length_singleton]; omega, by simp only [List.length_append, List.length_singleton, fl]; omega, smF_add e3 (smF_nil _ _), e4.mono (by simp only [fk]; omega)⟩)
    · refine Okk.bind (P := fun r => 0 ≤ r.1.1 ∧ r.1.1 ≤ 1000) (Okk.lift ?_ (e_spec_l1Most vars 1)) ?_
      · simp only [q_spec_l1Most]
        exact Okk.ite (fun _ => .pure ⟨v0, v1⟩) fun _ => .pure ⟨by simp, by simp⟩
      rintro ⟨⟨w, ⟨⟩⟩, ⟨⟩⟩ ⟨w0, w1⟩
      simp only at w0 w1 ⊢
      refine Okk.bind (one w w0 w1) ?_
      rintro ⟨⟨g, ⟨⟩⟩, ⟨c3, ⟨⟩⟩⟩ ⟨e1, e2, e3, e4⟩
      simp only [cur_eta] at e1 e2 e3 e4 ⊢
      exact Okk.iteT (by simp; omega) (.pure ⟨by simp only [List.length_append, List.length_singleton]; omega, by simp only [List.length_append, List.length_singleton, fl]; omega, smF_add e3 (smF_nil _ _), e4.mono (by simp only [fk]; omega)⟩)
    · refine Okk.bind (P := fun r => 0 ≤ r.1.1 ∧ r.1.1 ≤ 3) (Okk.lift ?_ (e_spec_l1Least vars 3)) ?_
      · simp only [q_spec_l1Least]
        exact Okk.ite (fun h => .pure ⟨v0, by simp at h; simp only; omega⟩) fun _ => .pure ⟨by simp, by simp⟩
      rintro ⟨⟨w, ⟨⟩⟩, ⟨⟩⟩ ⟨w0, w1⟩
      simp only at w0 w1 ⊢
      rw [w64 (x := w + 1) (by omega) (by omega)]
      refine Okk.bind (one (w + 1) (by omega) (by omega)) ?_
      rintro ⟨⟨g, ⟨⟩⟩, ⟨c3, ⟨⟩⟩⟩ ⟨e1, e2, e3, e4⟩
      simp only [cur_eta] at e1 e2 e3 e4 ⊢
      refine Okk.bind (d_pick hb e4 2 (by omega) (by omega)) ?_
      rintro ⟨⟨y, ⟨⟩⟩, ⟨c4, ⟨⟩⟩⟩ ⟨_, _, k4⟩
      simp only [cur_eta] at k4 ⊢
      exact Okk.iteT (by simp; omega) (.pure ⟨by simp only [List.length_append, List.length_singleton]; omega, by simp only [List.length_append, List.length_singleton, fl]; omega, smF_add e3 (smF_nil _ _), k4.mono (by simp only [fk]; omega)⟩)
theorem d_anyForm {a : List Int} (ha : SgD a) {j : Int} (hj : j ≤ 1000) {c : TCur} (hc : Cu code j c) : Okk (fun r => r.1.1.length ≤ 100 ∧ (∀ x ∈ r.1.1, smF x) ∧ Cu code (j + 10000) r.2.1) (c_spec_l1Cur_anyForm M c (a, ())) := by
  refine Okk.lift ?_ (e_spec_l1Cur_anyForm c (a, ()))
  simp only [q_spec_l1Cur_anyForm, cur_eta]
  refine Okk.bind (d_pick hb hc 4 (by omega) (by omega)) ?_
  rintro ⟨⟨x, ⟨⟩⟩, ⟨c1, ⟨⟩⟩⟩ ⟨h1, h2, h3⟩
  simp only at h1 h2 h3 ⊢
  refine Okk.bind (d_pick hb h3 12 (by omega) (by omega)) ?_
  rintro ⟨⟨w, ⟨⟩⟩, ⟨c2, ⟨⟩⟩⟩ ⟨w1, w2, w3⟩
  simp only at w1 w2 w3 ⊢
  have hw0 := Int.tdiv_nonneg w1 (show (0 : Int) ≤ 10 by omega)
  have hw1 : Int.tdiv w 10 ≤ w := by rw [Int.tdiv_eq_ediv_of_nonneg w1]; omega
  refine Okk.iteF (by omega) ?_
  rw [w64 (x := 1 + x) (by omega) (by omega), w64 (x := Int.tdiv w 10) (by omega) (by omega)]
  have := fk_le 4 (by omega)
  have := fl_le 4 (by omega)
  refine Okk.bind (d_form hb ha 4 (1 + x) (Int.tdiv w 10) (j + 2 + 2) c2 (by omega) (by omega) (by omega) hw0 (by omega) (by omega) w3) ?_
  rintro ⟨⟨f, ⟨⟩⟩, ⟨c3, ⟨⟩⟩⟩ ⟨g0, g1, g2, g3⟩
  simp only at g0 g1 g2 g3 ⊢
  refine Okk.bind (P := fun y => ∃ (c' : TCur) (u : List TForm), y = .inl (c', u, ()) ∧ u.length ≤ 100 ∧ (∀ x ∈ u, smF x) ∧ Cu code (j + 10000) c') ?_ ?_
  · refine Okk.bind (d_pick hb g3 40 (by omega) (by omega)) ?_
    rintro ⟨⟨y, ⟨⟩⟩, ⟨c4, ⟨⟩⟩⟩ ⟨_, _, k3⟩
    simp only at k3
    refine Okk.ite (fun _ => ?_) fun _ => Okk.ite (fun _ => ?_) fun _ => Okk.ite (fun _ => ?_) fun _ => ?_
    · refine Okk.iteT (by simp; omega) (.pure ⟨c4, _, rfl, by simp; omega, ?_, k3.mono (by omega)⟩)
      intro z hz
      exact g2 z (List.mem_of_mem_take (List.mem_of_mem_drop hz))
    · refine Okk.iteT (by omega) ?_
      refine Okk.bind (P := smF) ⟨f[0], by simp, g2 _ (List.getElem_mem _)⟩ fun z hz => ?_
      refine .pure ⟨c4, _, rfl, by simp; omega, ?_, k3.mono (by omega)⟩
      intro q hq
      rcases List.mem_or_eq_of_mem_set hq with h | rfl
      · exact g2 q h
      · exact hz
    · refine Okk.bind (d_pick hb k3 8 (by omega) (by omega)) ?_
      rintro ⟨⟨y, ⟨⟩⟩, ⟨c5, ⟨⟩⟩⟩ ⟨_, _, k5⟩
      simp only at k5 ⊢
      rw [dec64 (by omega) (by omega)]
      refine Okk.iteT (by omega) ?_
      have hlt : Int.toNat ((f.length : Int) - 1) < f.length := by omega
      refine Okk.bind (P := smF) ⟨f[Int.toNat ((f.length : Int) - 1)], by rw [List.getElem?_eq_getElem hlt], g2 _ (List.getElem_mem _)⟩ fun z hz => ?_
      refine .pure ⟨c5, _, rfl, by simp; omega, ?_, k5.mono (by omega)⟩
      intro q hq
      rcases List.mem_or_eq_of_mem_set hq with h | rfl
      · exact g2 q h
      · exact hz
    · exact .pure ⟨c4, f, rfl, by omega, g2, k3.mono (by omega)⟩
  · rintro _ ⟨c', u, rfl, k1, k2, k3⟩
    exact .pure ⟨k1, k2, k3⟩
theorem d_DrawGoodForm : Okk (fun r => SgD r.1.1.1 ∧ r.1.2.1.length ≤ 100 ∧ ∀ x ∈ r.1.2.1, smF x) (c_spec_DrawGoodForm M code) := by
  refine Okk.lift ?_ (e_spec_DrawGoodForm code)
  simp only [q_spec_DrawGoodForm]
  refine Okk.bind (d_sign hb (by omega) (cu0 code)) ?_
  rintro ⟨⟨⟨a, ⟨⟩⟩, ⟨⟩⟩, ⟨c1, ⟨⟩⟩⟩ ⟨h1, h2⟩
  refine Okk.bind (d_anyForm hb h1 (by omega) h2) ?_
  rintro ⟨⟨t, ⟨⟩⟩, ⟨c2, ⟨⟩⟩⟩ ⟨h3, h4, h5⟩
  exact .pure ⟨h1, h3, h4⟩
theorem d_DrawFormText : Okk (fun r => SgD r.1.1.1 ∧ r.1.2.1.length ≤ 100 ∧ ∀ x ∈ r.1.2.1, smF x) (c_spec_DrawFormText M code) := by
  refine Okk.lift ?_ (e_spec_DrawFormText code)
  simp only [q_spec_DrawFormText]
  refine Okk.bind (d_DrawGoodForm hb) ?_
  rintro ⟨⟨⟨a, ⟨⟩⟩, ⟨t, ⟨⟩⟩⟩, ⟨⟩⟩ h
  exact .pure h
theorem d_DrawFreeIn : Okk (fun r => SgD r.1.1.1 ∧ r.1.2.1.length ≤ 100 ∧ ∀ x ∈ r.1.2.1, smF x) (c_spec_DrawFreeIn M code) := by
  refine Okk.lift ?_ (e_spec_DrawFreeIn code)
  simp only [q_spec_DrawFreeIn]
  refine Okk.bind (d_DrawGoodForm hb) ?_
  rintro ⟨⟨⟨a, ⟨⟩⟩, ⟨t, ⟨⟩⟩⟩, ⟨⟩⟩ h
  exact .pure h
theorem d_DrawReadForm : Okk (fun r => SgD r.1.1.1 ∧ r.1.2.1.length ≤ 100000) (c_spec_DrawReadForm M code) := by
  refine Okk.lift ?_ (e_spec_DrawReadForm code)
  simp only [q_spec_DrawReadForm]
  refine Okk.bind (d_sign hb (by omega) (cu0 code)) ?_
  rintro ⟨⟨⟨a, ⟨⟩⟩, ⟨⟩⟩, ⟨c1, ⟨⟩⟩⟩ ⟨h1, h2⟩
  refine Okk.bind (d_anyForm hb h1 (by omega) h2) ?_
  rintro ⟨⟨f, ⟨⟩⟩, ⟨c2, ⟨⟩⟩⟩ ⟨h3, h4, h5⟩
  simp only at h1 h3 h4 h5
  obtain ⟨t, t1, t2, t3, t4, t5⟩ := p_FormTexts (a, ()) (by have := h1.1; simp only; omega) f (by omega) h4
  refine Okk.bind (P := fun r => r.1.1.length ≤ 6000) ⟨_, t1, t5⟩ ?_
  rintro ⟨⟨x, ok, ⟨⟩⟩, ⟨⟩⟩ ht
  refine Okk.bind (P := fun y => ∃ (u : List UInt8), y = .inl (([], ()), (a, ()), u, ()) ∧ u.length ≤ 100000) ?_ ?_
  · refine Okk.bind (d_one hb h5 3 (by omega) (by omega)) ?_
    rintro ⟨⟨b, ⟨⟩⟩, ⟨c3, ⟨⟩⟩⟩ h6
    simp only at ht
    refine Okk.ite (fun _ => ?_) fun _ => .pure ⟨x, rfl, by omega⟩
    refine Okk.bind (d_spoilt hb h6 x _ (by omega) (by simp) (by simp) (by omega)) ?_
    rintro ⟨⟨u, ⟨⟩⟩, ⟨c4, ⟨⟩⟩⟩ ⟨h7, _⟩
    simp only at h7
    exact .pure ⟨u, rfl, by omega⟩
  · rintro _ ⟨u, rfl, hu⟩
    exact .pure ⟨h1, hu⟩
end

theorem SgD_lenF {a : List Int} (h : SgD a) : a.length ≤ 1048576 := by have := h.1; omega
theorem p_FnFormText (a b : List Int) (ha : ∀ x ∈ a, 0 ≤ x ∧ x ≤ 255) (hb : ∀ x ∈ b, 0 ≤ x ∧ x ≤ 255) (la : a.length ≤ 9223372036854775807) (lb : b.length ≤ 9223372036854775807) : c_laws_FnFormText M a b = some ((true, ()), ()) := by
  apply e_laws_FnFormText
  simp only [q_laws_FnFormText, p_big a b la lb, Option.bind_some]
  by_cases hB : (decide (1048576 < a.length) || decide (1048576 - (a.length : Int) < b.length)) = true
  · rw [if_pos hB]
  · rw [if_neg hB]
    simp only [Bool.or_eq_true, decide_eq_true_eq, not_or] at hB
    have ba : isBytes a := ⟨by omega, ha⟩
    have bb : isBytes b := ⟨by omega, hb⟩
    obtain ⟨⟨⟨⟨s, ⟨⟩⟩, ⟨f, ⟨⟩⟩⟩, ⟨⟩⟩, d1, d2, d3, d4⟩ := d_DrawFormText ba
    obtain ⟨⟨⟨⟨u, ⟨⟩⟩, ⟨X, ⟨⟩⟩⟩, ⟨⟩⟩, f1, f2, f3⟩ := d_DrawReadForm bb
    obtain ⟨⟨⟨⟨v, ⟨⟩⟩, ⟨z, ⟨⟩⟩⟩, ⟨⟩⟩, h1, h2, h3, h4⟩ := d_DrawFreeIn bb
    simp only at d2 d3 d4 f2 f3 h2 h3 h4
    have hs := SgD_lenF d2
    have hu := SgD_lenF f2
    have hv := SgD_lenF h2
    rw [d1]
    obtain ⟨⟨tx1, ok1⟩, t1, t2, t3, t4, t5⟩ := p_FormTexts (s, ()) hs f (by omega) d4
    simp only at t1 t2 t3 t4 t5
    simp only [Option.bind_some, t1, t2]
    rw [if_neg (by simp), if_neg (by simp)]
    have first : ((if ok1 = true then (if (decide ((List.length tx1 : Int) ≤ (1000 : Int))) = true then ((c_impl_ReadForm M (s, ()) tx1).bind fun r6 => (if (!r6.1.2.2.1) = true then ((some ((false, ()), ())).map .inr) else (if (r6.1.2.1 != (List.length tx1 : Int)) = true then ((some ((false, ()), ())).map .inr) else ((c_laws_sameForm M r6.1.1 f).bind fun r7 => (if (!r7.1.1) = true then ((some ((false, ()), ())).map .inr) else (some (.inl (b, ())))))))) else (some (.inl (b, ())))) else (some (.inl (b, ())))) : Option (((List Int) × Unit) ⊕ (Bool × Unit) × (Unit))) = some (.inl (b, ())) := by
      by_cases hok : ok1 = true
      · rw [if_pos hok]
        by_cases hl : tx1.length ≤ 1000
        · rw [if_pos (by simp; omega)]
          obtain ⟨T, q1, rfl⟩ := t4 hok
          rw [hok] at t3
          have t3' := t3.symm
          simp only [Bool.and_eq_true] at t3'
          simp only [p_impl_RF (s, ()) hs, Option.bind_some]
          rw [RF_ftx t3'.1 t3'.2 q1 hl, if_neg (by simp), if_neg (by simp), p_sameForm f (by omega) d4]
          rfl
        · rw [if_neg (by simp; omega)]
      · rw [if_neg hok]
    rw [first]
    simp only [Option.bind_some, Sum.elim_inl]
    rw [f1]
    simp only [Option.bind_some, p_impl_RF (u, ()) hu X, p_spec_RF (u, ()) hu X]
    obtain ⟨m1, m2⟩ := RF_sm u X
    rw [if_neg (by simp), if_neg (by simp), p_sameForm _ (by omega) m2]
    simp only [Option.bind_some]
    rw [if_neg (by simp)]
    rcases RF_inv u X with ⟨n, e, hn⟩ | ⟨r, e, g1, g2, g3, g4, g5⟩
    · rw [e]
      simp only
      rw [if_neg (by simp), h1]
      obtain ⟨fr, r1, r2, r3⟩ := p_FreeIns (v, ()) hv z (by omega) h4
      simp only [Option.bind_some, r1, r2]
      rw [if_pos (by simp), if_pos (by simp; omega), if_pos (by simp), p_sameInts _ (by omega)]
      rfl
    · rw [e]
      simp only
      rw [if_pos trivial]
      obtain ⟨⟨tx2, ok2⟩, w1, w2, w3, w4, w5⟩ := p_FormTexts (u, ()) hu r (by omega) g4
      simp only at w1 w2 w3 w4 w5
      have ok : ok2 = true := by rw [w3, g1, g2]; rfl
      obtain ⟨T, q1, rfl⟩ := w4 ok
      rw [w2, ← g5 T q1]
      simp only [Option.bind_some]
      rw [if_pos ok]
      simp
end Go.Proofs.YtkdceefdipljaaaFft.Ev
