/- Plain laws: signatures, terms, literals and clauses that are drawn are answered, and small. No condition but sizes. -/
import Derived.Test.YtffdfjilpleljaaCuPHo
namespace Go.Proofs.YtffdfjilpleljaaCu.Ev
open Go
set_option autoImplicit false
set_option linter.unusedVariables false
set_option linter.unusedSimpArgs false

/-- A signature as it is drawn. -/
def SgD (a : List Int) : Prop := a.length ≤ 10 ∧ ∀ x ∈ a, 0 ≤ x ∧ x ≤ 3
theorem dec64 {x : Int} (h : -9223372036854775807 ≤ x) (k : x < 9223372036854775808) : IntKind.i64.wrap (x - 1) = x - 1 := w64 (by omega) (by omega)
section
variable {code : List Int} (hb : isBytes code)
include hb
theorem d_sign {j : Int} (hj : j ≤ 1000000) {c : TCur} (hc : Cu code j c) : Okk (fun r => SgD r.1.1.1 ∧ Cu code (j + 2) r.2.1) (c_spec_l1Cur_sign M c) := by
  refine Okk.lift ?_ (e_spec_l1Cur_sign c)
  simp only [q_spec_l1Cur_sign]
  refine Okk.bind (P := fun y => ∃ c' a, y = .inl (c', ([], ()), (a, ()), ()) ∧ SgD a ∧ Cu code (j + 2) c') ?_ ?_
  · refine Okk.bind (d_pick hb hc 40 (by omega) (by omega)) ?_
    rintro ⟨⟨x, ⟨⟩⟩, ⟨c', ⟨⟩⟩⟩ ⟨_, _, h⟩
    refine Okk.ite (fun _ => .pure ⟨c', _, rfl, by simp [SgD], h⟩) fun _ => Okk.ite (fun _ => .pure ⟨c', _, rfl, by simp [SgD], h⟩) fun _ => Okk.ite (fun _ => .pure ⟨c', _, rfl, by simp [SgD], h⟩) fun _ => .pure ⟨c', _, rfl, by simp [SgD], h⟩
  · rintro _ ⟨c', a, rfl, h1, h2⟩
    exact .pure ⟨h1, h2⟩

theorem d_term_step {a : List Int} (ha : SgD a) (vars : Int) (hv : vars ≤ 1000) (deep : Int) {j : Int} (hj : j ≤ 1000000) {c : TCur} (hc : Cu code j c) (N : Nat) (hN : 1 ≤ N) (K : Int) (hK : j + 6 ≤ K)
    (hL : 1 < deep → ∀ (n v : Int) (c4 : TCur), 0 ≤ v → v ≤ 3 → Cu code (j + 6) c4 → Okk (fun y => ∃ (c5 : TCur) (t : List Int), y = .inl (c5, t, ()) ∧ 0 < t.length ∧ t.length ≤ N ∧ Cu code K c5) (l_spec_l1Cur_term_2042 M c4 deep vars (a, ()) [n] v)) :
    Okk (fun r => r.1.1.length ≤ N ∧ 0 < r.1.1.length ∧ Cu code K r.2.1) (c_spec_l1Cur_term M c (a, ()) deep vars) := by
  refine Okk.lift ?_ (e_spec_l1Cur_term c (a, ()) deep vars)
  simp only [q_spec_l1Cur_term, cur_eta]
  have hal := ha.1
  refine Okk.ite (fun _ => .pure ⟨hN, by simp, hc.mono (by omega)⟩) fun h0 => ?_
  have hpos : 0 < a.length := by simp at h0; exact List.length_pos_iff.2 h0
  have A : ∀ (x : Int) (c3 : TCur), 0 ≤ x → (x < (a.length : Int) ∨ x = 0) → Cu code (j + 4) c3 → Okk (fun y => ∃ (c4 : TCur) (n : Int), y = .inl (c4, deep, vars, (a, ()), n, ()) ∧ 0 ≤ n ∧ n < a.length ∧ Cu code (j + 6) c4) ((((idx a x).bind fun x5 => (if (decide (x5 > (0 : Int))) = true then (if (decide (deep ≤ (1 : Int))) = true then ((c_spec_l1Cur_pick M c3 (List.length a : Int)).bind fun r6 => (if (2 : Int) = 0 then none else (some (.inl ((r6.2.1.1, r6.2.1.2.1, r6.2.1.2.2.1, ()), deep, vars, (a, ()), (IntKind.i64.wrap (Int.tdiv r6.1.1 (2 : Int))), ()))))) else (some (.inl (c3, deep, vars, (a, ()), x, ())))) else (some (.inl (c3, deep, vars, (a, ()), x, ()))))) : Option ((((List Int) × Int × Int × Unit) × Int × Int × ((List Int) × Unit) × Int × Unit) ⊕ ((List Int) × Unit) × (((List Int) × Int × Int × Unit) × Unit)))) := by
    intro x c3 hx0 hx1 hc3
    refine Okk.bind (Okk.idx hx0 (by omega)) fun y hy => ?_
    refine Okk.ite (fun _ => Okk.ite (fun _ => ?_) fun _ => .pure ⟨c3, x, rfl, hx0, by omega, hc3.mono (by omega)⟩) fun _ => .pure ⟨c3, x, rfl, hx0, by omega, hc3.mono (by omega)⟩
    refine Okk.bind (d_pick hb hc3 _ (by omega) (by omega)) ?_
    rintro ⟨⟨z, ⟨⟩⟩, ⟨c4, ⟨⟩⟩⟩ ⟨h1, h2, h3⟩
    simp only at h1 h2 h3
    have h5 := Int.tdiv_nonneg h1 (show (0 : Int) ≤ 2 by omega)
    have h6 : Int.tdiv z 2 ≤ z := by rw [Int.tdiv_eq_ediv_of_nonneg h1]; omega
    refine Okk.iteF (by omega) (.pure ⟨c4, _, rfl, ?_, ?_, h3.mono (by omega)⟩)
    · simp only; rw [w64 (by omega) (by omega)]; exact h5
    · simp only; rw [w64 (by omega) (by omega)]; omega
  have B : ∀ (n : Int) (c4 : TCur), 0 ≤ n → n < (a.length : Int) → Cu code (j + 6) c4 → Okk (fun r : ((List Int) × Unit) × (TCur × Unit) => r.1.1.length ≤ N ∧ 0 < r.1.1.length ∧ Cu code K r.2.1) ((idx a n).bind fun x7 => (if (decide (x7 > (0 : Int))) = true then (if (decide (deep ≤ (1 : Int))) = true then (some ((([(0 : Int)] : List Int), ()), (c4, ()))) else ((idx a n).bind fun x8 => ((l_spec_l1Cur_term_2042 M c4 deep vars (a, ()) ([n] : List Int) x8).bind (Sum.elim (fun y9 => (some ((y9.2.1, ()), ((y9.1.1, y9.1.2.1, y9.1.2.2.1, ()), ())))) (fun r10 => (some r10)))))) else ((idx a n).bind fun x11 => ((l_spec_l1Cur_term_2042 M c4 deep vars (a, ()) ([n] : List Int) x11).bind (Sum.elim (fun y12 => (some ((y12.2.1, ()), ((y12.1.1, y12.1.2.1, y12.1.2.2.1, ()), ())))) (fun r13 => (some r13))))))) := by
    intro n c4 hn0 hn1 hc4
    obtain ⟨v, hv1, hv2⟩ := Okk.idx (l := a) hn0 hn1
    rw [hv1]
    simp only [Option.bind_some]
    have := ha.2 v hv2
    refine Okk.ite (fun hv3 => ?_) fun hv3 => ?_
    · refine Okk.ite (fun _ => .pure ⟨hN, by simp, hc4.mono (by omega)⟩) fun hd => ?_
      refine Okk.bind (hL (by simp at hd; omega) n v c4 (by omega) (by omega) hc4) ?_
      rintro _ ⟨c5, t, rfl, t1, t2, t3⟩
      exact .pure ⟨t2, t1, t3⟩
    · obtain rfl : v = 0 := by simp at hv3; omega
      have hl : l_spec_l1Cur_term_2042 M c4 deep vars (a, ()) [n] 0 = some (.inl (c4, [n], ())) := by
        apply el_spec_l1Cur_term_2042
        simp [ql_spec_l1Cur_term_2042, cur_eta]
      rw [hl]
      exact .pure ⟨hN, by simp, hc4.mono (by omega)⟩
  refine Okk.ite (fun _ => ?_) fun _ => ?_
  · refine Okk.bind (d_one hb hc 3 (by omega) (by omega)) ?_
    rintro ⟨⟨x, ⟨⟩⟩, ⟨c2, ⟨⟩⟩⟩ h2
    refine Okk.ite (fun _ => ?_) fun _ => ?_
    · refine Okk.bind (d_pick hb h2 vars (by omega) (by omega)) ?_
      rintro ⟨⟨y, ⟨⟩⟩, ⟨c3, ⟨⟩⟩⟩ ⟨_, _, h3⟩
      exact .pure ⟨hN, by simp, h3.mono (by omega)⟩
    · refine Okk.bind (d_pick hb h2 _ (by omega) (by omega)) ?_
      rintro ⟨⟨y, ⟨⟩⟩, ⟨c3, ⟨⟩⟩⟩ ⟨g1, g2, h3⟩
      refine Okk.bind (A y c3 g1 g2 (h3.mono (by omega))) ?_
      rintro _ ⟨c4, n, rfl, k1, k2, k3⟩
      exact B n c4 k1 k2 k3
  · refine Okk.bind (d_pick hb hc _ (by omega) (by omega)) ?_
    rintro ⟨⟨y, ⟨⟩⟩, ⟨c3, ⟨⟩⟩⟩ ⟨g1, g2, h3⟩
    refine Okk.bind (A y c3 g1 g2 (h3.mono (by omega))) ?_
    rintro _ ⟨c4, n, rfl, k1, k2, k3⟩
    exact B n c4 k1 k2 k3

/-- How many numbers a term of some levels takes at most, and how many draws. -/
def dl : Nat → Nat
  | 0 => 1
  | d + 1 => 1 + 3 * dl d
def dk : Nat → Int
  | 0 => 6
  | d + 1 => 6 + 3 * dk d
omit hb in
theorem dl_pos (d : Nat) : 1 ≤ dl d := by cases d <;> simp [dl]
omit hb in
theorem dk_pos (d : Nat) : 6 ≤ dk d := by
  induction d with
  | zero => simp [dk]
  | succ d ih => simp [dk]; omega
theorem d_term {a : List Int} (ha : SgD a) (vars : Int) (hv : vars ≤ 1000) : ∀ (d : Nat) (deep : Int) (j : Int) (c : TCur), deep ≤ (d : Int) + 1 → d ≤ 5 → j + dk d ≤ 200000 → Cu code j c → Okk (fun r => r.1.1.length ≤ dl d ∧ 0 < r.1.1.length ∧ Cu code (j + dk d) r.2.1) (c_spec_l1Cur_term M c (a, ()) deep vars) := by
  intro d
  induction d with
  | zero =>
    intro deep j c hd _ hj hc
    simp only [dk] at hj
    exact d_term_step hb ha vars hv deep (by omega) hc 1 (by omega) (j + 6) (by omega) (fun h => by omega)
  | succ d ih =>
    intro deep j c hd hd5 hj hc
    have hdl : dl d ≤ 1000 := by
      have : d ≤ 4 := by omega
      rcases d with _ | _ | _ | _ | _ | d <;> first | (simp [dl]; done) | omega
    have hdk : dk d ≤ 10000 := by
      rcases d with _ | _ | _ | _ | _ | d <;> first | (simp [dk]; done) | omega
    have hp := dk_pos d
    simp only [dk] at hj
    have loop : 1 < deep → ∀ (k : Nat) (out : List Int) (j' : Int) (c4 : TCur), k ≤ 3 → 0 < out.length → out.length + k * dl d ≤ 10000 → j' + k * dk d ≤ j + 6 + 3 * dk d → Cu code j' c4 → Okk (fun y => ∃ (c5 : TCur) (t : List Int), y = .inl (c5, t, ()) ∧ 0 < t.length ∧ t.length ≤ out.length + k * dl d ∧ Cu code (j' + k * dk d) c5) (l_spec_l1Cur_term_2042 M c4 deep vars (a, ()) out (k : Int)) := by
      intro hdeep k
      induction k with
      | zero =>
        intro out j' c4 _ h0 _ _ hc4
        refine Okk.lift ?_ (el_spec_l1Cur_term_2042 _ _ _ _ _ _)
        simp only [ql_spec_l1Cur_term_2042, cur_eta]
        refine Okk.iteF (by simp) (.pure ⟨c4, out, rfl, h0, by omega, hc4.mono (by simp)⟩)
      | succ k ihk =>
        intro out j' c4 hk h0 ho hj2 hc4
        have e1 : ((k + 1 : Nat) : Int) * dk d = k * dk d + dk d := by rw [Int.natCast_add, Int.add_mul]; simp
        have e2 : (k + 1) * dl d = k * dl d + dl d := by rw [Nat.add_mul]; simp
        have e3 : 0 ≤ (k : Int) * dk d := Int.mul_nonneg (by omega) (by omega)
        rw [e1] at hj2
        rw [e2] at ho
        refine Okk.lift ?_ (el_spec_l1Cur_term_2042 _ _ _ _ _ _)
        simp only [ql_spec_l1Cur_term_2042, cur_eta]
        refine Okk.iteT (by simp <;> omega) ?_
        rw [dec64 (x := deep) (by omega) (by omega), dec64 (x := ((k + 1 : Nat) : Int)) (by omega) (by omega), show ((k + 1 : Nat) : Int) - 1 = (k : Int) by omega]
        refine Okk.bind (ih (deep - 1) j' c4 (by omega) (by omega) (by omega) hc4) ?_
        rintro ⟨⟨t, ⟨⟩⟩, ⟨c5, ⟨⟩⟩⟩ ⟨g1, g2, g3⟩
        simp only at g1 g2 g3
        refine Okk.iteT (by simp only; omega) ?_
        refine Okk.mono (ihk (out ++ t) (j' + dk d) c5 (by omega) (by simp; omega) (by rw [List.length_append]; omega) (by omega) g3) ?_
        rintro _ ⟨c6, t', rfl, h1, h2, h3⟩
        refine ⟨c6, t', rfl, h1, ?_, h3.mono (by rw [e1]; omega)⟩
        rw [List.length_append] at h2
        rw [e2]; omega
    refine d_term_step hb ha vars hv deep (by omega) hc (dl (d + 1)) (dl_pos _) (j + dk (d + 1)) (by simp only [dk]; omega) ?_
    intro hdeep n v c4 hv0 hv3 hc4
    obtain ⟨k, rfl⟩ : ∃ m : Nat, v = (m : Int) := ⟨v.toNat, by omega⟩
    have e4 : (k : Int) * dk d ≤ 3 * dk d := Int.mul_le_mul_of_nonneg_right (by omega) (by omega)
    have e5 : k * dl d ≤ 3 * dl d := Nat.mul_le_mul_right _ (by omega)
    refine Okk.mono (loop hdeep k [n] (j + 6) c4 (by omega) (by simp) (by simp only [List.length_cons, List.length_nil]; omega) (by omega) hc4) ?_
    rintro _ ⟨c6, t', rfl, h1, h2, h3⟩
    refine ⟨c6, t', rfl, h1, ?_, h3.mono (by simp only [dk]; omega)⟩
    simp only [List.length_cons, List.length_nil] at h2
    simp only [dl]; omega

/-- A literal, and a clause, of few numbers. -/
def liD (x : TLit) : Prop := x.2.1.length ≤ 100 ∧ x.2.2.1.length ≤ 100
theorem d_lit {a : List Int} (ha : SgD a) {j : Int} (hj : j ≤ 90000) {c : TCur} (hc : Cu code j c) : Okk (fun r => liD r.1.1 ∧ Cu code (j + 1000) r.2.1) (c_spec_l1Cur_lit M c (a, ())) := by
  refine Okk.lift ?_ (e_spec_l1Cur_lit c (a, ()))
  simp only [q_spec_l1Cur_lit, cur_eta]
  refine Okk.bind (d_one hb hc 3 (by omega) (by omega)) ?_
  rintro ⟨⟨b, ⟨⟩⟩, ⟨c1, ⟨⟩⟩⟩ h1
  refine Okk.bind (d_pick hb h1 3 (by omega) (by omega)) ?_
  rintro ⟨⟨n, ⟨⟩⟩, ⟨c2, ⟨⟩⟩⟩ ⟨n1, n2, h2⟩
  simp only at n1 n2 h2
  refine Okk.bind (d_term hb ha 3 (by omega) 3 (IntKind.i64.wrap (1 + n)) (j + 4) c2 (by rw [w64 (by omega) (by omega)]; omega) (by omega) (by simp only [dk]; omega) (h2.mono (by omega))) ?_
  rintro ⟨⟨t, ⟨⟩⟩, ⟨c3, ⟨⟩⟩⟩ ⟨t1, _, h3⟩
  simp only [dl, dk] at t1 h3
  refine Okk.bind (d_pick hb h3 2 (by omega) (by omega)) ?_
  rintro ⟨⟨m, ⟨⟩⟩, ⟨c4, ⟨⟩⟩⟩ ⟨m1, m2, h4⟩
  simp only at m1 m2 h4
  refine Okk.bind (d_term hb ha 3 (by omega) 3 (IntKind.i64.wrap (1 + m)) (j + 400) c4 (by rw [w64 (by omega) (by omega)]; omega) (by omega) (by simp only [dk]; omega) (h4.mono (by omega))) ?_
  rintro ⟨⟨u, ⟨⟩⟩, ⟨c5, ⟨⟩⟩⟩ ⟨u1, _, h5⟩
  simp only [dl, dk] at u1 h5
  refine Okk.bind (P := fun y => ∃ (c' : TCur) (z x : TLit), y = .inl (c', z, x, ()) ∧ liD x ∧ Cu code (j + 1000) c') ?_ ?_
  · refine Okk.bind (d_one hb h5 3 (by omega) (by omega)) ?_
    rintro ⟨⟨b2, ⟨⟩⟩, ⟨c6, ⟨⟩⟩⟩ h6
    refine Okk.ite (fun _ => .pure ⟨c6, _, _, rfl, ⟨by simp only; omega, by simp⟩, h6.mono (by omega)⟩) fun _ => .pure ⟨c6, _, _, rfl, ⟨by simp only; omega, by simp only; omega⟩, h6.mono (by omega)⟩
  · rintro _ ⟨c', z, x, rfl, h1, h2⟩
    exact .pure ⟨h1, h2⟩

theorem d_clause_loop {a : List Int} (ha : SgD a) : ∀ (k : Nat) (j : Int) (c : TCur) (out : List TLit), k ≤ 20 → out.length + k ≤ 20 → j + 1000 * k ≤ 90000 → (∀ x ∈ out, liD x) → Cu code j c → Okk (fun y => ∃ (c' : TCur) (o : List TLit), y = .inl (c', (a, ()), o, ()) ∧ o.length = out.length + k ∧ (∀ x ∈ o, liD x) ∧ Cu code (j + 1000 * k) c') (l_spec_l1Cur_clause_58 M c (a, ()) out (k : Int)) := by
  intro k
  induction k with
  | zero =>
    intro j c out _ _ _ hx hc
    refine Okk.lift ?_ (el_spec_l1Cur_clause_58 _ _ _ _)
    simp only [ql_spec_l1Cur_clause_58, cur_eta]
    exact Okk.iteF (by simp) (.pure ⟨c, out, rfl, by simp, hx, by simpa using hc⟩)
  | succ k ih =>
    intro j c out hk ho hj hx hc
    refine Okk.lift ?_ (el_spec_l1Cur_clause_58 _ _ _ _)
    simp only [ql_spec_l1Cur_clause_58, cur_eta]
    refine Okk.iteT (by simp <;> omega) ?_
    rw [dec64 (by omega) (by omega), show ((k + 1 : Nat) : Int) - 1 = (k : Int) by omega]
    refine Okk.bind (d_lit hb ha (by omega) hc) ?_
    rintro ⟨⟨x, ⟨⟩⟩, ⟨c1, ⟨⟩⟩⟩ ⟨h1, h2⟩
    refine Okk.iteT (by simp only [List.length_cons, List.length_nil]; omega) ?_
    · refine Okk.mono (ih (j + 1000) c1 (out ++ [x]) (by omega) (by simp; omega) (by omega) ?_ h2) ?_
      · intro y hy
        simp only [List.mem_append, List.mem_singleton] at hy
        rcases hy with hy | rfl
        · exact hx y hy
        · exact h1
      · rintro _ ⟨c', o, rfl, g1, g2, g3⟩
        exact ⟨c', o, rfl, by rw [g1, List.length_append]; simp only [List.length_cons, List.length_nil]; omega, g2, g3.mono (by omega)⟩

theorem d_clause_fill {a : List Int} (ha : SgD a) : ∀ (k : Nat) (j : Int) (c : TCur) (out : List TLit), out.length + k = 9 → j + 1010 * (k + 1) ≤ 90000 → (∀ x ∈ out, liD x) → Cu code j c → Okk (fun y => ∃ (c' : TCur) (o : List TLit), y = .inl (c', o, ()) ∧ o.length ≤ 9 ∧ (∀ x ∈ o, liD x) ∧ Cu code (j + 1010 * (k + 1)) c') (l_spec_l1Cur_clause_4052 M c (a, ()) out) := by
  intro k
  induction k with
  | zero =>
    intro j c out ho hj hx hc
    refine Okk.lift ?_ (el_spec_l1Cur_clause_4052 _ _ _)
    simp only [ql_spec_l1Cur_clause_4052, cur_eta]
    refine Okk.bind (d_pick hb hc 2 (by omega) (by omega)) ?_
    rintro ⟨⟨n, ⟨⟩⟩, ⟨c1, ⟨⟩⟩⟩ ⟨n1, n2, h1⟩
    simp only at n1 n2 h1
    simp only [w64 (x := 8 + n) (by omega) (by omega)]
    exact Okk.iteF (by simp; omega) (.pure ⟨c1, out, rfl, by omega, hx, h1.mono (by omega)⟩)
  | succ k ih =>
    intro j c out ho hj hx hc
    refine Okk.lift ?_ (el_spec_l1Cur_clause_4052 _ _ _)
    simp only [ql_spec_l1Cur_clause_4052, cur_eta]
    refine Okk.bind (d_pick hb hc 2 (by omega) (by omega)) ?_
    rintro ⟨⟨n, ⟨⟩⟩, ⟨c1, ⟨⟩⟩⟩ ⟨n1, n2, h1⟩
    simp only at n1 n2 h1
    refine Okk.ite (fun _ => ?_) fun _ => .pure ⟨c1, out, rfl, by omega, hx, h1.mono (by omega)⟩
    refine Okk.bind (d_lit hb ha (by omega) h1) ?_
    rintro ⟨⟨x, ⟨⟩⟩, ⟨c2, ⟨⟩⟩⟩ ⟨g1, g2⟩
    refine Okk.iteT (by simp only [List.length_cons, List.length_nil]; omega) ?_
    refine Okk.mono (ih (j + 1002) c2 (out ++ [x]) (by simp; omega) (by omega) ?_ (g2.mono (by omega))) ?_
    · intro y hy
      simp only [List.mem_append, List.mem_singleton] at hy
      rcases hy with hy | rfl
      · exact hx y hy
      · exact g1
    · rintro _ ⟨c', o, rfl, k1, k2, k3⟩
      exact ⟨c', o, rfl, k1, k2, k3.mono (by omega)⟩

theorem d_clause {a : List Int} (ha : SgD a) {j : Int} (hj : j ≤ 10000) {c : TCur} (hc : Cu code j c) : Okk (fun r => r.1.1.length ≤ 9 ∧ (∀ x ∈ r.1.1, liD x) ∧ Cu code (j + 20000) r.2.1) (c_spec_l1Cur_clause M c (a, ())) := by
  refine Okk.lift ?_ (e_spec_l1Cur_clause c (a, ()))
  simp only [q_spec_l1Cur_clause, cur_eta]
  refine Okk.bind (d_among hb hc [0, 1, 1, 1, 2, 2, 3] (by omega) (by simp) (by simp)) ?_
  rintro ⟨⟨n, ⟨⟩⟩, ⟨c1, ⟨⟩⟩⟩ ⟨n1, h1⟩
  simp only at n1 h1
  obtain ⟨k, rfl, hk⟩ : ∃ m : Nat, n = (m : Int) ∧ m ≤ 3 := ⟨n.toNat, by simp at n1; omega, by simp at n1; omega⟩
  refine Okk.bind (d_clause_loop hb ha k (j + 2) c1 [] (by omega) (by simp; omega) (by omega) (by simp) h1) ?_
  rintro _ ⟨c2, o, rfl, o1, o2, h2⟩
  simp only [List.length_nil, Nat.zero_add] at o1
  simp only [Sum.elim_inl]
  refine Okk.bind (P := fun y => ∃ (c' : TCur) (o : List TLit), y = .inl (c', (a, ()), o, ()) ∧ o.length ≤ 4 ∧ (∀ x ∈ o, liD x) ∧ Cu code (j + 3010) c') ?_ ?_
  · refine Okk.ite (fun ho => ?_) fun _ => .pure ⟨c2, o, rfl, by omega, o2, h2.mono (by omega)⟩
    refine Okk.bind (d_one hb h2 6 (by omega) (by omega)) ?_
    rintro ⟨⟨b, ⟨⟩⟩, ⟨c3, ⟨⟩⟩⟩ h3
    refine Okk.ite (fun _ => ?_) fun _ => .pure ⟨c3, o, rfl, by omega, o2, h3.mono (by omega)⟩
    refine Okk.bind (d_pick hb h3 _ (by omega) (by omega)) ?_
    rintro ⟨⟨i, ⟨⟩⟩, ⟨c4, ⟨⟩⟩⟩ ⟨i1, i2, h4⟩
    simp only at i1 i2 h4
    simp only [decide_eq_true_eq] at ho
    refine Okk.iteT (by simp only; omega) ?_
    refine Okk.bind (Okk.get (by simp only; omega)) fun x hx => ?_
    refine Okk.bind (d_one hb h4 3 (by omega) (by omega)) ?_
    rintro ⟨⟨b2, ⟨⟩⟩, ⟨c5, ⟨⟩⟩⟩ h5
    refine Okk.iteT (by simp only [List.length_cons, List.length_nil]; omega) (.pure ⟨c5, _, rfl, by simp; omega, ?_, h5.mono (by omega)⟩)
    intro y hy
    simp only [List.mem_append, List.mem_singleton] at hy
    have hxl := o2 x hx
    rcases hy with hy | rfl
    · exact o2 y hy
    · exact ⟨hxl.2, hxl.1⟩
  · rintro _ ⟨c3, o', rfl, q1, q2, h3⟩
    simp only [Sum.elim_inl]
    refine Okk.bind (P := fun y => ∃ (c' : TCur) (o : List TLit), y = .inl (c', (a, ()), o, ()) ∧ o.length ≤ 4 ∧ (∀ x ∈ o, liD x) ∧ Cu code (j + 3020) c') ?_ ?_
    · refine Okk.ite (fun ho => ?_) fun _ => .pure ⟨c3, o', rfl, by omega, q2, h3.mono (by omega)⟩
      refine Okk.bind (d_one hb h3 12 (by omega) (by omega)) ?_
      rintro ⟨⟨b, ⟨⟩⟩, ⟨c4, ⟨⟩⟩⟩ h4
      simp only [decide_eq_true_eq] at ho
      refine Okk.ite (fun _ => ?_) fun _ => .pure ⟨c4, o', rfl, by omega, q2, h4.mono (by omega)⟩
      refine Okk.iteT (by omega) ?_
      refine Okk.bind (Okk.get (by simp only [Int.toNat_zero]; omega)) fun x hx => ?_
      refine Okk.iteT (by omega) ?_
      refine Okk.bind (Okk.get (by simp only [Int.toNat_zero]; omega)) fun y hy => ?_
      refine .pure ⟨c4, _, rfl, by simp; omega, ?_, h4.mono (by omega)⟩
      intro z hz
      rcases List.mem_or_eq_of_mem_set hz with hz | rfl
      · exact q2 z hz
      · exact ⟨(q2 y hy).1, (q2 x hx).1⟩
    · rintro _ ⟨c4, o'', rfl, q3, q4, h4⟩
      simp only [Sum.elim_inl]
      refine Okk.bind (P := fun y => ∃ (c' : TCur) (o : List TLit), y = .inl (c', o, ()) ∧ o.length ≤ 9 ∧ (∀ x ∈ o, liD x) ∧ Cu code (j + 20000) c') ?_ ?_
      · refine Okk.bind (d_pick hb h4 60 (by omega) (by omega)) ?_
        rintro ⟨⟨i, ⟨⟩⟩, ⟨c5, ⟨⟩⟩⟩ ⟨_, _, h5⟩
        simp only at h5
        refine Okk.ite (fun _ => ?_) fun _ => Okk.ite (fun _ => ?_) fun _ => .pure ⟨c5, o'', rfl, by omega, q4, h5.mono (by omega)⟩
        · refine Okk.bind (d_clause_fill hb ha (9 - o''.length) (j + 3022) c5 o'' (by omega) (by omega) q4 (h5.mono (by omega))) ?_
          rintro _ ⟨c6, o3, rfl, r1, r2, h6⟩
          exact .pure ⟨c6, o3, rfl, r1, r2, h6.mono (by omega)⟩
        · refine Okk.iteT (by simp only [List.length_cons, List.length_nil]; omega) (.pure ⟨c5, _, rfl, by simp; omega, ?_, h5.mono (by omega)⟩)
          intro y hy
          simp only [List.mem_append, List.mem_singleton] at hy
          rcases hy with hy | rfl
          · exact q4 y hy
          · exact ⟨by simp, by simp⟩
      · rintro _ ⟨c6, o3, rfl, r1, r2, h6⟩
        exact .pure ⟨r1, r2, h6⟩
end

end Go.Proofs.YtffdfjilpleljaaCu.Ev
