/- Texts laid together: QB, QY, PMa, PMb, QT, QD, QE, QF, QU, QR, QV, QW, QZ, QXr, QS; no condition but those that each theorem names. -/
import Derived.Test.YtcjaikkdpclaaaaPuPGs
/- Plain laws: pushing negations inwards: both programs do the same; FnExactPushNot. No condition but sizes. -/
namespace Go.Proofs.YtcjaikkdpclaaaaPu.Ev
open Go
set_option autoImplicit false
set_option linter.unusedVariables false
set_option linter.unusedSimpArgs false

def xop (op : Int) : Int := if op = 3 then 4 else if op = 4 then 3 else if op = 5 then 6 else 5
theorem p_exchanged (op : Int) : c_impl_exchanged M op = some ((xop op, ()), ()) := by
  apply e_impl_exchanged
  simp only [q_impl_exchanged, xop, beq_iff_eq]
  by_cases h3 : op = 3
  · simp [h3]
  · by_cases h4 : op = 4
    · simp [h4]
    · by_cases h5 : op = 5
      · simp [h5]
      · simp [h3, h4, h5]
/-- A node as it stands behind a pushed negation. -/
def xnd (n : Bool) (x : TForm) : TForm := (if n = true then xop x.1 else x.1, x.2.1, x.2.2.1, x.2.2.2.1, ())

abbrev TNode := Int × Int × List Int × List Int × List Tree × Unit
theorem p_push_end (n : Bool) (nd : TNode) (ts : List Tree) : l_impl_tree_push_250 M n nd ts ts.length ts.length = some (.inl (nd, ())) := by
  apply el_impl_tree_push_250
  simp [ql_impl_tree_push_250]
theorem p_push_step (n : Bool) (nd : TNode) (ts : List Tree) (u : Tree) (i : Nat) (hi : i < ts.length) (hl : ts.length ≤ 1000) (hn : nd.2.2.2.2.1.length ≤ 1000) (h : c_impl_tree_push M ts[i] n = some ((u, ()), ())) {r : (TNode × Unit) ⊕ ((Tree × Unit) × Unit)}
    (hr : l_impl_tree_push_250 M n (nd.1, nd.2.1, nd.2.2.1, nd.2.2.2.1, nd.2.2.2.2.1 ++ [u], ()) ts ts.length ((i + 1 : Nat) : Int) = some r) : l_impl_tree_push_250 M n nd ts ts.length (i : Int) = some r := by
  apply el_impl_tree_push_250
  simp only [ql_impl_tree_push_250]
  rw [if_pos (by simpa using hi), idx_lt hi]
  simp only [Option.bind_some, h]
  rw [if_pos (by simp; omega), inc_nat (by omega)]
  exact hr

/-- A node that is neither a negation nor an equation: its kids are pushed. -/
theorem p_push_node (x : TForm) (ts us : List Tree) (n : Bool) (h2 : x.1 ≠ 2) (h1 : x.1 ≠ 1) (h : l_impl_tree_push_250 M n ((xnd n x).1, x.2.1, x.2.2.1, x.2.2.2.1, [], ()) ts ts.length 0 = some (.inl (((xnd n x).1, x.2.1, x.2.2.1, x.2.2.2.1, us, ()), ()))) :
    c_impl_tree_push M (mkT x ts) n = some ((mkT (xnd n x) us, ()), ()) := by
  apply e_impl_tree_push
  have e2 : (x.1 == 2) = false := by simpa using h2
  have e1 : (x.1 == 1) = false := by simpa using h1
  simp only [q_impl_tree_push, treeK, e1, e2, Bool.false_eq_true, ↓reduceIte]
  cases n with
  | true =>
    simp only [xnd, ↓reduceIte] at h ⊢
    simp only [p_exchanged, Option.bind_some, Sum.elim_inl, treeK, h]
  | false =>
    simp only [xnd, ↓reduceIte, Bool.false_eq_true] at h ⊢
    simp only [p_exchanged, Option.bind_some, Sum.elim_inl, treeK, h]

theorem xnd_eta (n : Bool) (x : TForm) : xnd n x = ((xnd n x).1, x.2.1, x.2.2.1, x.2.2.2.1, ()) := rfl
theorem p_spush_node (f : List TForm) (k : Int) (x : TForm) (n : Bool) (hx : smF x) (hi : idx f k = some x) (h2 : x.1 ≠ 2) (h1 : x.1 ≠ 1) (hk : 0 ≤ k) (hk' : k ≤ 1000) (L L' : List TForm) (hL : L.length ≤ 1000) (hL' : L'.length ≤ 1000) (h : c_spec_l14Push M f (k - 1) n = some ((L, ()), ()))
    (h' : (opn (xnd n x).1 = 2 ∧ ∃ (j : Int) (L2 : List TForm), c_spec_l14First M f k = some ((j, ()), ()) ∧ c_spec_l14Push M f j n = some ((L2, ()), ()) ∧ L' = L2 ++ L) ∨ (opn (xnd n x).1 ≠ 2 ∧ L' = L)) :
    c_spec_l14Push M f k n = some ((L' ++ [xnd n x], ()), ()) := by
  apply e_spec_l14Push
  have e2 : (x.1 == 2) = false := by simpa using h2
  have e1 : (x.1 == 1) = false := by simpa using h1
  simp only [q_spec_l14Push, hi, Option.bind_some, form_eta, p_ownNode x hx, e1, e2, Bool.false_eq_true, ↓reduceIte]
  have go : ∀ (y : TForm), y = xnd n x → (((c_spec_l14Push M f (IntKind.i64.wrap (k - (1 : Int))) n).bind fun r5 => ((((c_spec_l14Arity M y.1).bind fun r7 => (if (r7.1.1 == (2 : Int)) = true then ((c_spec_l14First M f k).bind fun r8 => ((c_spec_l14Push M f r8.1.1 n).bind fun r9 => (if (List.length r9.1.1 + List.length r5.1.1) * 64 ≤ 140737488355328 then (some (.inl ((y.1, y.2.1, y.2.2.1, y.2.2.2.1, ()), (r9.1.1 ++ r5.1.1), ()))) else none))) else (some (.inl ((y.1, y.2.1, y.2.2.1, y.2.2.2.1, ()), r5.1.1, ()))))) : Option (((Int × Int × (List Int) × (List Int) × Unit) × (List (Int × Int × (List Int) × (List Int) × Unit)) × Unit) ⊕ ((List (Int × Int × (List Int) × (List Int) × Unit)) × Unit) × (Unit))).bind (Sum.elim (fun q6 => (if (List.length q6.2.1 + List.length ([(q6.1.1, q6.1.2.1, q6.1.2.2.1, q6.1.2.2.2.1, ())] : List (Int × Int × (List Int) × (List Int) × Unit))) * 64 ≤ 140737488355328 then (some (((q6.2.1 ++ ([(q6.1.1, q6.1.2.1, q6.1.2.2.1, q6.1.2.2.2.1, ())] : List (Int × Int × (List Int) × (List Int) × Unit))), ()), ())) else none)) (fun r => some r)))) : Option ((List TForm × Unit) × Unit)) = some ((L' ++ [xnd n x], ()), ()) := by
    intro y hy
    subst hy
    rw [w64 (by omega) (by omega), h]
    simp only [Option.bind_some, p_l14Arity, form_eta]
    rcases h' with ⟨ho, j, L2, f1, f2, rfl⟩ | ⟨ho, rfl⟩
    · rw [if_pos (by simpa using ho), f1]
      simp only [Option.bind_some, f2]
      rw [List.length_append] at hL'
      rw [if_pos (by omega)]
      simp only [Option.bind_some, Sum.elim_inl]
      rw [if_pos (by simp; omega)]
    · rw [if_neg (by simpa using ho)]
      simp only [Option.bind_some, Sum.elim_inl]
      rw [if_pos (by simp; omega)]
  cases n with
  | false =>
    simp only [Bool.false_eq_true, ↓reduceIte, Option.bind_some, Sum.elim_inl]
    exact go x rfl
  | true =>
    simp only [↓reduceIte]
    by_cases h3 : x.1 = 3
    · rw [if_pos (by simpa using h3)]
      simp only [Option.bind_some, Sum.elim_inl]
      exact go (4, x.2) (by simp [xnd, xop, h3])
    · rw [if_neg (by simpa using h3)]
      by_cases h4 : x.1 = 4
      · rw [if_pos (by simpa using h4)]
        simp only [Option.bind_some, Sum.elim_inl]
        exact go (3, x.2) (by simp [xnd, xop, h4])
      · rw [if_neg (by simpa using h4)]
        by_cases h5 : x.1 = 5
        · rw [if_pos (by simpa using h5)]
          simp only [Option.bind_some, Sum.elim_inl]
          exact go (6, x.2) (by simp [xnd, xop, h5])
        · rw [if_neg (by simpa using h5)]
          simp only [Option.bind_some, Sum.elim_inl]
          exact go (5, x.2) (by simp [xnd, xop, h3, h4, h5])

/-- Negations stand behind equations alone. -/
def psh : Int → List TForm → Prop
  | _, [] => True
  | p, x :: r => (x.1 = 2 → p = 1) ∧ psh x.1 r
def lop : Int → List TForm → Int
  | p, [] => p
  | _, x :: r => lop x.1 r
theorem psh_app : ∀ (L K : List TForm) (p : Int), psh p L → psh (lop p L) K → psh p (L ++ K)
  | [], _, _, _, h => h
  | x :: r, K, _, h, k => ⟨h.1, psh_app r K x.1 h.2 k⟩
theorem psh_any {L : List TForm} (q : Int) (h : psh 0 L) : psh q L := by
  cases L with
  | nil => trivial
  | cons x r => exact ⟨fun h2 => absurd (h.1 h2) (by decide), h.2⟩
theorem xnd_ne2 {x : TForm} (n : Bool) (h : x.1 ≠ 2) : (xnd n x).1 ≠ 2 := by
  unfold xnd xop
  cases n <;> simp only [Bool.false_eq_true, if_false, if_true]
  · exact h
  · split <;> (try split) <;> (try split) <;> omega
/-- A tree in which negation stands before equations alone. -/
def puT : Tree → Bool → Tree
  | .nil, _ => .nil
  | .mk op v l r [], n => if n = true then mkT (2, 0, [], [], ()) [.mk op v l r []] else .mk op v l r []
  | .mk op v l r [t], n => if op = 2 then puT t (!n) else .mk (if n = true then xop op else op) v l r [puT t n]
  | .mk op v l r (t :: u :: _), n => .mk (if n = true then xop op else op) v l r [puT t n, puT u n]
theorem opn_xnd {x : TForm} (n : Bool) (h : x.1 = 3 ∨ x.1 = 4 ∨ x.1 = 5 ∨ x.1 = 6) : opn (xnd n x).1 = opn x.1 := by
  rcases h with h | h | h | h <;> cases n <;> simp [xnd, xop, h, opn]
theorem p_pushX {a : List Int} {h : List TForm} {t : Tree} (hf : FT a h t) : ∀ n : Bool, ∃ (L : List TForm) (u : Tree), LT L u ∧ L.length ≤ 2 * h.length ∧ (∀ x ∈ L, smF x ∧ x.2.2.1.length ≤ 40 ∧ x.2.2.2.1.length ≤ 40) ∧ c_impl_tree_push M t n = some ((u, ()), ()) ∧
    (∀ pre post : List TForm, pre.length + h.length ≤ 100 → c_spec_l14Push M (pre ++ (h ++ post)) ((pre.length : Int) + h.length - 1) n = some ((L, ()), ())) ∧ u = puT t n ∧ psh 0 L ∧ FP L u := by
  induction hf with
  | @leaf x h h0 =>
    intro n
    obtain ⟨ho, _⟩ := leaf_op h h0
    have hx := ndOK_smF h
    have hx' := ndOK_sm h
    have hsp : ∀ pre post : List TForm, pre.length ≤ 100 → c_spec_l14Push M (pre ++ x :: post) (pre.length : Int) n = some ((if n = true then [x, (2, 0, [], [], ())] else [x], ()), ()) := by
      intro pre post hp
      apply e_spec_l14Push
      simp only [q_spec_l14Push, idx_mid, Option.bind_some, form_eta, p_ownNode x hx, ho, Int.reduceBEq, Bool.false_eq_true, ↓reduceIte]
      cases n <;> simp [← ho]
    cases n with
    | true =>
      refine ⟨[x, (2, 0, [], [], ())], mkT (2, 0, [], [], ()) [mkT x []], .un (x := (2, 0, [], [], ())) (.leaf (x := x)), by simp, ?_, ?_, ?_, rfl, by simp [psh, ho], .un (x := (2, 0, [], [], ())) (by show opn 2 = 1; decide) (.leaf h0)⟩
      · intro y hy
        simp only [List.mem_cons, List.not_mem_nil, or_false] at hy
        rcases hy with rfl | rfl
        · exact ⟨hx, hx'⟩
        · simp [smF]
      · apply e_impl_tree_push
        simp only [q_impl_tree_push, treeK, ho, Int.reduceBEq, Bool.false_eq_true, ↓reduceIte]
      · intro pre post hp
        simp only [List.length_cons, List.length_nil] at hp
        have := hsp pre post (by omega)
        simp only [if_pos] at this
        simpa using this
    | false =>
      refine ⟨[x], mkT x [], .leaf, by simp, ?_, ?_, ?_, rfl, by simp [psh, ho], .leaf h0⟩
      · intro y hy
        simp only [List.mem_cons, List.not_mem_nil, or_false] at hy
        subst hy
        exact ⟨hx, hx'⟩
      · apply e_impl_tree_push
        simp only [q_impl_tree_push, treeK, ho, Int.reduceBEq, Bool.false_eq_true, ↓reduceIte]
      · intro pre post hp
        simp only [List.length_cons, List.length_nil] at hp
        have := hsp pre post (by omega)
        simp only [Bool.false_eq_true, if_false] at this
        simpa using this
  | @un x g t h h1 hg ih =>
    intro n
    have hx := ndOK_smF h
    have hx' := ndOK_sm h
    obtain ⟨h256, _⟩ := un_op h h1
    by_cases h2 : x.1 = 2
    · obtain ⟨L, u, l1, l2, l3, l4, l5, l6, l7, l8⟩ := ih (!n)
      refine ⟨L, u, l1, by simp; omega, l3, ?_, fun pre post hp => ?_, by rw [l6]; simp [puT, h2], l7, l8⟩
      · apply e_impl_tree_push
        simp only [q_impl_tree_push, treeK, h2, Int.reduceBEq, ↓reduceIte]
        rw [show idx [t] (0 : Int) = some t from rfl]
        simp only [Option.bind_some, l4]
      · simp only [List.length_append, List.length_cons, List.length_nil] at hp ⊢
        apply e_spec_l14Push
        rw [show (pre.length : Int) + ((g.length + (0 + 1) : Nat) : Int) - 1 = ((pre ++ g).length : Int) by simp; omega, show pre ++ (g ++ [x] ++ post) = (pre ++ g) ++ x :: post by simp]
        simp only [q_spec_l14Push, idx_mid, Option.bind_some, form_eta, p_ownNode x hx, h2, Int.reduceBEq, ↓reduceIte]
        rw [w64 (by simp; omega) (by simp; omega)]
        have := l5 pre (x :: post) (by omega)
        rw [show ((pre ++ g).length : Int) - 1 = (pre.length : Int) + g.length - 1 by simp, List.append_assoc, this]
        rfl
    · obtain ⟨L, u, l1, l2, l3, l4, l5, l6, l7, l8⟩ := ih n
      have hn1 : x.1 ≠ 1 := by omega
      refine ⟨L ++ [xnd n x], mkT (xnd n x) [u], .un l1, by simp; omega, ?_, ?_, fun pre post hp => ?_, by rw [l6]; simp [puT, h2, xnd], psh_app _ _ _ l7 ⟨fun hh => absurd hh (xnd_ne2 n h2), trivial⟩, .un (by rw [opn_xnd n (by omega)]; exact h1) l8⟩
      · intro y hy
        rw [List.mem_append] at hy
        rcases hy with hy | hy
        · exact l3 y hy
        · simp at hy; subst hy; exact ⟨hx, hx'⟩
      · refine p_push_node x [t] [u] n h2 hn1 ?_
        exact p_push_step n _ [t] u 0 (by simp) (by simp) (by simp) l4 (p_push_end n _ [t])
      · simp only [List.length_append, List.length_cons, List.length_nil] at hp ⊢
        rw [show (pre.length : Int) + ((g.length + (0 + 1) : Nat) : Int) - 1 = ((pre ++ g).length : Int) by simp; omega, show pre ++ (g ++ [x] ++ post) = (pre ++ g) ++ x :: post by simp]
        have := l5 pre (x :: post) (by omega)
        refine p_spush_node _ _ x n hx (idx_mid _ _ _) h2 hn1 (by omega) (by simp; omega) L L (by omega) (by omega) ?_ (.inr ⟨?_, rfl⟩)
        · rw [show ((pre ++ g).length : Int) - 1 = (pre.length : Int) + g.length - 1 by simp, List.append_assoc, this]
        · have : x.1 = 5 ∨ x.1 = 6 := by omega
          rcases this with h5 | h5 <;> cases n <;> simp [xnd, xop, h5, opn]
  | @bin x g k t u h h2 hg hk ih1 ih2 =>
    intro n
    have hx := ndOK_smF h
    have hx' := ndOK_sm h
    have h34 := bin_op h h2
    obtain ⟨L1, u1, a1, a2, a3, a4, a5, a6, a7, a8⟩ := ih1 n
    obtain ⟨L2, u2, b1, b2, b3, b4, b5, b6, b7, b8⟩ := ih2 n
    refine ⟨L1 ++ L2 ++ [xnd n x], mkT (xnd n x) [u1, u2], .bin a1 b1, by simp; omega, ?_, ?_, fun pre post hp => ?_, by rw [a6, b6]; simp [puT, xnd], psh_app _ _ _ (psh_app _ _ _ a7 (psh_any _ b7)) ⟨fun hh => absurd hh (xnd_ne2 n (by omega)), trivial⟩, .bin (by rw [opn_xnd n (by omega)]; exact h2) a8 b8⟩
    · intro y hy
      rw [List.mem_append, List.mem_append] at hy
      rcases hy with (hy | hy) | hy
      · exact a3 y hy
      · exact b3 y hy
      · simp at hy; subst hy; exact ⟨hx, hx'⟩
    · refine p_push_node x [t, u] [u1, u2] n (by omega) (by omega) ?_
      refine p_push_step n _ [t, u] u1 0 (by simp) (by simp) (by simp) a4 ?_
      exact p_push_step n _ [t, u] u2 1 (by simp) (by simp) (by simp) b4 (p_push_end n _ [t, u])
    · simp only [List.length_append, List.length_cons, List.length_nil] at hp ⊢
      rw [show (pre.length : Int) + ((g.length + k.length + (0 + 1) : Nat) : Int) - 1 = (((pre ++ g) ++ k).length : Int) by simp; omega, show pre ++ (g ++ k ++ [x] ++ post) = ((pre ++ g) ++ k) ++ x :: post by simp]
      have e1 := a5 pre (k ++ x :: post) (by omega)
      have e2 := b5 (pre ++ g) (x :: post) (by simp; omega)
      have e3 := p_l14First hk (pre ++ g) (x :: post) (by simp; omega)
      refine p_spush_node _ _ x n hx (idx_mid _ _ _) (by omega) (by omega) (by omega) (by simp; omega) L2 (L1 ++ L2) (by omega) (by simp; omega) ?_ (.inl ⟨?_, ((pre ++ g).length : Int) - 1, L1, ?_, ?_, rfl⟩)
      · rw [show (((pre ++ g) ++ k).length : Int) - 1 = ((pre ++ g).length : Int) + k.length - 1 by simp; omega, List.append_assoc (pre ++ g) k, e2]
      · rcases h34 with h5 | h5 <;> cases n <;> simp [xnd, xop, h5, opn]
      · rw [show (((pre ++ g) ++ k).length : Int) = ((pre ++ g).length : Int) + k.length by simp; omega, List.append_assoc (pre ++ g) k, e3]
      · rw [show ((pre ++ g).length : Int) - 1 = (pre.length : Int) + g.length - 1 by simp, List.append_assoc (pre ++ g) k, List.append_assoc pre g, e1]
theorem p_push {a : List Int} {h : List TForm} {t : Tree} (hf : FT a h t) : ∀ n : Bool, ∃ (L : List TForm) (u : Tree), LT L u ∧ L.length ≤ 2 * h.length ∧ (∀ x ∈ L, smF x ∧ x.2.2.1.length ≤ 40 ∧ x.2.2.2.1.length ≤ 40) ∧ c_impl_tree_push M t n = some ((u, ()), ()) ∧
    ∀ pre post : List TForm, pre.length + h.length ≤ 100 → c_spec_l14Push M (pre ++ (h ++ post)) ((pre.length : Int) + h.length - 1) n = some ((L, ()), ()) := by
  intro n
  obtain ⟨L, u, a1, a2, a3, a4, a5, _⟩ := p_pushX hf n
  exact ⟨L, u, a1, a2, a3, a4, a5⟩
end Go.Proofs.YtcjaikkdpclaaaaPu.Ev

/- Plain laws: the program tells that a pushed formula is pushed. No condition. -/
namespace Go.Proofs.YtcjaikkdpclaaaaPu.Ev
open Go
set_option autoImplicit false
set_option linter.unusedVariables false
set_option linter.unusedSimpArgs false

theorem p_isPushedT_loop (f : List TForm) (hl : f.length ≤ 1000) : ∀ k i : Nat, i + k = f.length → psh (if h : 0 < i ∧ i - 1 < f.length then (f[i - 1]'h.2).1 else 0) (f.drop i) → l_impl_isPushed_26 M f f f.length i = some (.inl ()) := by
  intro k
  induction k with
  | zero =>
    intro i hi _
    obtain rfl : i = f.length := by omega
    exact el_impl_isPushed_26 _ _ _ _ (by simp [ql_impl_isPushed_26])
  | succ k ih =>
    intro i hi hp
    have h1 : i < f.length := by omega
    rw [List.drop_eq_getElem_cons h1] at hp
    obtain ⟨p1, p2⟩ := hp
    have ihr := ih (i + 1) (by omega) (by
      rw [dif_pos ⟨by omega, by omega⟩]
      simpa using p2)
    apply el_impl_isPushed_26
    simp only [ql_impl_isPushed_26]
    rw [if_pos (by simpa using h1), idx_lt h1]
    simp only [Option.bind_some]
    by_cases h2 : f[i].1 = 2
    · have h3 := p1 h2
      by_cases h0 : 0 < i ∧ i - 1 < f.length
      · rw [dif_pos h0] at h3
        rw [if_pos (by simpa using h2), w64 (by omega) (by omega), show (i : Int) - 1 = ((i - 1 : Nat) : Int) by omega, idx_lt h0.2]
        simp only [Option.bind_some]
        rw [if_neg (by simp [h3]), inc_nat (by omega)]
        exact ihr
      · rw [dif_neg h0] at h3
        exact absurd h3 (by decide)
    · rw [if_neg (by simpa using h2), inc_nat (by omega)]
      exact ihr
theorem p_isPushedT (f : List TForm) (hl : f.length ≤ 1000) (h : psh 0 f) : c_impl_isPushed M f = some ((true, ()), ()) := by
  have := p_isPushedT_loop f hl f.length 0 (by omega) (by simpa using h)
  rw [show ((0 : Nat) : Int) = 0 from rfl] at this
  apply e_impl_isPushed
  simp only [q_impl_isPushed, this, Option.bind_some, Sum.elim_inl]
theorem fOK_gT {a : List Int} {L : List TForm} (h : fOK a L = true) : ∃ T, gT a [] L = some [T] := by
  simp only [fOK, Bool.and_eq_true, decide_eq_true_eq] at h
  have e := gT_gF a L []
  rw [show ([] : List Tree).length = 0 from rfl, h.2] at e
  cases hg : gT a [] L with
  | none => rw [hg] at e; cases e
  | some st =>
    rw [hg] at e
    match st, e with
    | [T], _ => exact ⟨T, rfl⟩
    | [], e => simp at e
    | _ :: _ :: _, e => simp at e
/-- What the program answers for pushing, with what holds of it. -/
theorem p_PushT (s : TSign) (hs : s.1.length ≤ 1048576) (f : List TForm) (n : Bool) (hb : (gS s.1 && fOK s.1 f) = true) {t : Tree} (hf : FT s.1 f t) (ht : c_impl_formula M s f = some ((t, true, ()), ())) :
    ∃ L : List TForm, c_impl_PushNot M s f n = some (if fOK s.1 L = true then ((L, true, ()), ()) else (([], false, ()), ())) ∧ psh 0 L ∧ L.length ≤ 1000 ∧ (∀ x ∈ L, smF x) ∧ (fOK s.1 L = true → FT s.1 L (puT t n)) := by
  have hb' := hb
  simp only [Bool.and_eq_true, fOK, decide_eq_true_eq] at hb'
  obtain ⟨hg, h15, _⟩ := hb'
  obtain ⟨L, u, a1, a2, a3, a4, a5, a6, a7, a8⟩ := p_pushX hf n
  subst a6
  have hL : ∀ x ∈ L, smF x := fun x hx => (a3 x hx).1
  refine ⟨L, e_impl_PushNot _ _ _ ?_, a7, by omega, hL, fun h => ?_⟩
  · simp only [q_impl_PushNot, sign_eta', ht, Option.bind_some]
    rw [if_neg (by simp), a4]
    simp only [Option.bind_some]
    rw [p_listed s hg a1 hL (by omega)]
    split <;> rfl
  · obtain ⟨T, hT⟩ := fOK_gT h
    obtain rfl := a8.uniq hT
    exact gT_FT hT
end Go.Proofs.YtcjaikkdpclaaaaPu.Ev

/- Plain laws: assignments, and the values of terms in a world: both programs tell the same. No condition but sizes. -/
namespace Go.Proofs.YtcjaikkdpclaaaaPu.Ev
open Go
set_option autoImplicit false
set_option linter.unusedVariables false
set_option linter.unusedSimpArgs false

/-- An assignment. -/
def envOK (s : Int) (e : List Int) : Bool := decide (e.length = 12) && elOK s e
theorem envOK_get {s : Int} {e : List Int} (h : envOK s e = true) (i : Nat) (hi : i < 12) : ∃ v, e[i]? = some v ∧ 0 ≤ v ∧ v < s := by
  simp only [envOK, elOK, Bool.and_eq_true, decide_eq_true_eq, List.all_eq_true] at h
  have h1 : i < e.length := by omega
  exact ⟨e[i], List.getElem?_eq_getElem h1, h.2 _ (List.getElem_mem h1)⟩
theorem envOK_set {s : Int} {e : List Int} (h : envOK s e = true) (i : Nat) (v : Int) (h0 : 0 ≤ v) (h1 : v < s) : envOK s (e.set i v) = true := by
  simp only [envOK, elOK, Bool.and_eq_true, decide_eq_true_eq, List.all_eq_true, List.length_set] at h ⊢
  refine ⟨h.1, fun x hx => ?_⟩
  rcases List.mem_or_eq_of_mem_set hx with h2 | h2
  · exact h.2 x h2
  · subst h2; exact ⟨h0, h1⟩

/-- The value of a term: the same from both programs, wherever it stands. -/
def EV (a : List Int) (w : TWorld) (env u : List Int) (v : Int) : Prop := 0 ≤ v ∧ v < w.1 ∧
  (∀ (T x : List Int) (i : Nat), T.length ≤ 1000 → T.drop i = u ++ x → c_impl_Sign_eval M (a, ()) w T i env = some ((v, ((i + u.length : Nat) : Int), ()), ())) ∧
  (∀ (T x : List Int) (i : Nat), T.length ≤ 1000 → T.drop i = u ++ x → c_spec_l5Eval M (a, ()) w T i env = some ((v, ()), ()))
open Classical in
noncomputable def vb (a : List Int) (w : TWorld) (env u : List Int) : Int := if h : ∃ b, EV a w env u b then h.choose else 0
theorem vb_ok {a : List Int} {w : TWorld} {env u : List Int} (h : ∃ b, EV a w env u b) : EV a w env u (vb a w env u) := by
  unfold vb; rw [dif_pos h]; exact h.choose_spec

theorem acc_step {s acc v P : Int} (h1 : 1 ≤ s) (h3 : s ≤ 3) (h0 : 0 ≤ acc) (hP : acc < P) (hP' : P ≤ 1000) (v0 : 0 ≤ v) (v1 : v < s) : 0 ≤ acc * s + v ∧ acc * s + v < s * P ∧ 0 ≤ acc * s ∧ acc * s ≤ 3000 := by
  have a1 : 0 ≤ acc * s := Int.mul_nonneg h0 (by omega)
  have a2 : acc * s ≤ (P - 1) * s := Int.mul_le_mul_of_nonneg_right (by omega) (by omega)
  have a3 : (P - 1) * s = s * P - s := by rw [Int.sub_mul, Int.one_mul, Int.mul_comm]
  have a4 : acc * s ≤ acc * 3 := Int.mul_le_mul_of_nonneg_left h3 h0
  exact ⟨by omega, by omega, a1, by omega⟩

/-- The row's place in a table. -/
noncomputable def fa (a : List Int) (w : TWorld) (env : List Int) : Int → List (List Int) → Int
  | acc, [] => acc
  | acc, u :: us => fa a w env (acc * w.1 + vb a w env u) us
theorem fa_bd {a : List Int} {w : TWorld} {env : List Int} (h1 : 1 ≤ w.1) (h3 : w.1 ≤ 3) : ∀ (us : List (List Int)) (acc : Int) (j : Nat), (∀ u ∈ us, EV a w env u (vb a w env u)) → j + us.length ≤ 3 → 0 ≤ acc → acc < pw w.1 j → 0 ≤ fa a w env acc us ∧ fa a w env acc us < pw w.1 (j + us.length)
  | [], acc, j, _, _, h0, hp => ⟨h0, hp⟩
  | u :: us, acc, j, hu, hj, h0, hp => by
    simp only [List.length_cons] at hj
    have hv := hu u (by simp)
    have hs := acc_step h1 h3 h0 hp (by have := pw_le h1 h3 (k := j) (by omega); omega) hv.1 hv.2.1
    have := fa_bd h1 h3 us (acc * w.1 + vb a w env u) (j + 1) (fun v hv => hu v (by simp [hv])) (by omega) hs.1 hs.2.1
    simp only [fa, List.length_cons]
    rw [show j + (us.length + 1) = j + 1 + us.length by omega]
    exact this

theorem p_eval_loop {a : List Int} {w : TWorld} (h1 : 1 ≤ w.1) (h3 : w.1 ≤ 3) (env T : List Int) (hT : T.length ≤ 1000) (n : Int) (cnt : Nat) (hc : cnt ≤ 3) : ∀ (us : List (List Int)) (i p : Nat) (x : List Int) (acc : Int), (∀ u ∈ us, EV a w env u (vb a w env u)) → i + us.length = cnt → T.drop p = us.flatten ++ x → 0 ≤ acc → acc < pw w.1 i →
    l_impl_Sign_eval_250 M T env (a, ()) w n acc p cnt i = some (.inl (w, n, fa a w env acc us, ((p + us.flatten.length : Nat) : Int), ())) := by
  intro us
  induction us with
  | nil =>
    intro i p x acc _ hi _ _ _
    apply el_impl_Sign_eval_250
    simp at hi
    subst hi
    simp [ql_impl_Sign_eval_250, fa]
  | cons u us ih =>
    intro i p x acc hu hi hd h0 hp
    simp only [List.length_cons] at hi
    simp only [List.flatten_cons, List.append_assoc, List.length_append] at hd ⊢
    have hv := hu u (by simp)
    have hs := acc_step h1 h3 h0 hp (by have := pw_le h1 h3 (k := i) (by omega); omega) hv.1 hv.2.1
    have hl := drop_len hd
    apply el_impl_Sign_eval_250
    simp only [ql_impl_Sign_eval_250]
    rw [if_pos (by simp <;> omega), world_eta, hv.2.2.1 T (us.flatten ++ x) p hT hd]
    simp only [Option.bind_some]
    rw [w64 (x := acc * w.1) (by omega) (by omega), w64 (by have := hv.1; omega) (by have := hv.2.1; omega), inc_nat (by omega), ih (i + 1) (p + u.length) x _ (fun v hv => hu v (by simp [hv])) (by omega) (drop_split hd) hs.1 hs.2.1]
    simp [fa, Nat.add_assoc]

theorem p_l5Eval_loop {a : List Int} {w : TWorld} (h1 : 1 ≤ w.1) (h3 : w.1 ≤ 3) (env T : List Int) (hT : T.length ≤ 1000) (at0 : Int) (P : List Int) (hP : P.length ≤ 3) : ∀ (us : List (List Int)) (i p : Nat) (x : List Int) (acc : Int), (∀ u ∈ us, EV a w env u (vb a w env u)) → i + us.length = P.length → P.drop i = posOf p us → T.drop p = us.flatten ++ x → 0 ≤ acc → acc < pw w.1 i →
    l_spec_l5Eval_122 M T at0 env (a, ()) w acc P P.length i = some (.inl (T, at0, w, fa a w env acc us, ())) := by
  intro us
  induction us with
  | nil =>
    intro i p x acc _ hi _ _ _ _
    apply el_spec_l5Eval_122
    simp at hi
    subst hi
    simp [ql_spec_l5Eval_122, fa]
  | cons u us ih =>
    intro i p x acc hu hi hd hd2 h0 hp
    simp only [List.length_cons] at hi
    simp only [List.flatten_cons, List.append_assoc, List.length_append] at hd2
    have hv := hu u (by simp)
    have hs := acc_step h1 h3 h0 hp (by have := pw_le h1 h3 (k := i) (by omega); omega) hv.1 hv.2.1
    have hi' : i < P.length := by omega
    have hdc := List.drop_eq_getElem_cons hi'
    rw [hd, posOf] at hdc
    obtain ⟨hpp, hdc⟩ := List.cons.inj hdc
    apply el_spec_l5Eval_122
    simp only [ql_spec_l5Eval_122]
    rw [if_pos (by simpa using hi'), if_pos (by omega), Int.toNat_natCast, List.getElem?_eq_getElem hi', ← hpp]
    simp only [Option.bind_some]
    rw [world_eta, hv.2.2.2 T (us.flatten ++ x) p hT hd2]
    simp only [Option.bind_some]
    rw [w64 (x := acc * w.1) (by omega) (by omega), w64 (by have := hv.1; omega) (by have := hv.2.1; omega), inc_nat (by omega), ih (i + 1) (p + u.length) x _ (fun v hv => hu v (by simp [hv])) (by omega) hdc.symm (drop_split hd2) hs.1 hs.2.1]
    simp [fa]

theorem wOK_parts {a : List Int} {w : TWorld} (h : wOK a w = true) : 1 ≤ w.1 ∧ w.1 ≤ 3 ∧ w.2.1.length = a.length ∧ tabOK w.1 a w.2.1 = true := by
  simpa only [wOK, Bool.and_eq_true, decide_eq_true_eq] using h

theorem EV_var {a : List Int} {w : TWorld} {env : List Int} {n : Int} (h0 : n < 0) (hb : ¬ badN a n) {v : Int} (v1 : env[(-1 - n).toNat]? = some v) (v2 : 0 ≤ v) (v3 : v < w.1) : EV a w env [n] v := by
  have hb' := hb
  unfold badN at hb'
  have e1 : IntKind.i64.wrap (-1 - n) = -1 - n := w64 (by omega) (by omega)
  have e2 : idx env (-1 - n) = some v := by
    unfold idx; rw [if_pos (by omega), v1]
  refine ⟨v2, v3, ?_, ?_⟩
  · intro T x i hT hd
    have hi : i < T.length := by have := drop_len hd; simp at this; omega
    have hx : T[i] = n := by
      have := List.drop_eq_getElem_cons hi
      rw [hd] at this
      exact (List.cons.inj this).1.symm
    apply e_impl_Sign_eval
    simp only [q_impl_Sign_eval]
    rw [idx_lt hi, hx]
    simp only [Option.bind_some]
    rw [if_pos (by simpa using h0), e1, e2, inc_nat (by omega)]
    simp
  · intro T x i hT hd
    have hi : i < T.length := by have := drop_len hd; simp at this; omega
    have hx : T[i] = n := by
      have := List.drop_eq_getElem_cons hi
      rw [hd] at this
      exact (List.cons.inj this).1.symm
    apply e_spec_l5Eval
    simp only [q_spec_l5Eval]
    rw [idx_lt hi, hx]
    simp only [Option.bind_some]
    rw [if_pos (by simpa using h0), e1, e2]
    simp
theorem EV_fun {a : List Int} (hg : gS a = true) {w : TWorld} (hw : wOK a w = true) {env : List Int} {n : Int} {us : List (List Int)} (h0 : ¬ n < 0) (hb : ¬ badN a n) (hl : (us.length : Int) = ar a n) (hk : ∀ v ∈ us, Tm a v) (hu : us.flatten.length ≤ 1000) (kid : ∀ v ∈ us, EV a w env v (vb a w env v)) :
    ∃ b, ((w.2.1[n.toNat]?).bind fun t => t[(fa a w env 0 us).toNat]?) = some b ∧ EV a w env (n :: us.flatten) b := by
  obtain ⟨h1, h3, hwl, hwt⟩ := wOK_parts hw
  have hn := ar_ge hg n
  have hb' := hb
  unfold badN at hb'
  have hfa := fa_bd (a := a) (env := env) h1 h3 us 0 0 kid (by omega) (by omega) (by simp [pw])
  rw [Nat.zero_add] at hfa
  have hna : n.toNat < a.length := by omega
  have hnt : n.toNat < w.2.1.length := by omega
  have htab := tabOK_get n.toNat hna hnt hwt
  have har : ar a n = a[n.toNat] := by unfold ar; rw [if_neg h0, List.getElem?_eq_getElem hna]; rfl
  rw [← har, ← hl, Int.toNat_natCast] at htab
  have hin : (fa a w env 0 us).toNat < (w.2.1[n.toNat]).length := by omega
  have hel : 0 ≤ (w.2.1[n.toNat])[(fa a w env 0 us).toNat] ∧ (w.2.1[n.toNat])[(fa a w env 0 us).toNat] < w.1 := by
    have h5 := htab.2
    simp only [elOK, List.all_eq_true, Bool.and_eq_true, decide_eq_true_eq] at h5
    exact h5 _ (List.getElem_mem hin)
  have i1 : idx w.2.1 n = some w.2.1[n.toNat] := by unfold idx; rw [if_pos (by omega), List.getElem?_eq_getElem hnt]
  have i2 : idx w.2.1[n.toNat] (fa a w env 0 us) = some (w.2.1[n.toNat])[(fa a w env 0 us).toNat] := by unfold idx; rw [if_pos (by omega), List.getElem?_eq_getElem hin]
  refine ⟨(w.2.1[n.toNat])[(fa a w env 0 us).toNat], by rw [List.getElem?_eq_getElem hnt, Option.bind_some, List.getElem?_eq_getElem hin], hel.1, hel.2, ?_, ?_⟩
  · intro T x i hT hd
    have hi : i < T.length := by have := drop_len hd; simp at this; omega
    have hdc := List.drop_eq_getElem_cons hi
    rw [hd] at hdc
    obtain ⟨hx, hdc⟩ := List.cons.inj hdc
    apply e_impl_Sign_eval
    simp only [q_impl_Sign_eval]
    rw [idx_lt hi, ← hx]
    simp only [Option.bind_some]
    rw [if_neg (by simpa using h0), p_args (a, ()) n hb, inc_nat (by omega)]
    simp only [Option.bind_some]
    rw [← hl]
    have := p_eval_loop (a := a) h1 h3 env T hT n us.length (by omega) us 0 (i + 1) x 0 kid (by omega) hdc.symm (by omega) (by simp [pw])
    rw [show ((0 : Nat) : Int) = 0 from rfl] at this
    rw [world_eta, this]
    simp only [Option.bind_some, Sum.elim_inl]
    rw [i1]
    simp only [Option.bind_some]
    rw [i2]
    simp only [Option.bind_some, List.length_cons]
    congr 4
    omega
  · intro T x i hT hd
    have hi : i < T.length := by have := drop_len hd; simp at this; omega
    have hdc := List.drop_eq_getElem_cons hi
    rw [hd] at hdc
    obtain ⟨hx, hdc⟩ := List.cons.inj hdc
    apply e_spec_l5Eval
    simp only [q_spec_l5Eval]
    rw [idx_lt hi, ← hx]
    simp only [Option.bind_some]
    have hA : c_spec_l1Args M (a, ()) T (i : Int) = some ((posOf (i + 1) us, ()), ()) := by
      apply e_spec_l1Args
      simp only [q_spec_l1Args]
      rw [idx_lt hi, ← hx]
      simp only [Option.bind_some]
      rw [if_neg (by simpa using h0), idx_ar hb h0, inc_nat (by omega)]
      simp only [Option.bind_some]
      have := p_l1Args_loop hg T hT us (i + 1) x [] hk (by omega) hdc.symm (by simp; omega)
      rw [hl] at this
      rw [this]
      simp
    rw [if_neg (by simpa using h0), hA]
    simp only [Option.bind_some]
    have := p_l5Eval_loop (a := a) h1 h3 env T hT i (posOf (i + 1) us) (by rw [posOf_len]; omega) us 0 (i + 1) x 0 kid (by rw [posOf_len]; omega) rfl hdc.symm (by omega) (by simp [pw])
    rw [show ((0 : Nat) : Int) = 0 from rfl] at this
    rw [world_eta, this]
    simp only [Option.bind_some, Sum.elim_inl]
    rw [idx_lt hi, ← hx]
    simp only [Option.bind_some]
    rw [i1]
    simp only [Option.bind_some]
    rw [i2]
    rfl
theorem EV_all {a : List Int} (hg : gS a = true) {w : TWorld} (hw : wOK a w = true) {env : List Int} (he : envOK w.1 env = true) : ∀ (N : Nat) (u : List Int), u.length ≤ N → N ≤ 1000 → Tm a u → ∃ b, EV a w env u b := by
  obtain ⟨h1, h3, hwl, hwt⟩ := wOK_parts hw
  intro N
  induction N with
  | zero => intro u hu _ h; have := h.pos; omega
  | succ N ih =>
    intro u hu hN h
    obtain ⟨n, us, rfl, hb, hl, hk⟩ := h.parts hg
    have hn := ar_ge hg n
    have hb' := hb
    unfold badN at hb'
    simp only [List.length_cons] at hu
    have kid : ∀ v ∈ us, EV a w env v (vb a w env v) := fun v hv => vb_ok (ih v (by
      have : v.length ≤ us.flatten.length := (List.sublist_flatten_of_mem hv).length_le
      omega) (by omega) (hk v hv))
    by_cases h0 : n < 0
    · have h4 : ar a n = 0 := by simp [ar, h0]
      obtain rfl : us = [] := List.eq_nil_of_length_eq_zero (by omega)
      obtain ⟨v, v1, v2, v3⟩ := envOK_get he (-1 - n).toNat (by omega)
      exact ⟨v, EV_var h0 hb v1 v2 v3⟩
    · obtain ⟨b, _, k⟩ := EV_fun hg hw h0 hb hl hk (by omega) kid
      exact ⟨b, k⟩

theorem p_evals (s : TSign) (hg : gS s.1 = true) (w : TWorld) (hw : wOK s.1 w = true) (env : List Int) (he : envOK w.1 env = true) (u : List Int) (hu : isT s.1 u = true) : ∃ v, c_impl_Sign_value M s w u env = some ((v, ()), ()) ∧ c_spec_l5Eval M s w u 0 env = some ((v, ()), ()) := by
  simp only [isT, Bool.and_eq_true, decide_eq_true_eq] at hu
  obtain ⟨v, _, _, v3, v4⟩ := EV_all hg hw he 40 u hu.1 (by omega) hu.2
  have h3 := v3 u [] 0 (by omega) (by simp)
  have h4 := v4 u [] 0 (by omega) (by simp)
  rw [show ((0 : Nat) : Int) = 0 from rfl] at h3 h4
  refine ⟨v, e_impl_Sign_value _ _ _ _ ?_, h4⟩
  rw [sign_eta'] at h3
  simp only [q_impl_Sign_value, sign_eta', world_eta, h3, Option.bind_some]

theorem p_own (l : List Int) (hl : l.length ≤ 1000) : c_spec_l1Own M l = some ((l, ()), ()) := by
  apply e_spec_l1Own
  simp only [q_spec_l1Own, List.length_nil, List.nil_append]
  rw [if_pos (by omega)]

theorem p_isEnv (w : TWorld) (e : List Int) : c_impl_World_isEnv M w e = some ((envOK w.1 e, ()), ()) := by
  apply e_impl_World_isEnv
  simp only [q_impl_World_isEnv, envOK, beq_iff_eq]
  by_cases h : e.length = 12
  · rw [if_pos (by omega), p_areElements w.1 e (by omega), decide_eq_true h]; rfl
  · rw [if_neg (by omega), decide_eq_false h]; rfl

end Go.Proofs.YtcjaikkdpclaaaaPu.Ev

/- Plain laws: the value of a term as a function: both programs' value. No condition but sizes. -/
namespace Go.Proofs.YtcjaikkdpclaaaaPu.Ev
open Go
set_option autoImplicit false
set_option linter.unusedVariables false
set_option linter.unusedSimpArgs false

/-- The value of a term. -/
noncomputable def val (s : TSign) (w : TWorld) (env u : List Int) : Int := match c_impl_Sign_value M s w u env with
  | some r => r.1.1
  | none => 0
section
variable (s : TSign) (hg : gS s.1 = true) (w : TWorld) (hw : wOK s.1 w = true)
include hg hw
theorem p_val (env : List Int) (he : envOK w.1 env = true) (u : List Int) (hu : isT s.1 u = true) : c_impl_Sign_value M s w u env = some ((val s w env u, ()), ()) ∧ c_spec_l5Eval M s w u 0 env = some ((val s w env u, ()), ()) := by
  obtain ⟨v, h1, h2⟩ := p_evals s hg w hw env he u hu
  have : val s w env u = v := by unfold val; rw [h1]
  rw [this]; exact ⟨h1, h2⟩
end
end Go.Proofs.YtcjaikkdpclaaaaPu.Ev

/- Plain laws: the truth of a formula's tree in a world, as a function. No condition but sizes. -/
namespace Go.Proofs.YtcjaikkdpclaaaaPu.Ev
open Go
set_option autoImplicit false
set_option linter.unusedVariables false
set_option linter.unusedSimpArgs false

/-- For all of some numbers (al), or for one of them. -/
def qH (f : Int → Bool) (al : Bool) : Nat → Int → Bool
  | 0, _ => al
  | k + 1, i => if f i = al then qH f al k (i + 1) else !al
/-- Whether a tree holds. -/
noncomputable def hT (s : TSign) (w : TWorld) : Tree → List Int → Bool
  | .nil, _ => false
  | .mk _ _ l r [], env => val s w env l == val s w env r
  | .mk op v _ _ [t], env => if op = 2 then !hT s w t env else qH (fun i => hT s w t (env.set v.toNat i)) (op == 5) w.1.toNat 0
  | .mk op _ _ _ (t :: u :: _), env => if op = 3 then hT s w t env && hT s w u env else hT s w t env || hT s w u env
theorem p_quantT {a : List Int} {w : TWorld} (h3 : w.1 ≤ 3) (t : Tree) (x : TForm) (v0 : 0 ≤ x.2.1) (v5 : x.2.1 ≤ 5) (ho : x.1 = 5 ∨ x.1 = 6) (env : List Int) (he : envOK w.1 env = true)
    (ih : ∀ env, envOK w.1 env = true → c_impl_tree_holds M t (a, ()) w env = some ((hT (a, ()) w t env, ()), ())) :
    ∀ (k i : Nat) (e : List Int), (i : Int) + k = w.1 → e.length = 12 → (∀ v, e.set x.2.1.toNat v = env.set x.2.1.toNat v) →
      l_impl_tree_holds_250 M (mkT x [t]) e (a, ()) w x w.1 i = some (if qH (fun i => hT (a, ()) w t (env.set x.2.1.toNat i)) (x.1 == 5) k i = (x.1 == 5) then .inl (x, ()) else .inr (((x.1 == 6), ()), ())) := by
  have hel : env.length = 12 := by simp only [envOK, Bool.and_eq_true, decide_eq_true_eq] at he; exact he.1
  intro k
  induction k with
  | zero =>
    intro i e hi hl hs
    apply el_impl_tree_holds_250
    simp only [ql_impl_tree_holds_250]
    rw [if_neg (by simp <;> omega), form_eta, if_pos (show qH (fun i => hT (a, ()) w t (env.set x.2.1.toNat i)) (x.1 == 5) 0 (i : Int) = (x.1 == 5) from rfl)]
  | succ k ihk =>
    intro i e hi hl hs
    have b1 := ih (env.set x.2.1.toNat i) (envOK_set he _ _ (by omega) (by omega))
    have hx2 : x.2.1.toNat < e.length := by omega
    have hix : idx [t] 0 = some t := rfl
    have r2 := ihk (i + 1) (e.set x.2.1.toNat i) (by omega) (by simpa using hl) (fun v => by rw [List.set_set, hs])
    apply el_impl_tree_holds_250
    simp only [ql_impl_tree_holds_250]
    rw [if_pos (by simp <;> omega), if_pos (by omega), List.getElem?_eq_getElem hx2]
    simp only [Option.bind_some, treeK, hix]
    rw [world_eta, hs, b1, inc_nat (by omega), form_eta]
    simp only [Option.bind_some]
    rw [hs] at r2
    have hcast : ((i + 1 : Nat) : Int) = (i : Int) + 1 := by omega
    rw [hcast] at r2 ⊢
    rcases ho with ho | ho
    · have e5 : (x.1 == (5 : Int)) = true := by simp [ho]
      have e6 : (x.1 == (6 : Int)) = false := by simp [ho]
      rw [e5, e6] at r2 ⊢
      cases hb : hT (a, ()) w t (env.set x.2.1.toNat (i : Int)) with
      | true =>
        have hq : qH (fun i => hT (a, ()) w t (env.set x.2.1.toNat i)) true (k + 1) (i : Int) = qH (fun i => hT (a, ()) w t (env.set x.2.1.toNat i)) true k ((i : Int) + 1) := by
          show (if hT (a, ()) w t (env.set x.2.1.toNat (i : Int)) = true then _ else _) = _
          rw [if_pos hb]
        rw [if_neg (by simp), hq]
        exact r2
      | false =>
        have hq : qH (fun i => hT (a, ()) w t (env.set x.2.1.toNat i)) true (k + 1) (i : Int) = false := by
          show (if hT (a, ()) w t (env.set x.2.1.toNat (i : Int)) = true then _ else _) = _
          rw [if_neg (by rw [hb]; simp)]; rfl
        rw [if_pos (by simp), hq, if_neg (by simp)]
    · have e5 : (x.1 == (5 : Int)) = false := by simp [ho]
      have e6 : (x.1 == (6 : Int)) = true := by simp [ho]
      rw [e5, e6] at r2 ⊢
      cases hb : hT (a, ()) w t (env.set x.2.1.toNat (i : Int)) with
      | true =>
        have hq : qH (fun i => hT (a, ()) w t (env.set x.2.1.toNat i)) false (k + 1) (i : Int) = true := by
          show (if hT (a, ()) w t (env.set x.2.1.toNat (i : Int)) = false then _ else _) = _
          rw [if_neg (by rw [hb]; simp)]; rfl
        rw [if_pos (by simp), hq, if_neg (by simp)]
      | false =>
        have hq : qH (fun i => hT (a, ()) w t (env.set x.2.1.toNat i)) false (k + 1) (i : Int) = qH (fun i => hT (a, ()) w t (env.set x.2.1.toNat i)) false k ((i : Int) + 1) := by
          show (if hT (a, ()) w t (env.set x.2.1.toNat (i : Int)) = false then _ else _) = _
          rw [if_pos hb]
        rw [if_neg (by simp), hq]
        exact r2
theorem p_holdsT {a : List Int} (hg : gS a = true) {w : TWorld} (hw : wOK a w = true) {g : List TForm} {t : Tree} (hf : FT a g t) : ∀ env, envOK w.1 env = true → c_impl_tree_holds M t (a, ()) w env = some ((hT (a, ()) w t env, ()), ()) := by
  obtain ⟨h1, h3, hwl, hwt⟩ := wOK_parts hw
  induction hf with
  | @leaf x h h0 =>
    intro env he
    obtain ⟨ho, hL, hR⟩ := leaf_op h h0
    apply e_impl_tree_holds
    simp only [q_impl_tree_holds, treeK, ho, Int.reduceBEq, Bool.false_eq_true, ↓reduceIte, world_eta, (p_val (a, ()) hg w hw env he _ hL).1, (p_val (a, ()) hg w hw env he _ hR).1, Option.bind_some, hT]
  | @un x g t h h1' hgt ih =>
    intro env he
    obtain ⟨hop, hv0, hv5⟩ := un_op h h1'
    have hix : idx [t] 0 = some t := rfl
    have hel : env.length = 12 := by simp only [envOK, Bool.and_eq_true, decide_eq_true_eq] at he; exact he.1
    by_cases h2 : x.1 = 2
    · apply e_impl_tree_holds
      simp only [q_impl_tree_holds, treeK, h2, Int.reduceBEq, Bool.false_eq_true, ↓reduceIte, world_eta, hix, ih env he, Option.bind_some, hT]
    · have ho : x.1 = 5 ∨ x.1 = 6 := by omega
      have r2 := p_quantT (a := a) h3 t x hv0 hv5 ho env he ih w.1.toNat 0 env (by omega) hel (fun _ => rfl)
      rw [show ((0 : Nat) : Int) = 0 from rfl] at r2
      apply e_impl_tree_holds
      have e1 : (x.1 == (1 : Int)) = false := beq_false_of_ne (by omega)
      have e2 : (x.1 == (2 : Int)) = false := beq_false_of_ne (by omega)
      have e3 : (x.1 == (3 : Int)) = false := beq_false_of_ne (by omega)
      have e4 : (x.1 == (4 : Int)) = false := beq_false_of_ne (by omega)
      simp only [q_impl_tree_holds, treeK, e1, e2, e3, e4, Bool.false_eq_true, ↓reduceIte, world_eta, form_eta]
      rw [if_pos (by omega)]
      have r2' : l_impl_tree_holds_250 M (Tree.mk x.1 x.2.1 x.2.2.1 x.2.2.2.1 [t]) env (a, ()) w x w.1 0 = _ := r2
      rw [r2']
      simp only [hT]
      rw [if_neg h2]
      cases hq : qH (fun i => hT (a, ()) w t (env.set x.2.1.toNat i)) (x.1 == 5) w.1.toNat 0 <;> rcases ho with ho | ho <;> simp [ho]
  | @bin x g k t u h h2 hgt hkt ih1 ih2 =>
    intro env he
    have hop := bin_op h h2
    have hix : idx [t, u] 0 = some t := rfl
    have hix1 : idx [t, u] 1 = some u := rfl
    apply e_impl_tree_holds
    rcases hop with ho | ho
    · simp only [q_impl_tree_holds, treeK, ho, Int.reduceBEq, Bool.false_eq_true, ↓reduceIte, world_eta, hix, hix1, ih1 env he, ih2 env he, Option.bind_some, hT]
      cases hT (a, ()) w t env <;> rfl
    · simp only [q_impl_tree_holds, treeK, ho, Int.reduceBEq, Bool.false_eq_true, ↓reduceIte, world_eta, hix, hix1, ih1 env he, ih2 env he, Option.bind_some, hT]
      cases hT (a, ()) w t env <;> simp
end Go.Proofs.YtcjaikkdpclaaaaPu.Ev

/- Plain laws: rows that are searched; rows that rise; variables of terms in rising order. No condition but sizes. -/
namespace Go.Proofs.YtcjaikkdpclaaaaPu.Ev
open Go
set_option autoImplicit false
set_option linter.unusedVariables false
set_option linter.unusedSimpArgs false

theorem p_Index_loop (a : List Int) (x : Int) (ha : a.length ≤ 17592186044416) : ∀ k i : Nat, i + k = a.length → ∃ r, l_slices_Index_int_int_26 M a x a.length i = some r ∧ (match r with | .inl _ => x ∉ a.drop i | .inr r => 0 ≤ r.1.1 ∧ x ∈ a.drop i) := by
  intro k
  induction k with
  | zero =>
    intro i hi
    obtain rfl : i = a.length := by omega
    exact ⟨.inl (), el_slices_Index_int_int_26 _ _ _ _ (by simp [ql_slices_Index_int_int_26]), by simp⟩
  | succ k ih =>
    intro i hi
    have h1 : i < a.length := by omega
    obtain ⟨r, hr, hm⟩ := ih (i + 1) (by omega)
    rw [List.drop_eq_getElem_cons h1]
    by_cases hx : x = a[i]
    · refine ⟨.inr (((i : Int), ()), ()), el_slices_Index_int_int_26 _ _ _ _ ?_, Int.natCast_nonneg i, hx ▸ List.mem_cons_self⟩
      simp only [ql_slices_Index_int_int_26]
      rw [if_pos (by simpa using h1), idx_lt h1]
      simp only [Option.bind_some]
      rw [if_pos (by simpa using hx)]
    · refine ⟨r, el_slices_Index_int_int_26 _ _ _ _ ?_, ?_⟩
      · simp only [ql_slices_Index_int_int_26]
        rw [if_pos (by simpa using h1), idx_lt h1]
        simp only [Option.bind_some]
        rw [if_neg (by simpa using hx), inc_nat (by omega)]
        exact hr
      · cases r with
        | inl r => simp only [List.mem_cons, not_or]; exact ⟨hx, hm⟩
        | inr r => exact ⟨hm.1, List.mem_cons_of_mem _ hm.2⟩
theorem p_Contains (a : List Int) (x : Int) (ha : a.length ≤ 17592186044416) : c_slices_Contains_int_int M a x = some ((decide (x ∈ a), ()), ()) := by
  obtain ⟨r, hr, hm⟩ := p_Index_loop a x ha a.length 0 (by omega)
  rw [show ((0 : Nat) : Int) = 0 from rfl] at hr
  rw [List.drop_zero] at hm
  apply e_slices_Contains_int_int
  cases r with
  | inl r =>
    rw [q_slices_Contains_int_int, e_slices_Index_int_int a x (r := ((-1, ()), ())) (by simp only [q_slices_Index_int_int, hr, Option.bind_some, Sum.elim_inl])]
    have : decide (x ∈ a) = false := by simpa using hm
    rw [this]; rfl
  | inr r =>
    rw [q_slices_Contains_int_int, e_slices_Index_int_int a x (r := r) (by simp only [q_slices_Index_int_int, hr, Option.bind_some, Sum.elim_inr])]
    have : decide (x ∈ a) = true := by simpa using hm.2
    rw [this]
    simp [hm.1]

/-- A row that rises. -/
def Up (l : List Int) : Prop := l.Pairwise (· < ·)
theorem Up.ext {l k : List Int} (hl : Up l) (hk : Up k) (h : ∀ x, x ∈ l ↔ x ∈ k) : l = k := by
  induction l generalizing k with
  | nil =>
    cases k with
    | nil => rfl
    | cons y k => exact absurd ((h y).2 (by simp)) (by simp)
  | cons x l ih =>
    cases k with
    | nil => exact absurd ((h x).1 (by simp)) (by simp)
    | cons y k =>
      have hl' := List.pairwise_cons.1 hl
      have hk' := List.pairwise_cons.1 hk
      have hxy : x = y := by
        have a1 := (h x).1 (by simp)
        have a2 := (h y).2 (by simp)
        rcases List.mem_cons.1 a1 with a1 | a1
        · exact a1
        · rcases List.mem_cons.1 a2 with a2 | a2
          · exact a2.symm
          · have := hl'.1 _ a2; have := hk'.1 _ a1; omega
      subst hxy
      rw [ih hl'.2 hk'.2 fun z => ?_]
      constructor
      · intro hz
        rcases List.mem_cons.1 ((h z).1 (by simp [hz])) with e | e
        · have := hl'.1 _ hz; omega
        · exact e
      · intro hz
        rcases List.mem_cons.1 ((h z).2 (by simp [hz])) with e | e
        · have := hk'.1 _ hz; omega
        · exact e
/-- Some of the numbers from 0 to 11, rising. -/
def upTo (p : Int → Bool) : List Int := ((List.range 12).map Int.ofNat).filter p
theorem upTo_up (p : Int → Bool) : Up (upTo p) := by
  unfold Up upTo
  exact List.Pairwise.filter _ (by decide)
theorem mem_upTo {p : Int → Bool} {v : Int} : v ∈ upTo p ↔ 0 ≤ v ∧ v ≤ 11 ∧ p v = true := by
  simp only [upTo, List.mem_filter, List.mem_map, List.mem_range]
  constructor
  · rintro ⟨⟨n, h, rfl⟩, hp⟩
    exact ⟨Int.natCast_nonneg n, by simp only [Int.ofNat_eq_natCast]; omega, hp⟩
  · rintro ⟨h1, h2, hp⟩
    exact ⟨⟨v.toNat, by omega, by simp only [Int.ofNat_eq_natCast]; omega⟩, hp⟩
theorem upTo_len (p : Int → Bool) : (upTo p).length ≤ 12 := by
  unfold upTo
  exact Nat.le_trans (List.length_filter_le _ _) (by simp)
/-- The loop that gathers them. -/
theorem upTo_part (p : Int → Bool) (i : Nat) (hi : i ≤ 12) : ∀ o, o = (((List.range i).map Int.ofNat).filter p) → (i < 12 → ((((List.range (i + 1)).map Int.ofNat).filter p) = if p i = true then o ++ [(i : Int)] else o)) := by
  intro o ho _
  subst ho
  rw [List.range_succ, List.map_append, List.filter_append]
  simp only [List.map_cons, List.map_nil, Int.ofNat_eq_natCast]
  cases h : p i <;> simp [h]

/-- A number put into a rising row. -/
def putN : List Int → Int → List Int
  | [], n => [n]
  | x :: r, n => if x < n then x :: putN r n else if x = n then x :: r else n :: x :: r
theorem mem_putN {l : List Int} {n x : Int} : x ∈ putN l n ↔ x ∈ l ∨ x = n := by
  induction l with
  | nil => simp [putN]
  | cons y r ih =>
    simp only [putN]
    split
    · simp only [List.mem_cons, ih, or_assoc]
    · split
      · rename_i h; subst h
        simp only [List.mem_cons]
        constructor
        · intro h; exact .inl h
        · rintro (h | rfl)
          · exact h
          · exact .inl rfl
      · simp only [List.mem_cons]
        constructor
        · rintro (h | h)
          · exact .inr h
          · exact .inl h
        · rintro (h | h)
          · exact .inr h
          · exact .inl h
theorem up_putN {l : List Int} (h : Up l) (n : Int) : Up (putN l n) := by
  induction l with
  | nil => simp [putN, Up]
  | cons y r ih =>
    have h' := List.pairwise_cons.1 h
    simp only [putN]
    split
    · refine List.pairwise_cons.2 ⟨fun z hz => ?_, ih h'.2⟩
      rcases mem_putN.1 hz with hz | rfl
      · exact h'.1 _ hz
      · assumption
    · split
      · exact h
      · refine List.pairwise_cons.2 ⟨fun z hz => ?_, h⟩
        rcases List.mem_cons.1 hz with rfl | hz
        · omega
        · have := h'.1 _ hz; omega
theorem putN_len (l : List Int) (n : Int) : (putN l n).length ≤ l.length + 1 := by
  induction l with
  | nil => simp [putN]
  | cons y r ih =>
    simp only [putN]
    split
    · simp only [List.length_cons]; omega
    · split <;> simp
theorem putN_split (n : Int) : ∀ (P R : List Int), (∀ x ∈ P, x < n) → (∀ y, R.head? = some y → n ≤ y) → putN (P ++ R) n = if R.head? = some n then P ++ R else P ++ n :: R
  | [], [], _, _ => by simp [putN]
  | [], y :: R, _, h => by
    have := h y rfl
    simp only [List.nil_append, putN, List.head?_cons, Option.some.injEq]
    rw [if_neg (by omega)]
  | x :: P, R, h, h' => by
    have ih := putN_split n P R (fun y hy => h y (by simp [hy])) h'
    simp only [List.cons_append, putN]
    rw [if_pos (h x (by simp)), ih]
    split <;> rfl

theorem p_l1Put_at (l : List Int) (hl : l.length ≤ 1000) (n : Int) : ∀ k i : Nat, i + k = l.length → (∀ x ∈ l.take i, x < n) → ∃ j : Nat, j ≤ l.length ∧ l_spec_l1Put_28 M l n i = some (.inl (l, n, j, ())) ∧ (∀ x ∈ l.take j, x < n) ∧ (∀ y, (l.drop j).head? = some y → n ≤ y) := by
  intro k
  induction k with
  | zero =>
    intro i hi h
    obtain rfl : i = l.length := by omega
    exact ⟨l.length, Nat.le_refl _, el_spec_l1Put_28 _ _ _ (by simp [ql_spec_l1Put_28]), h, by simp⟩
  | succ k ih =>
    intro i hi h
    have h1 : i < l.length := by omega
    by_cases hx : l[i] < n
    · obtain ⟨j, g2, g3, g4⟩ := ih (i + 1) (by omega) (by
        intro x hx'
        rw [List.take_succ_eq_append_getElem h1, List.mem_append] at hx'
        rcases hx' with hx' | hx'
        · exact h x hx'
        · simp at hx'; omega)
      refine ⟨j, g2, el_spec_l1Put_28 _ _ _ ?_, g4⟩
      simp only [ql_spec_l1Put_28]
      rw [if_pos (by simpa using h1), if_pos (by omega), Int.toNat_natCast, List.getElem?_eq_getElem h1]
      simp only [Option.bind_some]
      rw [if_pos (by simpa using hx), inc_nat (by omega)]
      exact g3
    · refine ⟨i, by omega, el_spec_l1Put_28 _ _ _ ?_, h, ?_⟩
      · simp only [ql_spec_l1Put_28]
        rw [if_pos (by simpa using h1), if_pos (by omega), Int.toNat_natCast, List.getElem?_eq_getElem h1]
        simp only [Option.bind_some]
        rw [if_neg (by simpa using hx)]
      · intro y hy
        rw [List.drop_eq_getElem_cons h1] at hy
        simp only [List.head?_cons, Option.some.injEq] at hy; omega
theorem p_putN (l : List Int) (hl : l.length ≤ 1000) (n : Int) : c_spec_l1Put M l n = some ((putN l n, ()), ()) := by
  obtain ⟨j, g2, g3, g4, g5⟩ := p_l1Put_at l hl n l.length 0 (by omega) (by simp)
  rw [show ((0 : Nat) : Int) = 0 from rfl] at g3
  have key := putN_split n (l.take j) (l.drop j) g4 g5
  rw [List.take_append_drop] at key
  apply e_spec_l1Put
  simp only [q_spec_l1Put, g3, Option.bind_some, Sum.elim_inl]
  by_cases h1 : j < l.length
  · have hh : (l.drop j).head? = some l[j] := by rw [List.drop_eq_getElem_cons h1]; rfl
    rw [if_pos (by simpa using h1), if_pos (by omega), Int.toNat_natCast, List.getElem?_eq_getElem h1]
    simp only [Option.bind_some, Int.toNat_natCast, Int.toNat_zero, List.drop_zero, List.nil_append, List.length_nil, List.length_append, List.length_take, List.length_drop, List.length_cons, List.take_length]
    rw [hh] at key
    by_cases h2 : l[j] = n
    · rw [if_pos (by simpa using h2), key, if_pos (by rw [h2])]
    · rw [if_neg (by simpa using h2), if_pos (by omega), if_pos (by omega), if_pos (by omega), if_pos (by omega), if_pos (by omega), key, if_neg (by simpa using h2)]
      simp
  · have hd : l.drop j = [] := List.drop_of_length_le (by omega)
    rw [hd] at key
    rw [if_neg (by simpa using h1)]
    simp only [Option.bind_some, Int.toNat_natCast, Int.toNat_zero, List.drop_zero, List.nil_append, List.length_nil, List.length_append, List.length_take, List.length_drop, List.length_cons, List.take_length]
    rw [if_pos (by omega), if_pos (by omega), if_pos (by omega), if_pos (by omega), if_pos (by omega), key, hd]
    simp
theorem Up.le12 {L : List Int} (h : Up L) (hb : ∀ v ∈ L, 0 ≤ v ∧ v ≤ 11) : L = upTo (fun v => decide (v ∈ L)) := by
  refine Up.ext h (upTo_up _) fun x => ?_
  rw [mem_upTo]
  constructor
  · intro hx; exact ⟨(hb x hx).1, (hb x hx).2, by simpa using hx⟩
  · rintro ⟨_, _, hx⟩; simpa using hx
theorem Up.len12 {L : List Int} (h : Up L) (hb : ∀ v ∈ L, 0 ≤ v ∧ v ≤ 11) : L.length ≤ 12 := by
  rw [h.le12 hb]; exact upTo_len _

theorem foldPut_len : ∀ (vs o : List Int), (vs.foldl putN o).length ≤ o.length + vs.length
  | [], o => by simp
  | v :: vs, o => by
    have h1 := foldPut_len vs (putN o v)
    have h2 := putN_len o v
    simp only [List.foldl_cons, List.length_cons]
    omega
theorem mem_foldPut : ∀ (vs o : List Int) (x : Int), x ∈ vs.foldl putN o ↔ x ∈ o ∨ x ∈ vs
  | [], o, x => by simp
  | v :: vs, o, x => by
    simp only [List.foldl_cons, mem_foldPut vs, mem_putN, List.mem_cons, or_assoc]
theorem up_foldPut : ∀ (vs o : List Int), Up o → Up (vs.foldl putN o)
  | [], o, h => h
  | v :: vs, o, h => up_foldPut vs _ (up_putN h v)
end Go.Proofs.YtcjaikkdpclaaaaPu.Ev

/- Plain laws: the variables of some terms, in rising order, as the program gathers them. No condition but sizes. -/
namespace Go.Proofs.YtcjaikkdpclaaaaPu.Ev
open Go
set_option autoImplicit false
set_option linter.unusedVariables false
set_option linter.unusedSimpArgs false

theorem p_vi1 (t : List Int) (v : Int) (ht : t.length ≤ 17592186044416) (h0 : -1000 ≤ v) (h1 : v ≤ 1000) : c_impl_varsIn_1 M t v = some ((decide (-1 - v ∈ t), ()), ()) := by
  apply e_impl_varsIn_1
  simp only [q_impl_varsIn_1]
  rw [w64 (x := -1 - v) (by omega) (by omega), p_Contains t _ ht]
  rfl
/-- Whether a variable is in one of some terms. -/
def inV (ts : List (List Int)) (v : Int) : Bool := ts.any fun t => decide (-1 - v ∈ t)
theorem p_viIdx_loop (ts : List (List Int)) (v : Int) (h0 : -1000 ≤ v) (h1 : v ≤ 1000) (hl : ts.length ≤ 17592186044416) (hx : ∀ t ∈ ts, t.length ≤ 17592186044416) : ∀ k i : Nat, i + k = ts.length → ∃ r, l_slices_IndexFunc_SS_int_int__impl_varsIn_1_26 M ts (v, ()) ts.length i = some r ∧ (match r with | .inl _ => inV (ts.drop i) v = false | .inr r => 0 ≤ r.1.1 ∧ inV (ts.drop i) v = true) := by
  intro k
  induction k with
  | zero =>
    intro i hi
    obtain rfl : i = ts.length := by omega
    exact ⟨.inl (), el_slices_IndexFunc_SS_int_int__impl_varsIn_1_26 _ _ _ _ (by simp [ql_slices_IndexFunc_SS_int_int__impl_varsIn_1_26]), by simp [inV]⟩
  | succ k ih =>
    intro i hi
    have h2 : i < ts.length := by omega
    obtain ⟨r, hr, hm⟩ := ih (i + 1) (by omega)
    rw [List.drop_eq_getElem_cons h2]
    have hc := p_vi1 ts[i] v (hx _ (List.getElem_mem h2)) h0 h1
    cases hp : decide (-1 - v ∈ ts[i]) with
    | false =>
      refine ⟨r, el_slices_IndexFunc_SS_int_int__impl_varsIn_1_26 _ _ _ _ ?_, ?_⟩
      · simp only [ql_slices_IndexFunc_SS_int_int__impl_varsIn_1_26]
        rw [if_pos (by simpa using h2), idx_lt h2]
        simp only [Option.bind_some, hc, hp, Bool.false_eq_true, if_false]
        rw [inc_nat (by omega)]
        exact hr
      · cases r with
        | inl r => simp only [inV, List.any_cons, hp, Bool.false_or]; exact hm
        | inr r => simp only [inV, List.any_cons, hp, Bool.false_or]; exact hm
    | true =>
      refine ⟨.inr (((i : Int), ()), ()), el_slices_IndexFunc_SS_int_int__impl_varsIn_1_26 _ _ _ _ ?_, Int.natCast_nonneg i, ?_⟩
      · simp only [ql_slices_IndexFunc_SS_int_int__impl_varsIn_1_26]
        rw [if_pos (by simpa using h2), idx_lt h2]
        simp only [Option.bind_some, hc, hp, if_true]
      · simp only [inV, List.any_cons, hp, Bool.true_or]
theorem p_viContains (ts : List (List Int)) (v : Int) (h0 : -1000 ≤ v) (h1 : v ≤ 1000) (hl : ts.length ≤ 17592186044416) (hx : ∀ t ∈ ts, t.length ≤ 17592186044416) : c_slices_ContainsFunc_SS_int_int__impl_varsIn_1 M ts (v, ()) = some ((inV ts v, ()), ()) := by
  obtain ⟨r, hr, hm⟩ := p_viIdx_loop ts v h0 h1 hl hx ts.length 0 (by omega)
  rw [show ((0 : Nat) : Int) = 0 from rfl] at hr
  rw [List.drop_zero] at hm
  apply e_slices_ContainsFunc_SS_int_int__impl_varsIn_1
  cases r with
  | inl r =>
    rw [q_slices_ContainsFunc_SS_int_int__impl_varsIn_1, e_slices_IndexFunc_SS_int_int__impl_varsIn_1 ts (v, ()) (r := ((-1, ()), ())) (by simp only [q_slices_IndexFunc_SS_int_int__impl_varsIn_1, hr, Option.bind_some, Sum.elim_inl])]
    simp only at hm
    simp [hm]
  | inr r =>
    rw [q_slices_ContainsFunc_SS_int_int__impl_varsIn_1, e_slices_IndexFunc_SS_int_int__impl_varsIn_1 ts (v, ()) (r := r) (by simp only [q_slices_IndexFunc_SS_int_int__impl_varsIn_1, hr, Option.bind_some, Sum.elim_inr])]
    simp only at hm
    simp [hm]
theorem p_varsIn_loop (ts : List (List Int)) (hl : ts.length ≤ 17592186044416) (hx : ∀ t ∈ ts, t.length ≤ 17592186044416) : ∀ k i : Nat, i + k = 12 → ∀ o : List Int, o = ((List.range i).map Int.ofNat).filter (inV ts) → l_impl_varsIn_58 M ts o i = some (.inl (upTo (inV ts), ())) := by
  intro k
  induction k with
  | zero =>
    intro i hi o ho
    obtain rfl : i = 12 := by omega
    subst ho
    exact el_impl_varsIn_58 _ _ _ (by simp [ql_impl_varsIn_58, upTo])
  | succ k ih =>
    intro i hi o ho
    have hp := upTo_part (inV ts) i (by omega) o ho (by omega)
    have hol : o.length ≤ 12 := by rw [ho]; exact Nat.le_trans (List.length_filter_le _ _) (by simp; omega)
    apply el_impl_varsIn_58
    simp only [ql_impl_varsIn_58]
    rw [if_pos (by simp; omega), p_viContains ts i (by omega) (by omega) hl hx]
    simp only [Option.bind_some]
    cases hv : inV ts (i : Int) with
    | true =>
      rw [hv, if_pos rfl] at hp
      rw [if_pos rfl, if_pos (by simp; omega)]
      simp only [Option.bind_some, Sum.elim_inl]
      rw [inc_nat (by omega)]
      exact ih (i + 1) (by omega) _ hp.symm
    | false =>
      rw [hv, if_neg (by simp)] at hp
      rw [if_neg (by simp)]
      simp only [Option.bind_some, Sum.elim_inl]
      rw [inc_nat (by omega)]
      exact ih (i + 1) (by omega) _ hp.symm
theorem p_varsIn (ts : List (List Int)) (hl : ts.length ≤ 17592186044416) (hx : ∀ t ∈ ts, t.length ≤ 17592186044416) : c_impl_varsIn M ts = some ((upTo (inV ts), ()), ()) := by
  apply e_impl_varsIn
  simp only [q_impl_varsIn]
  have := p_varsIn_loop ts hl hx 12 0 (by omega) [] (by simp)
  rw [show ((0 : Nat) : Int) = 0 from rfl] at this
  rw [this]
  rfl
end Go.Proofs.YtcjaikkdpclaaaaPu.Ev

/- Plain laws: the free variables of a formula, by both programs; FnExactFreeIn. No condition but sizes. -/
namespace Go.Proofs.YtcjaikkdpclaaaaPu.Ev
open Go
set_option autoImplicit false
set_option linter.unusedVariables false
set_option linter.unusedSimpArgs false

theorem mget_mput {α : Type} (m : List (Int × α)) (k v : Int) (y z : α) : mget (mput m k y) v z = if k = v then y else mget m v z := by
  induction m with
  | nil => simp [mput, mget]
  | cons p r ih =>
    obtain ⟨a, b⟩ := p
    simp only [mput]
    by_cases h : a = k
    · subst h
      rw [if_pos rfl]
      simp only [mget]
      by_cases hv : a = v <;> simp [hv]
    · rw [if_neg h]
      simp only [mget, ih]
      by_cases hv : a = v
      · subst hv; rw [if_pos rfl, if_neg (fun e => h e.symm), if_pos rfl]
      · rw [if_neg hv, if_neg hv]

/-! ### The reference -/
theorem p_freePut1 (vs : List Int) (hl : vs.length ≤ 500) : ∀ k i : Nat, i + k = vs.length → ∀ o : List Int, o.length ≤ 400 + i → l_spec_l14Free_3754 M o vs vs.length i = some (.inl ((vs.drop i).foldl putN o, ())) := by
  intro k
  induction k with
  | zero =>
    intro i hi o ho
    obtain rfl : i = vs.length := by omega
    exact el_spec_l14Free_3754 _ _ _ _ (by simp [ql_spec_l14Free_3754])
  | succ k ih =>
    intro i hi o ho
    have h1 : i < vs.length := by omega
    apply el_spec_l14Free_3754
    simp only [ql_spec_l14Free_3754]
    rw [if_pos (by simpa using h1), if_pos (by omega), Int.toNat_natCast, List.getElem?_eq_getElem h1]
    simp only [Option.bind_some, p_putN o (by omega)]
    have := putN_len o vs[i]
    rw [inc_nat (by omega), ih (i + 1) (by omega) _ (by omega), List.drop_eq_getElem_cons h1]
    rfl
theorem p_freePut2 (vs : List Int) (hl : vs.length ≤ 500) : ∀ k i : Nat, i + k = vs.length → ∀ o : List Int, o.length ≤ 400 + i → l_spec_l14Free_250 M o vs vs.length i = some (.inl ((vs.drop i).foldl putN o, ())) := by
  intro k
  induction k with
  | zero =>
    intro i hi o ho
    obtain rfl : i = vs.length := by omega
    exact el_spec_l14Free_250 _ _ _ _ (by simp [ql_spec_l14Free_250])
  | succ k ih =>
    intro i hi o ho
    have h1 : i < vs.length := by omega
    apply el_spec_l14Free_250
    simp only [ql_spec_l14Free_250]
    rw [if_pos (by simpa using h1), if_pos (by omega), Int.toNat_natCast, List.getElem?_eq_getElem h1]
    simp only [Option.bind_some, p_putN o (by omega)]
    have := putN_len o vs[i]
    rw [inc_nat (by omega), ih (i + 1) (by omega) _ (by omega), List.drop_eq_getElem_cons h1]
    rfl
theorem p_l8Drop_loop (V : Int) (vs : List Int) (hl : vs.length ≤ 500) : ∀ k i : Nat, i + k = vs.length → ∀ o : List Int, o.length ≤ i → l_spec_l8Drop_58 M V o vs vs.length i = some (.inl (o ++ (vs.drop i).filter (fun x => x != V), ())) := by
  intro k
  induction k with
  | zero =>
    intro i hi o ho
    obtain rfl : i = vs.length := by omega
    exact el_spec_l8Drop_58 _ _ _ _ _ (by simp [ql_spec_l8Drop_58])
  | succ k ih =>
    intro i hi o ho
    have h1 : i < vs.length := by omega
    apply el_spec_l8Drop_58
    simp only [ql_spec_l8Drop_58]
    rw [if_pos (by simpa using h1), idx_lt h1, List.drop_eq_getElem_cons h1]
    simp only [Option.bind_some]
    by_cases hv : vs[i] = V
    · rw [if_neg (by simpa using hv)]
      simp only [Option.bind_some, Sum.elim_inl]
      rw [inc_nat (by omega), ih (i + 1) (by omega) _ (by omega), List.filter_cons, if_neg (by simpa using hv)]
    · rw [if_pos (by simpa using hv), if_pos (by simp; omega)]
      simp only [Option.bind_some, Sum.elim_inl]
      rw [inc_nat (by omega), ih (i + 1) (by omega) _ (by simp; omega), List.filter_cons, if_pos (by simpa using hv)]
      simp
theorem p_l8Drop (vs : List Int) (V : Int) (hl : vs.length ≤ 500) : c_spec_l8Drop M vs V = some ((vs.filter (fun x => x != V), ()), ()) := by
  apply e_spec_l8Drop
  have := p_l8Drop_loop V vs hl vs.length 0 (by omega) [] (by simp)
  rw [show ((0 : Nat) : Int) = 0 from rfl] at this
  simp only [q_spec_l8Drop, this, Option.bind_some, Sum.elim_inl, List.nil_append, List.drop_zero]

/-! ### The program -/
theorem p_free_vars (T : Tree) (bd : List Int) (hb : bd.length ≤ 1000) (nd : TForm) (vs : List Int) (hl : vs.length ≤ 1000) : ∀ k i : Nat, i + k = vs.length → ∀ m : List (Int × Bool), ∃ m', l_impl_tree_free_26 M T m bd nd vs vs.length i = some (.inl (T, m', bd, nd, ())) ∧ ∀ v, mget m' v false = (mget m v false || (decide (v ∈ vs.drop i) && !decide (v ∈ bd))) := by
  intro k
  induction k with
  | zero =>
    intro i hi m
    obtain rfl : i = vs.length := by omega
    exact ⟨m, el_impl_tree_free_26 _ _ _ _ _ _ _ (by simp [ql_impl_tree_free_26]), by simp⟩
  | succ k ih =>
    intro i hi m
    have h1 : i < vs.length := by omega
    have dm : ∀ v, decide (v ∈ vs.drop i) = (decide (v = vs[i]) || decide (v ∈ vs.drop (i + 1))) := by
      intro v
      rw [List.drop_eq_getElem_cons h1, Bool.eq_iff_iff]
      simp only [decide_eq_true_eq, Bool.or_eq_true, List.mem_cons]
    obtain ⟨m', g1, g2⟩ := ih (i + 1) (by omega) (mput m vs[i] (mget m vs[i] false || !decide (vs[i] ∈ bd)))
    refine ⟨m', el_impl_tree_free_26 _ _ _ _ _ _ _ ?_, fun v => ?_⟩
    · simp only [ql_impl_tree_free_26]
      rw [if_pos (by simpa using h1), if_pos (by omega), Int.toNat_natCast, List.getElem?_eq_getElem h1]
      simp only [Option.bind_some, p_Contains bd _ (by omega)]
      rw [inc_nat (by omega)]
      cases hm : mget m vs[i] false with
      | true => rw [hm] at g1; rw [if_pos rfl]; exact g1
      | false => rw [hm] at g1; rw [if_neg (by simp)]; exact g1
    · rw [g2 v, mget_mput, dm v]
      by_cases hv : vs[i] = v
      · subst hv
        cases mget m vs[i] false <;> cases decide (vs[i] ∈ bd) <;> simp
      · have : decide (v = vs[i]) = false := by simpa using fun e => hv (Eq.symm e)
        rw [if_neg hv, this, Bool.false_or]
theorem p_free_node (x : TForm) (ts : List Tree) (hx : smF x) (m : List (Int × Bool)) (bd : List Int) (hb : bd.length ≤ 1000) : ∃ m1 : List (Int × Bool), (∀ v, mget m1 v false = (mget m v false || (decide (v ∈ upTo (inV [x.2.2.1, x.2.2.2.1])) && !decide (v ∈ bd)))) ∧
    ∀ m2, l_impl_tree_free_62 M m1 (if x.1 = 5 ∨ x.1 = 6 then bd ++ [x.2.1] else bd) ts ts.length 0 = some (.inl (m2, ())) → c_impl_tree_free M (mkT x ts) m bd = some ((), (m2, ())) := by
  have hv := p_varsIn [x.2.2.1, x.2.2.2.1] (by simp) (by
    intro t ht
    have := hx.1; have := hx.2
    simp only [List.mem_cons, List.not_mem_nil, or_false] at ht
    rcases ht with rfl | rfl <;> omega)
  have hl12 := upTo_len (inV [x.2.2.1, x.2.2.2.1])
  obtain ⟨m1, g1, g2⟩ := p_free_vars (mkT x ts) bd hb x (upTo (inV [x.2.2.1, x.2.2.2.1])) (by omega) (upTo (inV [x.2.2.1, x.2.2.2.1])).length 0 (by omega) m
  rw [show ((0 : Nat) : Int) = 0 from rfl] at g1
  refine ⟨m1, fun v => by rw [g2 v, List.drop_zero], fun m2 h => e_impl_tree_free _ _ _ ?_⟩
  simp only [q_impl_tree_free, treeK, form_eta, hv, Option.bind_some]
  rw [g1]
  simp only [Option.bind_some, Sum.elim_inl]
  by_cases h5 : x.1 = 5
  · rw [if_pos (.inl h5)] at h
    rw [if_pos (by simpa using h5), if_pos (by omega), if_pos (by simp; omega)]
    simp only [Option.bind_some, Sum.elim_inl, treeK, h]
  · rw [if_neg (by simpa using h5)]
    by_cases h6 : x.1 = 6
    · rw [if_pos (.inr h6)] at h
      rw [if_pos (by simpa using h6), if_pos (by omega), if_pos (by simp; omega)]
      simp only [Option.bind_some, Sum.elim_inl, treeK, h]
    · rw [if_neg (by omega)] at h
      rw [if_neg (by simpa using h6)]
      simp only [Option.bind_some, Sum.elim_inl, treeK, h]
theorem p_free_end (m : List (Int × Bool)) (bd : List Int) (ts : List Tree) : l_impl_tree_free_62 M m bd ts ts.length ts.length = some (.inl (m, ())) := by
  apply el_impl_tree_free_62
  simp [ql_impl_tree_free_62]
theorem p_free_step (m m' m2 : List (Int × Bool)) (bd : List Int) (ts : List Tree) (i : Nat) (hi : i < ts.length) (hl : ts.length ≤ 1000) (h : c_impl_tree_free M ts[i] m bd = some ((), (m', ()))) (hr : l_impl_tree_free_62 M m' bd ts ts.length ((i + 1 : Nat) : Int) = some (.inl (m2, ()))) :
    l_impl_tree_free_62 M m bd ts ts.length (i : Int) = some (.inl (m2, ())) := by
  apply el_impl_tree_free_62
  simp only [ql_impl_tree_free_62]
  rw [if_pos (by simpa using hi), idx_lt hi]
  simp only [Option.bind_some, h]
  rw [inc_nat (by omega)]
  exact hr

theorem nd_flat {a : List Int} {x : TForm} (h : ndOK a x = true) (h1 : x.1 ≠ 1) : x.2.2.1 = [] ∧ x.2.2.2.1 = [] := by
  unfold ndOK at h
  rw [if_neg h1] at h
  split at h
  · assumption
  · cases h
theorem inV_nil (x : TForm) (h : x.2.2.1 = [] ∧ x.2.2.2.1 = []) (v : Int) : decide (v ∈ upTo (inV [x.2.2.1, x.2.2.2.1])) = false := by
  rw [h.1, h.2]
  simp only [decide_eq_false_iff_not, mem_upTo, inV, List.any_cons, List.any_nil, List.not_mem_nil, decide_false, Bool.or_self, Bool.false_eq_true, and_false, not_false_eq_true]

/-- The variables that are free. -/
def fvT : Tree → Int → Bool
  | .nil, _ => false
  | .mk _ _ l r [], u => decide (-1 - u ∈ l) || decide (-1 - u ∈ r)
  | .mk op v _ _ [t], u => if op = 2 then fvT t u else fvT t u && decide (u ≠ v)
  | .mk _ _ _ _ (t :: k :: _), u => fvT t u || fvT k u
/-- The free variables of a formula, rising: what both programs find. -/
theorem p_freeX {a : List Int} {h : List TForm} {t : Tree} (hf : FT a h t) : ∃ L : List Int, Up L ∧ (∀ v ∈ L, 0 ≤ v ∧ v ≤ 11) ∧ (∀ pre post : List TForm, pre.length + h.length ≤ 100 → c_spec_l14Free M (pre ++ (h ++ post)) ((pre.length : Int) + h.length - 1) = some ((L, ()), ())) ∧
    (∀ (m : List (Int × Bool)) (bd : List Int), bd.length + h.length ≤ 900 → ∃ m', c_impl_tree_free M t m bd = some ((), (m', ())) ∧ ∀ v, mget m' v false = (mget m v false || (decide (v ∈ L) && !decide (v ∈ bd)))) ∧ ∀ v, v ∈ L ↔ 0 ≤ v ∧ fvT t v = true := by
  induction hf with
  | @leaf x h h0 =>
    obtain ⟨ho, tl, tr⟩ := leaf_op h h0
    have hx := ndOK_smF h
    obtain ⟨l1, l2⟩ := isT_ge tl
    obtain ⟨r1, r2⟩ := isT_ge tr
    obtain ⟨vl, e1, e2, e3⟩ := p_l1Vars _ (by omega) l2
    obtain ⟨vr, f1, f2, f3⟩ := p_l1Vars _ (by omega) r2
    have hmem : ∀ v, v ∈ (vl ++ vr).foldl putN [] ↔ ∃ n, (n ∈ x.2.2.1 ∨ n ∈ x.2.2.2.1) ∧ n < 0 ∧ v = -1 - n := by
      intro v
      rw [mem_foldPut, List.mem_append, e3, f3]
      constructor
      · rintro (h | ⟨n, h1, h2⟩ | ⟨n, h1, h2⟩)
        · cases h
        · exact ⟨n, .inl h1, h2⟩
        · exact ⟨n, .inr h1, h2⟩
      · rintro ⟨n, h1 | h1, h2⟩
        · exact .inr (.inl ⟨n, h1, h2⟩)
        · exact .inr (.inr ⟨n, h1, h2⟩)
    have hbd : ∀ v ∈ (vl ++ vr).foldl putN [], 0 ≤ v ∧ v ≤ 11 := by
      intro v hv
      obtain ⟨n, h1, h2, rfl⟩ := (hmem v).1 hv
      rcases h1 with h1 | h1
      · have := l2 n h1; omega
      · have := r2 n h1; omega
    refine ⟨(vl ++ vr).foldl putN [], up_foldPut _ _ List.Pairwise.nil, hbd, fun pre post hp => ?_, fun m bd hb => ?_, fun v => ?_⟩
    · simp only [List.length_cons, List.length_nil] at hp ⊢
      rw [show (pre.length : Int) + ((0 + 1 : Nat) : Int) - 1 = (pre.length : Int) by omega, List.singleton_append]
      apply e_spec_l14Free
      simp only [q_spec_l14Free, idx_mid, Option.bind_some, ho, e1, f1, Int.reduceBEq, ↓reduceIte]
      rw [if_pos (by omega)]
      have := p_freePut1 (vl ++ vr) (by simp; omega) (vl ++ vr).length 0 (by omega) [] (by simp)
      rw [show ((0 : Nat) : Int) = 0 from rfl, List.drop_zero] at this
      rw [this]
      rfl
    · simp only [List.length_cons, List.length_nil] at hb
      obtain ⟨m1, k1, k2⟩ := p_free_node x [] hx m bd (by omega)
      refine ⟨m1, k2 m1 (p_free_end _ _ []), fun v => ?_⟩
      rw [k1 v]
      congr 2
      rw [Bool.eq_iff_iff, decide_eq_true_eq, decide_eq_true_eq, mem_upTo, hmem]
      simp only [inV, List.any_cons, List.any_nil, Bool.or_false, Bool.or_eq_true, decide_eq_true_eq]
      constructor
      · rintro ⟨v0, v1, hv⟩
        exact ⟨-1 - v, hv, by omega, by omega⟩
      · rintro ⟨n, h1, h2, rfl⟩
        have := hbd (-1 - n) ((hmem _).2 ⟨n, h1, h2, rfl⟩)
        refine ⟨this.1, this.2, ?_⟩
        rw [show -1 - (-1 - n) = n by omega]
        exact h1
    · rw [hmem]
      simp only [fvT, Bool.or_eq_true, decide_eq_true_eq]
      constructor
      · rintro ⟨n, h1, h2, rfl⟩
        rw [show -1 - (-1 - n) = n by omega]
        exact ⟨by omega, h1⟩
      · rintro ⟨v0, h1⟩
        exact ⟨-1 - v, h1, by omega, by omega⟩
  | @un x g t h h1 hg ih =>
    have hx := ndOK_smF h
    obtain ⟨h256, v0, v5⟩ := un_op h h1
    have hfl := nd_flat h (by omega)
    obtain ⟨L, u1, u2, u3, u4, u5⟩ := ih
    have hL12 := u1.len12 u2
    by_cases h2 : x.1 = 2
    · refine ⟨L, u1, u2, fun pre post hp => ?_, fun m bd hb => ?_, fun v => by rw [u5 v]; simp [fvT, h2]⟩
      · simp only [List.length_append, List.length_cons, List.length_nil] at hp ⊢
        apply e_spec_l14Free
        rw [show (pre.length : Int) + ((g.length + (0 + 1) : Nat) : Int) - 1 = ((pre ++ g).length : Int) by simp; omega, show pre ++ (g ++ [x] ++ post) = (pre ++ g) ++ x :: post by simp]
        simp only [q_spec_l14Free, idx_mid, Option.bind_some, form_eta, h2, Int.reduceBEq, Bool.false_eq_true, ↓reduceIte, Sum.elim_inl]
        rw [w64 (by omega) (by simp; omega), show ((pre ++ g).length : Int) - 1 = (pre.length : Int) + g.length - 1 by simp, List.append_assoc, u3 pre (x :: post) (by omega)]
        rfl
      · simp only [List.length_append, List.length_cons, List.length_nil] at hb
        obtain ⟨m1, k1, k2⟩ := p_free_node x [t] hx m bd (by omega)
        rw [if_neg (by omega)] at k2
        obtain ⟨m2, q1, q2⟩ := u4 m1 bd (by omega)
        refine ⟨m2, k2 m2 (p_free_step _ _ _ _ [t] 0 (by simp) (by simp) q1 (p_free_end _ _ [t])), fun v => ?_⟩
        rw [q2 v, k1 v, inV_nil x hfl v]
        simp
    · have h56 : x.1 = 5 ∨ x.1 = 6 := by omega
      refine ⟨L.filter (fun v => v != x.2.1), List.Pairwise.filter _ u1, fun v hv => u2 v (List.mem_filter.1 hv).1, fun pre post hp => ?_, fun m bd hb => ?_, fun v => by rw [List.mem_filter, u5 v]; simp [fvT, h2, and_assoc]⟩
      · simp only [List.length_append, List.length_cons, List.length_nil] at hp ⊢
        apply e_spec_l14Free
        rw [show (pre.length : Int) + ((g.length + (0 + 1) : Nat) : Int) - 1 = ((pre ++ g).length : Int) by simp; omega, show pre ++ (g ++ [x] ++ post) = (pre ++ g) ++ x :: post by simp]
        have fin : ∀ b : Bool, b = true → (if b = true then ((c_spec_l14Free M ((pre ++ g) ++ x :: post) (IntKind.i64.wrap (((pre ++ g).length : Int) - (1 : Int)))).bind fun r7 => ((c_spec_l8Drop M r7.1.1 x.2.1).bind fun r8 => (some ((r8.1.1, ()), ())))) else none : Option ((List Int × Unit) × Unit)) = some ((L.filter (fun v => v != x.2.1), ()), ()) := by
          intro b hb
          rw [if_pos hb, w64 (by omega) (by simp; omega), show ((pre ++ g).length : Int) - 1 = (pre.length : Int) + g.length - 1 by simp, List.append_assoc, u3 pre (x :: post) (by omega)]
          simp only [Option.bind_some, p_l8Drop L _ (by omega)]
        rcases h56 with h5 | h6
        · simp only [q_spec_l14Free, idx_mid, Option.bind_some, form_eta, h5, Int.reduceBEq, Bool.false_eq_true, ↓reduceIte, Sum.elim_inl]
          exact fin true rfl
        · simp only [q_spec_l14Free, idx_mid, Option.bind_some, form_eta, h6, Int.reduceBEq, Bool.false_eq_true, ↓reduceIte, Sum.elim_inl]
          exact fin true rfl
      · simp only [List.length_append, List.length_cons, List.length_nil] at hb
        obtain ⟨m1, k1, k2⟩ := p_free_node x [t] hx m bd (by omega)
        rw [if_pos h56] at k2
        obtain ⟨m2, q1, q2⟩ := u4 m1 (bd ++ [x.2.1]) (by simp; omega)
        refine ⟨m2, k2 m2 (p_free_step _ _ _ _ [t] 0 (by simp) (by simp) q1 (p_free_end _ _ [t])), fun v => ?_⟩
        rw [q2 v, k1 v, inV_nil x hfl v]
        simp only [Bool.false_and, Bool.or_false]
        congr 1
        rw [Bool.eq_iff_iff]
        simp only [Bool.and_eq_true, decide_eq_true_eq, Bool.not_eq_true', decide_eq_false_iff_not, List.mem_append, List.mem_cons, List.not_mem_nil, or_false, not_or, List.mem_filter, bne_iff_ne]
        constructor
        · rintro ⟨a1, a2, a3⟩; exact ⟨⟨a1, a3⟩, a2⟩
        · rintro ⟨⟨a1, a3⟩, a2⟩; exact ⟨a1, a2, a3⟩
  | @bin x g k t u h h2 hg hk ih1 ih2 =>
    have hx := ndOK_smF h
    have h34 := bin_op h h2
    have hfl := nd_flat h (by omega)
    obtain ⟨L1, a1, a2, a3, a4, a5⟩ := ih1
    obtain ⟨L2, b1, b2, b3, b4, b5⟩ := ih2
    have hL1 := a1.len12 a2
    have hL2 := b1.len12 b2
    refine ⟨L1.foldl putN L2, up_foldPut _ _ b1, ?_, fun pre post hp => ?_, fun m bd hb => ?_, fun v => ?_⟩
    · intro v hv
      rcases (mem_foldPut _ _ _).1 hv with hv | hv
      · exact b2 v hv
      · exact a2 v hv
    · simp only [List.length_append, List.length_cons, List.length_nil] at hp ⊢
      apply e_spec_l14Free
      rw [show (pre.length : Int) + ((g.length + k.length + (0 + 1) : Nat) : Int) - 1 = (((pre ++ g) ++ k).length : Int) by simp; omega, show pre ++ (g ++ k ++ [x] ++ post) = ((pre ++ g) ++ k) ++ x :: post by simp]
      have e1 := a3 pre (k ++ x :: post) (by omega)
      have e2 := b3 (pre ++ g) (x :: post) (by simp; omega)
      have e3 := p_l14First hk (pre ++ g) (x :: post) (by simp; omega)
      have n5 : (x.1 == 5) = false := by simp; omega
      have n6 : (x.1 == 6) = false := by simp; omega
      have n1 : (x.1 == 1) = false := by simp; omega
      have n2 : (x.1 == 2) = false := by simp; omega
      simp only [q_spec_l14Free, idx_mid, Option.bind_some, form_eta, n1, n2, n5, n6, Bool.false_eq_true, ↓reduceIte, Sum.elim_inl]
      rw [w64 (by omega) (by simp; omega), show (((pre ++ g) ++ k).length : Int) - 1 = ((pre ++ g).length : Int) + k.length - 1 by simp; omega, show (((pre ++ g) ++ k).length : Int) = ((pre ++ g).length : Int) + k.length by simp; omega, List.append_assoc (pre ++ g) k, e2]
      simp only [Option.bind_some]
      rw [e3]
      simp only [Option.bind_some]
      rw [show ((pre ++ g).length : Int) - 1 = (pre.length : Int) + g.length - 1 by simp, List.append_assoc pre g, e1]
      simp only [Option.bind_some]
      have := p_freePut2 L1 (by omega) L1.length 0 (by omega) L2 (by omega)
      rw [show ((0 : Nat) : Int) = 0 from rfl, List.drop_zero] at this
      rw [this]
      rfl
    · simp only [List.length_append, List.length_cons, List.length_nil] at hb
      obtain ⟨m1, k1, k2⟩ := p_free_node x [t, u] hx m bd (by omega)
      rw [if_neg (by omega)] at k2
      obtain ⟨m2, q1, q2⟩ := a4 m1 bd (by omega)
      obtain ⟨m3, q3, q4⟩ := b4 m2 bd (by omega)
      refine ⟨m3, k2 m3 (p_free_step _ _ _ _ [t, u] 0 (by simp) (by simp) q1 (p_free_step _ _ _ _ [t, u] 1 (by simp) (by simp) q3 (p_free_end _ _ [t, u]))), fun v => ?_⟩
      rw [q4 v, q2 v, k1 v, inV_nil x hfl v]
      have : decide (v ∈ L1.foldl putN L2) = (decide (v ∈ L2) || decide (v ∈ L1)) := by
        rw [Bool.eq_iff_iff]; simp only [decide_eq_true_eq, mem_foldPut, Bool.or_eq_true]
      rw [this]
      cases mget m v false <;> cases decide (v ∈ L1) <;> cases decide (v ∈ L2) <;> cases decide (v ∈ bd) <;> rfl
    · rw [mem_foldPut, a5 v, b5 v]
      simp only [fvT, Bool.or_eq_true]
      constructor
      · rintro (⟨h1, h2⟩ | ⟨h1, h2⟩)
        · exact ⟨h1, .inr h2⟩
        · exact ⟨h1, .inl h2⟩
      · rintro ⟨h1, h2 | h2⟩
        · exact .inr ⟨h1, h2⟩
        · exact .inl ⟨h1, h2⟩
theorem p_free {a : List Int} {h : List TForm} {t : Tree} (hf : FT a h t) : ∃ L : List Int, Up L ∧ (∀ v ∈ L, 0 ≤ v ∧ v ≤ 11) ∧ (∀ pre post : List TForm, pre.length + h.length ≤ 100 → c_spec_l14Free M (pre ++ (h ++ post)) ((pre.length : Int) + h.length - 1) = some ((L, ()), ())) ∧
    ∀ (m : List (Int × Bool)) (bd : List Int), bd.length + h.length ≤ 900 → ∃ m', c_impl_tree_free M t m bd = some ((), (m', ())) ∧ ∀ v, mget m' v false = (mget m v false || (decide (v ∈ L) && !decide (v ∈ bd))) := by
  obtain ⟨L, a1, a2, a3, a4, _⟩ := p_freeX hf
  exact ⟨L, a1, a2, a3, a4⟩

theorem p_freeIn_loop (m : List (Int × Bool)) : ∀ k i : Nat, i + k = 12 → ∀ o : List Int, o = ((List.range i).map Int.ofNat).filter (fun v => mget m v false) → l_impl_tree_freeIn_250 M m o i = some (.inl (upTo (fun v => mget m v false), ())) := by
  intro k
  induction k with
  | zero =>
    intro i hi o ho
    obtain rfl : i = 12 := by omega
    subst ho
    exact el_impl_tree_freeIn_250 _ _ _ (by simp [ql_impl_tree_freeIn_250, upTo])
  | succ k ih =>
    intro i hi o ho
    have hp := upTo_part (fun v => mget m v false) i (by omega) o ho (by omega)
    have hol : o.length ≤ 12 := by rw [ho]; exact Nat.le_trans (List.length_filter_le _ _) (by simp; omega)
    apply el_impl_tree_freeIn_250
    simp only [ql_impl_tree_freeIn_250]
    rw [if_pos (by simp; omega)]
    cases hv : mget m (i : Int) false with
    | true =>
      rw [hv, if_pos rfl] at hp
      rw [if_pos rfl, if_pos (by simp; omega)]
      simp only [Option.bind_some, Sum.elim_inl]
      rw [inc_nat (by omega)]
      exact ih (i + 1) (by omega) _ hp.symm
    | false =>
      rw [hv, if_neg (by simp)] at hp
      rw [if_neg (by simp)]
      simp only [Option.bind_some, Sum.elim_inl]
      rw [inc_nat (by omega)]
      exact ih (i + 1) (by omega) _ hp.symm
theorem p_freeIn {a : List Int} {h : List TForm} {t : Tree} (hf : FT a h t) (hl : h.length ≤ 100) : ∃ L : List Int, Up L ∧ (∀ v ∈ L, 0 ≤ v ∧ v ≤ 11) ∧ c_spec_l14Free M h ((h.length : Int) - 1) = some ((L, ()), ()) ∧ c_impl_tree_freeIn M t = some ((L, ()), ()) := by
  obtain ⟨L, u1, u2, u3, u4⟩ := p_free hf
  have e := u3 [] [] (by simpa using hl)
  simp only [List.nil_append, List.append_nil, List.length_nil, Int.natCast_zero, Int.zero_add] at e
  refine ⟨L, u1, u2, e, ?_⟩
  obtain ⟨m', q1, q2⟩ := u4 [] [] (by simp; omega)
  apply e_impl_tree_freeIn
  have := p_freeIn_loop m' 12 0 (by omega) [] (by simp)
  rw [show ((0 : Nat) : Int) = 0 from rfl] at this
  simp only [q_impl_tree_freeIn, q1, Option.bind_some, this, Sum.elim_inl]
  rw [u1.le12 u2]
  congr 4
  funext v
  rw [q2 v]
  simp [mget]
end Go.Proofs.YtcjaikkdpclaaaaPu.Ev

/- Plain laws: pushing negation inwards keeps the truth, or turns it round, and keeps the free variables. No condition. -/
namespace Go.Proofs.YtcjaikkdpclaaaaPu.Ev
open Go
set_option autoImplicit false
set_option linter.unusedVariables false
set_option linter.unusedSimpArgs false

theorem qH_not (f : Int → Bool) (al : Bool) : ∀ (k : Nat) (i : Int), qH (fun j => !f j) (!al) k i = !qH f al k i := by
  intro k
  induction k with
  | zero => intro i; rfl
  | succ k ih =>
    intro i
    simp only [qH]
    by_cases h : f i = al
    · rw [if_pos (by rw [h]), if_pos h, ih]
    · rw [if_neg (by simpa using h), if_neg h]
theorem qH_congr {f g : Int → Bool} (al : Bool) (h : ∀ i, f i = g i) (k : Nat) (i : Int) : qH f al k i = qH g al k i := by
  rw [show f = g from funext h]
theorem hT_not (s : TSign) (w : TWorld) (x : TForm) (t : Tree) (env : List Int) (h : x.1 = 2) : hT s w (mkT x [t]) env = !hT s w t env := by simp [hT, h]
theorem hT_quant (s : TSign) (w : TWorld) (x : TForm) (t : Tree) (env : List Int) (h : x.1 ≠ 2) : hT s w (mkT x [t]) env = qH (fun i => hT s w t (env.set x.2.1.toNat i)) (x.1 == 5) w.1.toNat 0 := by simp [hT, h]
theorem hT_bin (s : TSign) (w : TWorld) (x : TForm) (t u : Tree) (env : List Int) : hT s w (mkT x [t, u]) env = if x.1 = 3 then hT s w t env && hT s w u env else hT s w t env || hT s w u env := rfl
/-- What is pushed holds if the formula holds, or if not it does not. -/
theorem hT_pu {a : List Int} {h : List TForm} {t : Tree} (hf : FT a h t) (s : TSign) (w : TWorld) : ∀ (n : Bool) (env : List Int), hT s w (puT t n) env = (hT s w t env != n) := by
  induction hf with
  | @leaf x h h0 =>
    intro n env
    cases n with
    | false => simp [puT]
    | true => simp [puT, hT]
  | @un x g t h h1 hg ih =>
    intro n env
    obtain ⟨h256, _⟩ := un_op h h1
    by_cases h2 : x.1 = 2
    · rw [hT_not s w x t env h2]
      have : puT (mkT x [t]) n = puT t (!n) := by simp [puT, h2]
      rw [this, ih]
      cases hT s w t env <;> cases n <;> rfl
    · have : puT (mkT x [t]) n = mkT (xnd n x) [puT t n] := by simp [puT, h2, xnd]
      have hx2 : (xnd n x).1 ≠ 2 := by
        have : x.1 = 5 ∨ x.1 = 6 := by omega
        rcases this with h5 | h5 <;> cases n <;> simp [xnd, xop, h5]
      rw [this, hT_quant s w (xnd n x) _ env hx2, hT_quant s w x t env h2]
      have hal : ((xnd n x).1 == (5 : Int)) = ((x.1 == (5 : Int)) != n) := by
        have : x.1 = 5 ∨ x.1 = 6 := by omega
        rcases this with h5 | h5 <;> cases n <;> simp [xnd, xop, h5]
      have hv : (xnd n x).2.1 = x.2.1 := rfl
      rw [hal, hv]
      cases n with
      | false =>
        simp only [Bool.bne_false]
        exact qH_congr _ (fun i => by rw [ih]; simp) _ _
      | true =>
        simp only [Bool.bne_true]
        rw [← qH_not]
        exact qH_congr _ (fun i => by rw [ih]; simp) _ _
  | @bin x g k t u h h2 hg hk ih1 ih2 =>
    intro n env
    have h34 := bin_op h h2
    have : puT (mkT x [t, u]) n = mkT (xnd n x) [puT t n, puT u n] := by simp [puT, xnd]
    rw [this, hT_bin, hT_bin, ih1, ih2]
    rcases h34 with h3 | h3 <;> cases n <;> cases hT s w t env <;> cases hT s w u env <;> simp [xnd, xop, h3]
/-- The free variables stay. -/
theorem fv_pu {a : List Int} {h : List TForm} {t : Tree} (hf : FT a h t) : ∀ (n : Bool) (v : Int), fvT (puT t n) v = fvT t v := by
  induction hf with
  | @leaf x h h0 =>
    intro n v
    cases n <;> simp [puT, fvT]
  | @un x g t h h1 hg ih =>
    intro n v
    obtain ⟨h256, _⟩ := un_op h h1
    by_cases h2 : x.1 = 2
    · have : puT (mkT x [t]) n = puT t (!n) := by simp [puT, h2]
      rw [this, ih]
      simp [fvT, h2]
    · have : puT (mkT x [t]) n = mkT (xnd n x) [puT t n] := by simp [puT, h2, xnd]
      have hx2 : (xnd n x).1 ≠ 2 := by
        have : x.1 = 5 ∨ x.1 = 6 := by omega
        rcases this with h5 | h5 <;> cases n <;> simp [xnd, xop, h5]
      rw [this]
      simp only [fvT]
      rw [if_neg hx2, if_neg h2, ih]
      rfl
  | @bin x g k t u h h2 hg hk ih1 ih2 =>
    intro n v
    have : puT (mkT x [t, u]) n = mkT (xnd n x) [puT t n, puT u n] := by simp [puT, xnd]
    rw [this]
    simp only [fvT, ih1, ih2]
end Go.Proofs.YtcjaikkdpclaaaaPu.Ev

/- Plain laws: numbering bound variables apart, by the reference. No condition but sizes. -/
namespace Go.Proofs.YtcjaikkdpclaaaaPu.Ev
open Go
set_option autoImplicit false
set_option linter.unusedVariables false
set_option linter.unusedSimpArgs false

/-- A number of a term with other variables. -/
def nbr (f : Int → Int) (n : Int) : Int := if n < 0 then -1 - f (-1 - n) else n
def updF (f : Int → Int) (v n : Int) : Int → Int := fun u => if u = v then n else f u
/-- A tree whose bound variables are numbered from n on, and the next number. -/
def apT : Tree → (Int → Int) → Int → Tree × Int
  | .nil, _, n => (.nil, n)
  | .mk op v l r [], f, n => (.mk op v (l.map (nbr f)) (r.map (nbr f)) [], n)
  | .mk op v l r [t], f, n =>
    if op = 2 then (.mk op v l r [(apT t f n).1], (apT t f n).2)
    else (.mk op n l r [(apT t (updF f v n) (n + 1)).1], (apT t (updF f v n) (n + 1)).2)
  | .mk op v l r (t :: u :: _), f, n => (.mk op v l r [(apT t f n).1, (apT u f (apT t f n).2).1], (apT u f (apT t f n).2).2)
theorem upd_map (g : Int → Int) (T : List Int) (i : Nat) (h : i < T.length) (y : Int) (hy : y = g T[i]) : ((T.take i).map g ++ T.drop i).set i y = (T.take (i + 1)).map g ++ T.drop (i + 1) := by
  subst hy
  rw [List.drop_eq_getElem_cons h, List.set_append_right _ _ (by simp; omega), show i - ((T.take i).map g).length = 0 by simp; omega, List.set_cons_zero, List.take_add_one, List.getElem?_eq_getElem h]
  simp only [Option.toList_some, List.map_append, List.map_cons, List.map_nil, List.append_assoc, List.cons_append, List.nil_append]
theorem get_map (g : Int → Int) (T : List Int) (i : Nat) (h : i < T.length) : ((T.take i).map g ++ T.drop i)[i]? = some T[i] := by
  rw [List.getElem?_append_right (by simp; omega), show i - ((T.take i).map g).length = 0 by simp; omega, List.getElem?_drop]
  simp [h]
/-- The numbers of now, as the reference keeps them. -/
def AtF (at' : List Int) (f : Int → Int) : Prop := at'.length = 6 ∧ (∀ v, 0 ≤ v → v ≤ 5 → at'[v.toNat]? = some (f v)) ∧ ∀ v, -1000000 ≤ f v ∧ f v ≤ 1000000
theorem AtF.upd {at' : List Int} {f : Int → Int} (h : AtF at' f) {v n : Int} (v0 : 0 ≤ v) (v5 : v ≤ 5) (n0 : 0 ≤ n) (n1 : n ≤ 1000000) : AtF (at'.set v.toNat n) (updF f v n) := by
  obtain ⟨h1, h2, h3⟩ := h
  refine ⟨by rw [List.length_set]; exact h1, fun u u0 u5 => ?_, fun u => ?_⟩
  · unfold updF
    by_cases e : u = v
    · subst e; rw [if_pos rfl, List.getElem?_set_self (by omega)]
    · rw [if_neg e, List.getElem?_set_ne (by omega)]; exact h2 u u0 u5
  · unfold updF
    split
    · omega
    · exact h3 u
theorem p_apL1 (n : Int) (at' : List Int) (f : Int → Int) (ha : AtF at' f) (x : TForm) (T : List Int) (hT : T.length ≤ 1000) (hv : ∀ m ∈ T, m < 0 → -6 ≤ m) : ∀ k i : Nat, i + k = T.length → l_spec_l14Apart_1874 M n at' (x.1, x.2.1, (T.take i).map (nbr f) ++ T.drop i, x.2.2.2.1, ()) T.length i = some (.inl (n, at', (x.1, x.2.1, T.map (nbr f), x.2.2.2.1, ()), ())) := by
  obtain ⟨a1, a2, a3⟩ := ha
  intro k
  induction k with
  | zero =>
    intro i hi
    obtain rfl : i = T.length := by omega
    apply el_spec_l14Apart_1874
    simp only [ql_spec_l14Apart_1874]
    rw [if_neg (by simp)]
    simp
  | succ k ih =>
    intro i hi
    have h1 : i < T.length := by omega
    have hlen : ((T.take i).map (nbr f) ++ T.drop i).length = T.length := by simp; omega
    apply el_spec_l14Apart_1874
    simp only [ql_spec_l14Apart_1874]
    rw [if_pos (by simpa using h1), if_pos (by rw [hlen]; omega), Int.toNat_natCast, get_map _ _ _ h1]
    simp only [Option.bind_some]
    by_cases hn : T[i] < 0
    · have hm := hv _ (List.getElem_mem h1) hn
      have hb := a3 (-1 - T[i])
      have hx : idx at' (-1 - T[i]) = some (f (-1 - T[i])) := by
        have := a2 (-1 - T[i]) (by omega) (by omega)
        obtain ⟨q1, q2⟩ := List.getElem?_eq_some_iff.1 this
        have e := idx_lt (xs := at') q1
        rw [show (((-1 - T[i]).toNat : Nat) : Int) = -1 - T[i] by omega, q2] at e
        exact e
      rw [if_pos (by simpa using hn), w64 (x := -1 - T[i]) (by omega) (by omega), hx]
      simp only [Option.bind_some]
      rw [if_pos (by rw [hlen]; omega)]
      simp only [Option.bind_some, Sum.elim_inl]
      rw [w64 (x := -1 - f (-1 - T[i])) (by omega) (by omega), inc_nat (by omega), upd_map (nbr f) T i h1 _ (by unfold nbr; rw [if_pos hn])]
      exact ih (i + 1) (by omega)
    · rw [if_neg (by simpa using hn)]
      simp only [Option.bind_some, Sum.elim_inl]
      rw [inc_nat (by omega)]
      have := ih (i + 1) (by omega)
      rw [← upd_map (nbr f) T i h1 T[i] (by unfold nbr; rw [if_neg hn])] at this
      have hs : ((T.take i).map (nbr f) ++ T.drop i).set i T[i] = (T.take i).map (nbr f) ++ T.drop i := by
        obtain ⟨q1, q2⟩ := List.getElem?_eq_some_iff.1 (get_map (nbr f) T i h1)
        conv => lhs; rw [← q2]
        exact List.set_getElem_self q1
      rw [hs] at this
      exact this
theorem p_apL2 (n : Int) (at' : List Int) (f : Int → Int) (ha : AtF at' f) (x : TForm) (T : List Int) (hT : T.length ≤ 1000) (hv : ∀ m ∈ T, m < 0 → -6 ≤ m) : ∀ k i : Nat, i + k = T.length → l_spec_l14Apart_3754 M n at' (x.1, x.2.1, x.2.2.1, (T.take i).map (nbr f) ++ T.drop i, ()) T.length i = some (.inl (n, (x.1, x.2.1, x.2.2.1, T.map (nbr f), ()), ())) := by
  obtain ⟨a1, a2, a3⟩ := ha
  intro k
  induction k with
  | zero =>
    intro i hi
    obtain rfl : i = T.length := by omega
    apply el_spec_l14Apart_3754
    simp only [ql_spec_l14Apart_3754]
    rw [if_neg (by simp)]
    simp
  | succ k ih =>
    intro i hi
    have h1 : i < T.length := by omega
    have hlen : ((T.take i).map (nbr f) ++ T.drop i).length = T.length := by simp; omega
    apply el_spec_l14Apart_3754
    simp only [ql_spec_l14Apart_3754]
    rw [if_pos (by simpa using h1), if_pos (by rw [hlen]; omega), Int.toNat_natCast, get_map _ _ _ h1]
    simp only [Option.bind_some]
    by_cases hn : T[i] < 0
    · have hm := hv _ (List.getElem_mem h1) hn
      have hb := a3 (-1 - T[i])
      have hx : idx at' (-1 - T[i]) = some (f (-1 - T[i])) := by
        have := a2 (-1 - T[i]) (by omega) (by omega)
        obtain ⟨q1, q2⟩ := List.getElem?_eq_some_iff.1 this
        have e := idx_lt (xs := at') q1
        rw [show (((-1 - T[i]).toNat : Nat) : Int) = -1 - T[i] by omega, q2] at e
        exact e
      rw [if_pos (by simpa using hn), w64 (x := -1 - T[i]) (by omega) (by omega), hx]
      simp only [Option.bind_some]
      rw [if_pos (by rw [hlen]; omega)]
      simp only [Option.bind_some, Sum.elim_inl]
      rw [w64 (x := -1 - f (-1 - T[i])) (by omega) (by omega), inc_nat (by omega), upd_map (nbr f) T i h1 _ (by unfold nbr; rw [if_pos hn])]
      exact ih (i + 1) (by omega)
    · rw [if_neg (by simpa using hn)]
      simp only [Option.bind_some, Sum.elim_inl]
      rw [inc_nat (by omega)]
      have := ih (i + 1) (by omega)
      rw [← upd_map (nbr f) T i h1 T[i] (by unfold nbr; rw [if_neg hn])] at this
      have hs : ((T.take i).map (nbr f) ++ T.drop i).set i T[i] = (T.take i).map (nbr f) ++ T.drop i := by
        obtain ⟨q1, q2⟩ := List.getElem?_eq_some_iff.1 (get_map (nbr f) T i h1)
        conv => lhs; rw [← q2]
        exact List.set_getElem_self q1
      rw [hs] at this
      exact this

theorem apT_not (x : TForm) (t : Tree) (f : Int → Int) (n : Int) (h : x.1 = 2) : apT (mkT x [t]) f n = (mkT x [(apT t f n).1], (apT t f n).2) := by simp [apT, h]
theorem apT_quant (x : TForm) (t : Tree) (f : Int → Int) (n : Int) (h : x.1 ≠ 2) : apT (mkT x [t]) f n = (mkT (x.1, n, x.2.2.1, x.2.2.2.1, ()) [(apT t (updF f x.2.1 n) (n + 1)).1], (apT t (updF f x.2.1 n) (n + 1)).2) := by simp [apT, h]
theorem apT_bin (x : TForm) (t u : Tree) (f : Int → Int) (n : Int) : apT (mkT x [t, u]) f n = (mkT x [(apT t f n).1, (apT u f (apT t f n).2).1], (apT u f (apT t f n).2).2) := rfl
theorem apT_leaf (x : TForm) (f : Int → Int) (n : Int) : apT (mkT x []) f n = (mkT (x.1, x.2.1, x.2.2.1.map (nbr f), x.2.2.2.1.map (nbr f), ()) [], n) := rfl
theorem sE_nbr {a : List Int} {f : Int → Int} (hf : ∀ v, 0 ≤ f v ∧ f v ≤ 5) : ∀ (t : List Int) (k : Int), (∀ n ∈ t, -12 ≤ n) → sE a k (t.map (nbr f)) = (sE a k t).map (List.map (nbr f)) := by
  intro t
  induction t with
  | nil => intro k _; simp only [List.map_nil, sE]; split <;> rfl
  | cons n r ih =>
    intro k hn
    have h0 := hn n (by simp)
    have ihr := fun k => ih k (fun m hm => hn m (by simp [hm]))
    have hb := hf (-1 - n)
    simp only [List.map_cons, sE]
    by_cases hk : k ≤ 0
    · rw [if_pos hk, if_pos hk]; rfl
    · rw [if_neg hk, if_neg hk]
      by_cases h : n < 0
      · have e : nbr f n = -1 - f (-1 - n) := by unfold nbr; rw [if_pos h]
        have b1 : ¬ badN a (nbr f n) := by unfold badN; rw [e]; omega
        have b2 : ¬ badN a n := by unfold badN; omega
        have e1 : ar a (nbr f n) = ar a n := by unfold ar; rw [if_pos h, if_pos (by omega)]
        rw [if_neg b1, if_neg b2, e1, ihr]
      · have e : nbr f n = n := by unfold nbr; rw [if_neg h]
        rw [e]
        by_cases b : badN a n
        · rw [if_pos b, if_pos b]; rfl
        · rw [if_neg b, if_neg b, ihr]
theorem isB_nbr {a : List Int} {f : Int → Int} (hf : ∀ v, 0 ≤ f v ∧ f v ≤ 5) {t : List Int} (h : isB a t = true) : isB a (t.map (nbr f)) = true := by
  simp only [isB, isT, Bool.and_eq_true, decide_eq_true_eq, List.all_eq_true] at h ⊢
  obtain ⟨⟨h1, h2⟩, h3⟩ := h
  refine ⟨⟨by rw [List.length_map]; exact h1, ?_⟩, fun x hx => ?_⟩
  · have := sE_nbr (a := a) hf t 1 (fun n hn => by have := h3 n hn; omega)
    show sE a 1 (t.map (nbr f)) = some []
    rw [this, show sE a 1 t = some [] from h2]; rfl
  · obtain ⟨n, hn, rfl⟩ := List.mem_map.1 hx
    have := h3 n hn
    have hb := hf (-1 - n)
    unfold nbr
    split <;> omega
theorem ndOK_leaf {a : List Int} {x : TForm} {f : Int → Int} (hf : ∀ v, 0 ≤ f v ∧ f v ≤ 5) (h : ndOK a x = true) (h1 : x.1 = 1) : ndOK a (x.1, x.2.1, x.2.2.1.map (nbr f), x.2.2.2.1.map (nbr f), ()) = true := by
  unfold ndOK at h ⊢
  rw [if_pos h1] at h
  simp only [Bool.and_eq_true] at h
  simp only [if_pos h1, Bool.and_eq_true]
  exact ⟨h.1, isB_nbr hf h.2.1, isB_nbr hf h.2.2⟩
theorem ndOK_quant {a : List Int} {x : TForm} (h : ndOK a x = true) (h1 : x.1 = 5 ∨ x.1 = 6) {n : Int} (n0 : 0 ≤ n) (n5 : n ≤ 5) : ndOK a (x.1, n, x.2.2.1, x.2.2.2.1, ()) = true := by
  unfold ndOK at h ⊢
  rw [if_neg (by omega)] at h
  simp only [if_neg (show ¬ x.1 = 1 by omega)]
  split at h
  · rename_i hh
    rw [if_pos hh, if_pos h1]
    simp [n0, n5]
  · cases h
theorem p_l14Apart {a : List Int} {h : List TForm} {t : Tree} (hf : FT a h t) : ∀ (pre post : List TForm) (f : Int → Int) (n : Int) (at' : List Int), pre.length + h.length ≤ 100 → AtF at' f → 0 ≤ n → n + h.length ≤ 1000 → (∀ v, fvT t v = true → v ≤ 5) →
    ∃ R : List TForm, LT R (apT t f n).1 ∧ c_spec_l14Apart M (pre ++ (h ++ post)) ((pre.length : Int) + h.length - 1) n at' = some ((R, (apT t f n).2, ()), ()) ∧ n ≤ (apT t f n).2 ∧ (apT t f n).2 ≤ n + h.length ∧ R.length = h.length ∧ ((∀ v, 0 ≤ f v ∧ f v ≤ 5) → (apT t f n).2 ≤ 6 → FT a R (apT t f n).1) := by
  induction hf with
  | @leaf x h h0 =>
    intro pre post f n at' hp ha n0 n1 hv
    obtain ⟨ho, tl, tr⟩ := leaf_op h h0
    have hx := ndOK_smF h
    obtain ⟨l1, l2⟩ := isT_ge tl
    obtain ⟨r1, r2⟩ := isT_ge tr
    simp only [List.length_cons, List.length_nil] at hp ⊢
    have hL : ∀ m ∈ x.2.2.1, m < 0 → -6 ≤ m := by
      intro m hm hn
      have := hv (-1 - m) (by simp only [fvT, Bool.or_eq_true, decide_eq_true_eq]; left; rw [show -1 - (-1 - m) = m by omega]; exact hm)
      omega
    have hR : ∀ m ∈ x.2.2.2.1, m < 0 → -6 ≤ m := by
      intro m hm hn
      have := hv (-1 - m) (by simp only [fvT, Bool.or_eq_true, decide_eq_true_eq]; right; rw [show -1 - (-1 - m) = m by omega]; exact hm)
      omega
    refine ⟨[(x.1, x.2.1, x.2.2.1.map (nbr f), x.2.2.2.1.map (nbr f), ())], ?_, ?_, by rw [apT_leaf]; simp only; omega, by rw [apT_leaf]; simp only; omega, rfl, fun hf _ => by rw [apT_leaf]; exact .leaf (ndOK_leaf hf h ho) h0⟩
    · rw [apT_leaf]; exact .leaf
    · rw [show (pre.length : Int) + ((0 + 1 : Nat) : Int) - 1 = (pre.length : Int) by omega, List.singleton_append, apT_leaf]
      apply e_spec_l14Apart
      have n1' : (x.1 == 1) = true := by simp [ho]
      simp only [q_spec_l14Apart, idx_mid, Option.bind_some, form_eta, p_ownNode x hx, n1', ↓reduceIte]
      have e1 := p_apL1 n at' f ha x x.2.2.1 (by omega) hL x.2.2.1.length 0 (by omega)
      rw [show ((0 : Nat) : Int) = 0 from rfl, List.drop_zero, List.take_zero, List.map_nil, List.nil_append, form_eta] at e1
      rw [e1]
      simp only [Option.bind_some, Sum.elim_inl]
      have e2 := p_apL2 n at' f ha (x.1, x.2.1, x.2.2.1.map (nbr f), x.2.2.2.1, ()) x.2.2.2.1 (by omega) hR x.2.2.2.1.length 0 (by omega)
      rw [show ((0 : Nat) : Int) = 0 from rfl, List.drop_zero, List.take_zero, List.map_nil, List.nil_append] at e2
      simp only at e2
      rw [e2]
      simp only [Option.bind_some, Sum.elim_inl]
  | @un x g t h h1 hg ih =>
    intro pre post f n at' hp ha n0 n1 hv
    have hx := ndOK_smF h
    obtain ⟨h256, v0, v5⟩ := un_op h h1
    simp only [List.length_append, List.length_cons, List.length_nil] at hp n1 ⊢
    have n1' : (x.1 == 1) = false := by simp; omega
    by_cases h2 : x.1 = 2
    · obtain ⟨R, i1, i2, i3, i4, i5, i6⟩ := ih pre (x :: post) f n at' (by omega) ha n0 (by omega) (fun v hv' => hv v (by simp [fvT, h2, hv']))
      have n5 : (x.1 == 5) = false := by simp; omega
      have n6 : (x.1 == 6) = false := by simp; omega
      have n2 : (x.1 == 2) = true := by simp; omega
      rw [apT_not x t f n h2]
      refine ⟨R ++ [x], .un i1, ?_, i3, by omega, by simp; omega, fun hf hle => .un h h1 (i6 hf hle)⟩
      apply e_spec_l14Apart
      rw [show (pre.length : Int) + ((g.length + (0 + 1) : Nat) : Int) - 1 = ((pre ++ g).length : Int) by simp; omega, show pre ++ (g ++ [x] ++ post) = (pre ++ g) ++ x :: post by simp]
      simp only [q_spec_l14Apart, idx_mid, Option.bind_some, form_eta, p_ownNode x hx, n1', n5, n6, n2, Bool.false_eq_true, ↓reduceIte, Sum.elim_inl]
      rw [w64 (by omega) (by simp; omega), show ((pre ++ g).length : Int) - 1 = (pre.length : Int) + g.length - 1 by simp, List.append_assoc, i2]
      simp only [Option.bind_some]
      rw [if_pos (by simp; omega)]
    · have h56 : x.1 = 5 ∨ x.1 = 6 := by omega
      obtain ⟨a1, a2, a3⟩ := ha
      obtain ⟨R, i1, i2, i3, i4, i5, i6⟩ := ih pre (x :: post) (updF f x.2.1 n) (n + 1) (at'.set x.2.1.toNat n) (by omega) (AtF.upd ⟨a1, a2, a3⟩ v0 v5 n0 (by omega)) (by omega) (by omega) (fun v hv' => by
        by_cases e : v = x.2.1
        · omega
        · exact hv v (by simp [fvT, h2, hv', e]))
      rw [apT_quant x t f n h2]
      refine ⟨R ++ [(x.1, n, x.2.2.1, x.2.2.2.1, ())], .un i1, ?_, by simp only; omega, by simp only; omega, by simp; omega, fun hf hle => .un (ndOK_quant h h56 n0 (by simp only at hle; omega)) h1 (i6 (fun v => by unfold updF; split; (simp only at hle; omega); exact hf v) hle)⟩
      apply e_spec_l14Apart
      rw [show (pre.length : Int) + ((g.length + (0 + 1) : Nat) : Int) - 1 = ((pre ++ g).length : Int) by simp; omega, show pre ++ (g ++ [x] ++ post) = (pre ++ g) ++ x :: post by simp]
      have hget := a2 x.2.1 v0 v5
      rcases h56 with h5 | h6
      · have n5 : (x.1 == 5) = true := by simp; omega
        simp only [q_spec_l14Apart, idx_mid, Option.bind_some, form_eta, p_ownNode x hx, n1', n5, Bool.false_eq_true, ↓reduceIte, Sum.elim_inl, p_own' at' (by omega)]
        rw [if_pos (by omega), hget]
        simp only [Option.bind_some]
        rw [w64 (by omega) (by simp; omega), show ((pre ++ g).length : Int) - 1 = (pre.length : Int) + g.length - 1 by simp, List.append_assoc, w64 (x := n + 1) (by omega) (by omega), i2]
        simp only [Option.bind_some]
        rw [if_pos (by simp; omega)]
      · have n5 : (x.1 == 5) = false := by simp; omega
        have n6 : (x.1 == 6) = true := by simp; omega
        simp only [q_spec_l14Apart, idx_mid, Option.bind_some, form_eta, p_ownNode x hx, n1', n5, n6, Bool.false_eq_true, ↓reduceIte, Sum.elim_inl, p_own' at' (by omega)]
        rw [if_pos (by omega), hget]
        simp only [Option.bind_some]
        rw [w64 (by omega) (by simp; omega), show ((pre ++ g).length : Int) - 1 = (pre.length : Int) + g.length - 1 by simp, List.append_assoc, w64 (x := n + 1) (by omega) (by omega), i2]
        simp only [Option.bind_some]
        rw [if_pos (by simp; omega)]
  | @bin x g k t u h h2 hg hk ih1 ih2 =>
    intro pre post f n at' hp ha n0 n1 hv
    have hx := ndOK_smF h
    have h34 := bin_op h h2
    simp only [List.length_append, List.length_cons, List.length_nil] at hp n1 ⊢
    obtain ⟨R1, a1, a2, a3, a4, a5, a6⟩ := ih1 pre (k ++ x :: post) f n at' (by omega) ha n0 (by omega) (fun v hv' => hv v (by simp [fvT, hv']))
    obtain ⟨R2, b1, b2, b3, b4, b5, b6⟩ := ih2 (pre ++ g) (x :: post) f (apT t f n).2 at' (by simp; omega) ha (by omega) (by omega) (fun v hv' => hv v (by simp [fvT, hv']))
    rw [apT_bin]
    refine ⟨R1 ++ R2 ++ [x], .bin a1 b1, ?_, by simp only; omega, by simp only; omega, by simp; omega, fun hf hle => .bin h h2 (a6 hf (by simp only at hle; omega)) (b6 hf hle)⟩
    have e3 := p_l14First hk (pre ++ g) (x :: post) (by simp; omega)
    have n5 : (x.1 == 5) = false := by simp; omega
    have n6 : (x.1 == 6) = false := by simp; omega
    have n1' : (x.1 == 1) = false := by simp; omega
    have n2 : (x.1 == 2) = false := by simp; omega
    apply e_spec_l14Apart
    rw [show (pre.length : Int) + ((g.length + k.length + (0 + 1) : Nat) : Int) - 1 = (((pre ++ g) ++ k).length : Int) by simp; omega, show pre ++ (g ++ k ++ [x] ++ post) = ((pre ++ g) ++ k) ++ x :: post by simp]
    simp only [q_spec_l14Apart, idx_mid, Option.bind_some, form_eta, p_ownNode x hx, n1', n2, n5, n6, Bool.false_eq_true, ↓reduceIte, Sum.elim_inl]
    rw [w64 (by omega) (by simp; omega), show (((pre ++ g) ++ k).length : Int) - 1 = ((pre ++ g).length : Int) + k.length - 1 by simp; omega, show (((pre ++ g) ++ k).length : Int) = ((pre ++ g).length : Int) + k.length by simp; omega, List.append_assoc (pre ++ g) k, e3]
    simp only [Option.bind_some]
    rw [show ((pre ++ g).length : Int) - 1 = (pre.length : Int) + g.length - 1 by simp]
    rw [show (pre ++ g) ++ (k ++ x :: post) = pre ++ (g ++ (k ++ x :: post)) by simp, a2]
    simp only [Option.bind_some]
    rw [show pre ++ (g ++ (k ++ x :: post)) = (pre ++ g) ++ (k ++ x :: post) by simp, b2]
    simp only [Option.bind_some]
    rw [if_pos (by omega), if_pos (by simp; omega)]
end Go.Proofs.YtcjaikkdpclaaaaPu.Ev

/- Plain laws: a term with other variables has the same value where the assignment goes along; so has a formula that is set apart. No condition. -/
namespace Go.Proofs.YtcjaikkdpclaaaaPu.Ev
open Go
set_option autoImplicit false
set_option linter.unusedVariables false
set_option linter.unusedSimpArgs false

theorem EV_uniq {a : List Int} {w : TWorld} {env u : List Int} (hl : u.length ≤ 1000) {b c : Int} (h : EV a w env u b) (k : EV a w env u c) : b = c := by
  have e1 := h.2.2.1 u [] 0 hl (by simp)
  have e2 := k.2.2.1 u [] 0 hl (by simp)
  rw [e1] at e2
  simpa using e2
theorem vb_eq {a : List Int} {w : TWorld} {env u : List Int} (hl : u.length ≤ 1000) {b : Int} (h : EV a w env u b) : vb a w env u = b := EV_uniq hl (vb_ok ⟨b, h⟩) h
theorem fa_congr {a : List Int} {w : TWorld} {env env' : List Int} (g : List Int → List Int) : ∀ (us : List (List Int)) (acc : Int), (∀ u ∈ us, vb a w env' (g u) = vb a w env u) → fa a w env' acc (us.map g) = fa a w env acc us := by
  intro us
  induction us with
  | nil => intro acc _; rfl
  | cons u r ih =>
    intro acc h
    simp only [List.map_cons, fa]
    rw [h u (by simp), ih _ (fun v hv => h v (by simp [hv]))]
/-- The assignments go along for the variables of a term. -/
def Along (f : Int → Int) (env env' u : List Int) : Prop := ∀ n ∈ u, n < 0 → env'[(f (-1 - n)).toNat]? = env[(-1 - n).toNat]?
theorem Tm_nbr {a : List Int} {f : Int → Int} (hf : ∀ v, 0 ≤ f v ∧ f v ≤ 5) {u : List Int} (h : Tm a u) (hv : ∀ n ∈ u, -12 ≤ n) : Tm a (u.map (nbr f)) := by
  show sE a 1 (u.map (nbr f)) = some []
  rw [sE_nbr hf u 1 hv, show sE a 1 u = some [] from h]; rfl
theorem vb_nbr {a : List Int} (hg : gS a = true) {w : TWorld} (hw : wOK a w = true) {f : Int → Int} (hf : ∀ v, 0 ≤ f v ∧ f v ≤ 5) {env env' : List Int} (he : envOK w.1 env = true) (he' : envOK w.1 env' = true) :
    ∀ (N : Nat) (u : List Int), u.length ≤ N → N ≤ 1000 → Tm a u → (∀ n ∈ u, -12 ≤ n) → Along f env env' u → vb a w env' (u.map (nbr f)) = vb a w env u := by
  intro N
  induction N with
  | zero => intro u hu _ h; have := h.pos; omega
  | succ N ih =>
    intro u hu hN h hv hal
    obtain ⟨n, us, rfl, hb, hl, hk⟩ := h.parts hg
    simp only [List.length_cons] at hu
    have hn12 := hv n (by simp)
    by_cases h0 : n < 0
    · have h4 : ar a n = 0 := by simp [ar, h0]
      obtain rfl : us = [] := List.eq_nil_of_length_eq_zero (by omega)
      simp only [List.flatten_nil, List.map_cons, List.map_nil]
      obtain ⟨v, v1, v2, v3⟩ := envOK_get he (-1 - n).toNat (by omega)
      have e : nbr f n = -1 - f (-1 - n) := by unfold nbr; rw [if_pos h0]
      have hfb := hf (-1 - n)
      have hb2 : ¬ badN a (nbr f n) := by unfold badN; rw [e]; omega
      have a1 := hal n (by simp) h0
      rw [v1] at a1
      have k1 := EV_var (a := a) (w := w) h0 hb v1 v2 v3
      have k2 := EV_var (a := a) (w := w) (n := nbr f n) (by omega) hb2 (env := env') (v := v) (by rw [e, show -1 - (-1 - f (-1 - n)) = f (-1 - n) by omega]; exact a1) v2 v3
      rw [vb_eq (by simp) k1, vb_eq (by simp) k2]
    · have e : nbr f n = n := by unfold nbr; rw [if_neg h0]
      have hsub : ∀ u ∈ us, ∀ m ∈ u, m ∈ n :: us.flatten := fun u hu m hm => by
        rw [List.mem_cons]; right; exact List.mem_flatten.2 ⟨u, hu, hm⟩
      have hlen : ∀ u ∈ us, u.length ≤ us.flatten.length := fun u hu => (List.sublist_flatten_of_mem hu).length_le
      have hkid : ∀ u ∈ us, vb a w env' (u.map (nbr f)) = vb a w env u := fun u hu' => ih u (by have := hlen u hu'; omega) (by omega) (hk u hu') (fun m hm => hv m (hsub u hu' m hm)) (fun m hm hm0 => hal m (hsub u hu' m hm) hm0)
      obtain ⟨b, b1, b2⟩ := EV_fun hg hw (env := env) h0 hb hl hk (by omega) (fun u hu' => vb_ok (EV_all hg hw he 1000 u (by have := hlen u hu'; omega) (by omega) (hk u hu')))
      have hk' : ∀ v ∈ us.map (List.map (nbr f)), Tm a v := by
        intro v hv'
        obtain ⟨u, hu', rfl⟩ := List.mem_map.1 hv'
        exact Tm_nbr hf (hk u hu') (fun m hm => hv m (hsub u hu' m hm))
      have hfl : (us.map (List.map (nbr f))).flatten = us.flatten.map (nbr f) := by rw [List.map_flatten]
      obtain ⟨c, c1, c2⟩ := EV_fun hg hw (env := env') (us := us.map (List.map (nbr f))) h0 hb (by rw [List.length_map]; exact hl) hk' (by rw [hfl, List.length_map]; omega) (fun v hv' => by
        have hv2 := hk' v hv'
        obtain ⟨u, hu', rfl⟩ := List.mem_map.1 hv'
        exact vb_ok (EV_all hg hw he' 1000 _ (by rw [List.length_map]; have := hlen u hu'; omega) (by omega) hv2))
      rw [fa_congr (List.map (nbr f)) us 0 hkid, b1] at c1
      obtain rfl := Option.some.inj c1
      rw [hfl] at c2
      rw [List.map_cons, e, vb_eq (by simp only [List.length_cons]; omega) b2, vb_eq (by simp only [List.length_cons, List.length_map]; omega) c2]
theorem val_nbr {a : List Int} (hg : gS a = true) {w : TWorld} (hw : wOK a w = true) {f : Int → Int} (hf : ∀ v, 0 ≤ f v ∧ f v ≤ 5) {env env' : List Int} (he : envOK w.1 env = true) (he' : envOK w.1 env' = true) {u : List Int} (hu : isB a u = true) (hal : Along f env env' u) :
    val (a, ()) w env' (u.map (nbr f)) = val (a, ()) w env u := by
  have hu2 := isB_nbr hf hu
  simp only [isB, isT, Bool.and_eq_true, decide_eq_true_eq, List.all_eq_true] at hu hu2
  have key : ∀ {env u : List Int}, envOK w.1 env = true → u.length ≤ 40 → Tm a u → val (a, ()) w env u = vb a w env u := by
    intro env u he h1 h2
    have k := vb_ok (EV_all hg hw he 40 u h1 (by omega) h2)
    have h3 := k.2.2.1 u [] 0 (by omega) (by simp)
    rw [show ((0 : Nat) : Int) = 0 from rfl] at h3
    unfold val
    rw [e_impl_Sign_value (r := ((vb a w env u, ()), ())) (a, ()) w u env (by simp only [q_impl_Sign_value, world_eta, h3, Option.bind_some])]
  rw [key he' hu2.1.1 hu2.1.2, key he hu.1.1 hu.1.2]
  exact vb_nbr hg hw hf he he' 1000 u (by omega) (by omega) hu.1.2 (fun n hn => by have := hu.2 n hn; omega) hal
end Go.Proofs.YtcjaikkdpclaaaaPu.Ev

/- Plain laws: a formula that is set apart holds as the formula does. No condition. -/
namespace Go.Proofs.YtcjaikkdpclaaaaPu.Ev
open Go
set_option autoImplicit false
set_option linter.unusedVariables false
set_option linter.unusedSimpArgs false

theorem envOK_len' {S : Int} {e : List Int} (h : envOK S e = true) : e.length = 12 := by
  simp only [envOK, Bool.and_eq_true, decide_eq_true_eq] at h; exact h.1
theorem apT_mono {a : List Int} {h : List TForm} {t : Tree} (hf : FT a h t) : ∀ (f : Int → Int) (n : Int), n ≤ (apT t f n).2 := by
  induction hf with
  | @leaf x h h0 => intro f n; rw [apT_leaf]; simp
  | @un x g t h h1 hg ih =>
    intro f n
    by_cases h2 : x.1 = 2
    · rw [apT_not x t f n h2]; exact ih f n
    · rw [apT_quant x t f n h2]
      have := ih (updF f x.2.1 n) (n + 1)
      simp only; omega
  | @bin x g k t u h h2 hg hk ih1 ih2 =>
    intro f n
    rw [apT_bin]
    have := ih1 f n
    have := ih2 f (apT t f n).2
    simp only; omega
theorem qH_congr_b {f g : Int → Bool} (al : Bool) : ∀ (k : Nat) (i : Int), (∀ j, i ≤ j → j < i + k → f j = g j) → qH f al k i = qH g al k i := by
  intro k
  induction k with
  | zero => intro i _; rfl
  | succ k ih =>
    intro i h
    simp only [qH]
    rw [h i (by omega) (by omega), ih (i + 1) (fun j a b => h j (by omega) (by omega))]
theorem hT_ap {a : List Int} (hg : gS a = true) {w : TWorld} (hw : wOK a w = true) {h : List TForm} {t : Tree} (hf : FT a h t) : ∀ (f : Int → Int) (n : Int) (env env' : List Int), envOK w.1 env = true → envOK w.1 env' = true → (∀ v, 0 ≤ f v ∧ f v ≤ 5) → 0 ≤ n → (apT t f n).2 ≤ 6 →
    (∀ v, 0 ≤ v → fvT t v = true → f v < n ∧ env'[(f v).toNat]? = env[v.toNat]?) → hT (a, ()) w (apT t f n).1 env' = hT (a, ()) w t env := by
  obtain ⟨w1, w3, _, _⟩ := wOK_parts hw
  induction hf with
  | @leaf x h h0 =>
    intro f n env env' he he' hf n0 hn hv
    obtain ⟨ho, _⟩ := leaf_op h h0
    have hb := h
    unfold ndOK at hb
    rw [if_pos ho] at hb
    simp only [Bool.and_eq_true] at hb
    rw [apT_leaf]
    have al : ∀ u : List Int, (∀ m ∈ u, m ∈ x.2.2.1 ∨ m ∈ x.2.2.2.1) → Along f env env' u := by
      intro u hu m hm hm0
      refine (hv (-1 - m) (by omega) ?_).2
      simp only [fvT, Bool.or_eq_true, decide_eq_true_eq]
      rw [show -1 - (-1 - m) = m by omega]
      exact hu m hm
    show (val (a, ()) w env' (x.2.2.1.map (nbr f)) == val (a, ()) w env' (x.2.2.2.1.map (nbr f))) = (val (a, ()) w env x.2.2.1 == val (a, ()) w env x.2.2.2.1)
    rw [val_nbr hg hw hf he he' hb.2.1 (al _ (fun m hm => .inl hm)), val_nbr hg hw hf he he' hb.2.2 (al _ (fun m hm => .inr hm))]
  | @un x g t h h1 hgt ih =>
    intro f n env env' he he' hf n0 hn hv
    obtain ⟨h256, v0, v5⟩ := un_op h h1
    by_cases h2 : x.1 = 2
    · rw [apT_not x t f n h2] at hn ⊢
      rw [hT_not _ _ _ _ _ h2, hT_not _ _ _ _ _ h2, ih f n env env' he he' hf n0 hn (fun v hv0 hvt => hv v hv0 (by simp [fvT, h2, hvt]))]
    · have hm := apT_mono hgt (updF f x.2.1 n) (n + 1)
      rw [apT_quant x t f n h2] at hn ⊢
      simp only at hn
      have e12 := envOK_len' he
      have e12' := envOK_len' he'
      rw [hT_quant _ _ (x.1, n, x.2.2.1, x.2.2.2.1, ()) _ _ h2, hT_quant _ _ x _ _ h2]
      refine qH_congr_b _ _ _ (fun i i0 i1 => ?_)
      refine ih (updF f x.2.1 n) (n + 1) (env.set x.2.1.toNat i) (env'.set n.toNat i) (envOK_set he _ _ i0 (by omega)) (envOK_set he' _ _ i0 (by omega)) (fun v => by unfold updF; split; omega; exact hf v) (by omega) hn (fun v hv0 hvt => ?_)
      unfold updF
      by_cases e : v = x.2.1
      · rw [if_pos e, e]
        exact ⟨by omega, by rw [List.getElem?_set_self (by omega), List.getElem?_set_self (by omega)]⟩
      · rw [if_neg e]
        obtain ⟨q1, q2⟩ := hv v hv0 (by simp [fvT, h2, hvt, e])
        have := hf v
        exact ⟨by omega, by rw [List.getElem?_set_ne (by omega), List.getElem?_set_ne (by omega)]; exact q2⟩
  | @bin x g k t u h h2 hgt hkt ih1 ih2 =>
    intro f n env env' he he' hf n0 hn hv
    have m1 := apT_mono hgt f n
    have m2 := apT_mono hkt f (apT t f n).2
    rw [apT_bin] at hn ⊢
    simp only at hn
    rw [hT_bin, hT_bin, ih1 f n env env' he he' hf n0 (by omega) (fun v hv0 hvt => hv v hv0 (by simp [fvT, hvt])),
      ih2 f (apT t f n).2 env env' he he' hf (by omega) hn (fun v hv0 hvt => by
        obtain ⟨q1, q2⟩ := hv v hv0 (by simp [fvT, hvt])
        exact ⟨by omega, q2⟩)]
end Go.Proofs.YtcjaikkdpclaaaaPu.Ev

/- Plain laws: truth, free variables and form of what is pushed, as the program tells them. No condition. -/
namespace Go.Proofs.YtcjaikkdpclaaaaPu.Ev
open Go
set_option autoImplicit false
set_option linter.unusedVariables false
set_option linter.unusedSimpArgs false

/-- A valid formula's tree, as the program makes it. -/
theorem p_formulaT (s : TSign) (hs : s.1.length ≤ 1048576) (f : List TForm) (hb : (gS s.1 && fOK s.1 f) = true) : ∃ t, c_impl_formula M s f = some ((t, true, ()), ()) ∧ FT s.1 f t := by
  obtain ⟨t, h1, h2⟩ := p_formula s hs f
  exact ⟨t, by rw [h1, hb], gT_FT (h2 hb)⟩
theorem FT.uniq {a : List Int} {f : List TForm} {t u : Tree} (h : FT a f t) (k : FT a f u) : t = u := by
  have h1 := h.gts' [] [] 
  have k1 := k.gts' [] []
  rw [h1] at k1
  simpa [gT] using k1
theorem p_HoldsT (s : TSign) (hs : s.1.length ≤ 1048576) (w : TWorld) (hwl : w.2.1.length ≤ 1048576) (hwx : ∀ y ∈ w.2.1, smS y) (hw : wOK s.1 w = true) (env : List Int) (he : envOK w.1 env = true) (f : List TForm) (hb : (gS s.1 && fOK s.1 f) = true) {t : Tree} (hf : FT s.1 f t) :
    c_impl_HoldsForm M s w f env = some ((hT s w t env, true, ()), ()) := by
  obtain ⟨u, h1, h2⟩ := p_formulaT s hs f hb
  obtain rfl := hf.uniq h2
  have hg : gS s.1 = true := by simp only [Bool.and_eq_true] at hb; exact hb.1
  have hh := p_holdsT hg hw hf env he
  rw [sign_eta'] at hh
  apply e_impl_HoldsForm
  simp only [q_impl_HoldsForm, sign_eta', world_eta, h1, Option.bind_some]
  rw [if_neg (by simp), p_isWorld s hg w hwl hwx, hw]
  simp only [Option.bind_some]
  rw [if_neg (by simp), p_isEnv, he]
  simp only [Option.bind_some]
  rw [if_neg (by simp), hh]
  rfl
theorem p_FreeInT (s : TSign) (hs : s.1.length ≤ 1048576) (f : List TForm) (hb : (gS s.1 && fOK s.1 f) = true) {t : Tree} (hf : FT s.1 f t) :
    ∃ L : List Int, c_impl_FreeIn M s f = some ((L, true, ()), ()) ∧ L.length ≤ 12 ∧ Up L ∧ ∀ v, v ∈ L ↔ 0 ≤ v ∧ fvT t v = true := by
  obtain ⟨u, h1, h2⟩ := p_formulaT s hs f hb
  obtain rfl := hf.uniq h2
  have h15 : f.length ≤ 15 := by simp only [Bool.and_eq_true, fOK, decide_eq_true_eq] at hb; exact hb.2.1
  obtain ⟨L, u1, u2, u3, _, u5⟩ := p_freeX hf
  obtain ⟨L', v1, v2, v3, v4⟩ := p_freeIn hf (by omega)
  have e := u3 [] [] (by simpa using (by omega : f.length ≤ 100))
  simp only [List.nil_append, List.append_nil, List.length_nil, Int.natCast_zero, Int.zero_add] at e
  obtain rfl : L' = L := by
    rw [v3] at e
    simpa using e
  refine ⟨L', e_impl_FreeIn _ _ ?_, u1.len12 u2, u1, u5⟩
  simp only [q_impl_FreeIn, sign_eta', h1, Option.bind_some]
  rw [if_neg (by simp), v4]
  rfl
end Go.Proofs.YtcjaikkdpclaaaaPu.Ev

/- Plain laws: the world and the assignment that the laws make of bytes are valid. No condition but that bytes are bytes. -/
namespace Go.Proofs.YtcjaikkdpclaaaaPu.Ev
open Go
set_option autoImplicit false
set_option linter.unusedVariables false
set_option linter.unusedSimpArgs false

theorem u64_rng (z : Int) : 0 ≤ IntKind.u64.wrap z ∧ IntKind.u64.wrap z < 18446744073709551616 := by
  have : IntKind.u64.wrap z = z % 18446744073709551616 := by simp [IntKind.wrap, IntKind.bits, IntKind.signed]
  rw [this]; omega
theorem shr_rng (z : Int) : 0 ≤ shrI .u64 (IntKind.u64.wrap z) 40 ∧ shrI .u64 (IntKind.u64.wrap z) 40 ≤ 16777216 := by
  obtain ⟨h1, h2⟩ := u64_rng z
  have e : shrI .u64 (IntKind.u64.wrap z) 40 = (IntKind.u64.wrap z).fdiv 1099511627776 := rfl
  rw [e, Int.fdiv_eq_ediv_of_nonneg _ (by omega)]
  omega
/-- A drawn number below a size. -/
theorem rnd_rng {S : Int} (h1 : 1 ≤ S) (z : Int) : 0 ≤ Int.tmod (IntKind.i64.wrap (shrI .u64 (IntKind.u64.wrap z) 40)) S ∧ Int.tmod (IntKind.i64.wrap (shrI .u64 (IntKind.u64.wrap z) 40)) S < S := by
  obtain ⟨h2, h3⟩ := shr_rng z
  rw [w64 (by omega) (by omega)]
  exact ⟨Int.tmod_nonneg _ h2, Int.tmod_lt_of_pos _ (by omega)⟩
theorem p_numberOf_loop (b : List Int) (hb : isBytes b) : ∀ (k i : Nat) (n : Int), i + k = b.length → 0 ≤ n → n ≤ 1000002 → ∃ r, l_laws_numberOf_58 M n b b.length i = some (.inl (r, ())) ∧ 0 ≤ r ∧ r ≤ 1000002 := by
  obtain ⟨hl, hx⟩ := hb
  intro k
  induction k with
  | zero =>
    intro i n hi n0 n1
    refine ⟨n, el_laws_numberOf_58 _ _ _ _ ?_, n0, n1⟩
    simp only [ql_laws_numberOf_58]
    rw [if_neg (by simp; omega)]
  | succ k ih =>
    intro i n hi n0 n1
    have h1 : i < b.length := by omega
    have hxi := hx _ (List.getElem_mem h1)
    have t0 := Int.tmod_nonneg (1000003 : Int) (show 0 ≤ 31 * n + b[i] by omega)
    have t1 := Int.tmod_lt_of_pos (31 * n + b[i]) (show (0 : Int) < 1000003 by omega)
    obtain ⟨r, r1, r2, r3⟩ := ih (i + 1) (Int.tmod (31 * n + b[i]) 1000003) (by omega) t0 (by omega)
    refine ⟨r, el_laws_numberOf_58 _ _ _ _ ?_, r2, r3⟩
    simp only [ql_laws_numberOf_58]
    rw [if_pos (by simp; omega), idx_lt h1]
    simp only [Option.bind_some]
    rw [if_neg (by omega), w64 (x := 31 * n) (by omega) (by omega), w64 (x := b[i]) (by omega) (by omega), w64 (x := 31 * n + b[i]) (by omega) (by omega), inc_nat (by omega)]
    exact r1
theorem p_numberOf (b : List Int) (hb : isBytes b) : ∃ r, c_laws_numberOf M b = some ((r, ()), ()) := by
  obtain ⟨r, r1, _⟩ := p_numberOf_loop b hb b.length 0 0 (by omega) (by omega) (by omega)
  rw [show ((0 : Nat) : Int) = 0 from rfl] at r1
  refine ⟨r, e_laws_numberOf _ ?_⟩
  simp only [q_laws_numberOf, r1, Option.bind_some, Sum.elim_inl]
theorem p_envOf_loop (w : TWorld) (h1 : 1 ≤ w.1) : ∀ (k i : Nat) (x : Int) (o : List Int), i + k = 12 → o.length = i → elOK w.1 o = true → ∃ e, l_laws_envOf_122 M w x o i = some (.inl (e, ())) ∧ envOK w.1 e = true := by
  intro k
  induction k with
  | zero =>
    intro i x o hi ho hx
    refine ⟨o, el_laws_envOf_122 _ _ _ _ ?_, by simp only [envOK, Bool.and_eq_true, decide_eq_true_eq]; exact ⟨by omega, hx⟩⟩
    simp only [ql_laws_envOf_122]
    rw [if_neg (by simp; omega)]
  | succ k ih =>
    intro i x o hi ho hx
    obtain ⟨t0, t1⟩ := rnd_rng h1 ((IntKind.u64.wrap (x * (6364136223846793005 : Int))) + (1442695040888963407 : Int))
    obtain ⟨e, e1, e2⟩ := ih (i + 1) (IntKind.u64.wrap ((IntKind.u64.wrap (x * (6364136223846793005 : Int))) + (1442695040888963407 : Int))) (o ++ [Int.tmod (IntKind.i64.wrap (shrI .u64 (IntKind.u64.wrap ((IntKind.u64.wrap (x * (6364136223846793005 : Int))) + (1442695040888963407 : Int))) (40 : Int))) w.1]) (by omega) (by simp [ho]) (by
      simp only [elOK, List.all_append, Bool.and_eq_true] at hx ⊢
      refine ⟨hx, ?_⟩
      simp only [List.all_cons, List.all_nil, Bool.and_true, Bool.and_eq_true, decide_eq_true_eq]
      exact ⟨t0, t1⟩)
    refine ⟨e, el_laws_envOf_122 _ _ _ _ ?_, e2⟩
    simp only [ql_laws_envOf_122]
    rw [if_pos (by simp; omega), if_neg (by omega), if_neg (by omega), if_pos (by simp; omega), inc_nat (by omega)]
    exact e1
theorem p_envOf (w : TWorld) (h1 : 1 ≤ w.1) (b : List Int) (hb : isBytes b) : ∃ e, c_laws_envOf M w b = some ((e, ()), ()) ∧ envOK w.1 e = true := by
  obtain ⟨r, r1⟩ := p_numberOf b hb
  obtain ⟨e, e1, e2⟩ := p_envOf_loop w h1 12 0 (IntKind.u64.wrap ((IntKind.u64.wrap r) + (3 : Int))) [] (by omega) rfl rfl
  rw [show ((0 : Nat) : Int) = 0 from rfl] at e1
  refine ⟨e, e_laws_envOf _ _ ?_, e2⟩
  simp only [q_laws_envOf, r1, Option.bind_some, world_eta, e1, Sum.elim_inl]
theorem p_wo_pow (w0 w1 : TWorld) (h1 : 1 ≤ w1.1) (x : Int) (ar : List Int) (L i : Int) : ∀ (k : Nat) (n : Int), 0 ≤ n → n * pw w1.1 k ≤ 1000000 → k ≤ 1000 → l_laws_worldOf_62668 M w0 x w1 (k : Int) n ar L i = some (.inl (w0, x, w1, n * pw w1.1 k, ar, L, i, ())) := by
  intro k
  induction k with
  | zero =>
    intro n _ _ _
    apply el_laws_worldOf_62668
    simp only [ql_laws_worldOf_62668]
    rw [if_neg (by simp)]
    simp [pw, world_eta]
  | succ k ih =>
    intro n n0 hb hk
    obtain ⟨m1, m2, m3⟩ := mul_step h1 n0 hb
    apply el_laws_worldOf_62668
    simp only [ql_laws_worldOf_62668]
    rw [if_pos (by simp <;> omega), w64 (x := n * w1.1) (by omega) (by omega), w64 (x := ((k + 1 : Nat) : Int) - 1) (by omega) (by omega), show ((k + 1 : Nat) : Int) - 1 = (k : Int) by omega, world_eta, world_eta, ih _ m1 m3 (by omega)]
    rw [Int.mul_assoc]
    rfl
theorem p_wo_tab (w0 w1 : TWorld) (h1 : 1 ≤ w1.1) (ar : List Int) (L i : Int) : ∀ (k : Nat) (x : Int) (t : List Int), t.length + k ≤ 1000 → elOK w1.1 t = true → ∃ (x' : Int) (t' : List Int), l_laws_worldOf_250684 M w0 x w1 (k : Int) t ar L i = some (.inl (w0, x', w1, t', ar, L, i, ())) ∧ t'.length = t.length + k ∧ elOK w1.1 t' = true := by
  intro k
  induction k with
  | zero =>
    intro x t _ he
    refine ⟨x, t, el_laws_worldOf_250684 _ _ _ _ _ _ _ _ ?_, rfl, he⟩
    simp only [ql_laws_worldOf_250684]
    rw [if_neg (by simp)]
    all_goals rfl
  | succ k ih =>
    intro x t ht he
    obtain ⟨t0, t1⟩ := rnd_rng h1 ((IntKind.u64.wrap (x * (6364136223846793005 : Int))) + (1442695040888963407 : Int))
    obtain ⟨x', t', e1, e2, e3⟩ := ih (IntKind.u64.wrap ((IntKind.u64.wrap (x * (6364136223846793005 : Int))) + (1442695040888963407 : Int))) (t ++ [Int.tmod (IntKind.i64.wrap (shrI .u64 (IntKind.u64.wrap ((IntKind.u64.wrap (x * (6364136223846793005 : Int))) + (1442695040888963407 : Int))) (40 : Int))) w1.1]) (by simp; omega) (by
      simp only [elOK, List.all_append, Bool.and_eq_true] at he ⊢
      refine ⟨he, ?_⟩
      simp only [List.all_cons, List.all_nil, Bool.and_true, Bool.and_eq_true, decide_eq_true_eq]
      exact ⟨t0, t1⟩)
    refine ⟨x', t', el_laws_worldOf_250684 _ _ _ _ _ _ _ _ ?_, by rw [e2]; simp; omega, e3⟩
    simp only [ql_laws_worldOf_250684]
    rw [if_pos (by simp <;> omega), if_neg (by omega), if_neg (by omega), if_pos (by simp; omega), w64 (x := ((k + 1 : Nat) : Int) - 1) (by omega) (by omega), show ((k + 1 : Nat) : Int) - 1 = (k : Int) by omega]
    exact e1
theorem p_wo_loop (w0 : TWorld) (S : Int) (h1 : 1 ≤ S) (h3 : S ≤ 3) (ar : List Int) (hl : ar.length ≤ 10) (hx : ∀ x ∈ ar, 0 ≤ x ∧ x ≤ 3) : ∀ (k i : Nat) (x : Int) (o : List (List Int)), i + k = ar.length → o.length = i →
    ∃ ts : List (List Int), l_laws_worldOf_122 M w0 x (S, o, ()) ar ar.length i = some (.inl (w0, (S, o ++ ts, ()), ())) ∧ ts.length = k ∧ tabOK S (ar.drop i) ts = true ∧ ∀ y ∈ ts, smS y := by
  intro k
  induction k with
  | zero =>
    intro i x o hi ho
    obtain rfl : i = ar.length := by omega
    refine ⟨[], el_laws_worldOf_122 _ _ _ _ _ _ ?_, rfl, by simp [tabOK], by simp⟩
    simp only [ql_laws_worldOf_122]
    rw [if_neg (by simp), List.append_nil]
    all_goals rfl
  | succ k ih =>
    intro i x o hi ho
    have hi1 : i < ar.length := by omega
    have hxa := hx _ (List.getElem_mem hi1)
    obtain ⟨n, hn⟩ : ∃ n : Nat, ar[i] = (n : Int) := ⟨ar[i].toNat, by omega⟩
    have hp := pw_le h1 h3 (k := n) (by omega)
    have hp0 := pw_pos h1 n
    have e1 := p_wo_pow w0 (S, o, ()) h1 x ar ar.length i n 1 (by omega) (by rw [Int.one_mul]; show pw S n ≤ 1000000; omega) (by omega)
    rw [Int.one_mul] at e1
    obtain ⟨m, hm⟩ : ∃ m : Nat, pw S n = (m : Int) := ⟨(pw S n).toNat, by omega⟩
    obtain ⟨x', t', q1, q2, q3⟩ := p_wo_tab w0 (S, o, ()) h1 ar ar.length i m x [] (by simp; omega) rfl
    obtain ⟨ts, r1, r2, r3, r4⟩ := ih (i + 1) x' (o ++ [t']) (by omega) (by simp [ho])
    simp only [List.length_nil, Nat.zero_add] at q2
    refine ⟨t' :: ts, el_laws_worldOf_122 _ _ _ _ _ _ ?_, by simp [r2], ?_, ?_⟩
    · simp only [ql_laws_worldOf_122]
      rw [if_pos (by simp; omega), idx_lt hi1]
      simp only [Option.bind_some, world_eta, hn]
      rw [e1]
      simp only [Option.bind_some, Sum.elim_inl]
      rw [hm, q1]
      simp only [Option.bind_some, Sum.elim_inl]
      rw [if_pos (by simp; omega), inc_nat (by omega), r1, List.append_assoc]
      rfl
    · rw [List.drop_eq_getElem_cons hi1]
      simp only [tabOK, Bool.and_eq_true, decide_eq_true_eq]
      exact ⟨by rw [q2, hn, Int.toNat_natCast, hm], q3, r3⟩
    · intro y hy
      rcases List.mem_cons.1 hy with rfl | hy
      · unfold smS; rw [q2]; omega
      · exact r4 y hy
theorem p_worldOf (s : TSign) (hg : gS s.1 = true) (b : List Int) (hb : isBytes b) : ∃ w : TWorld, c_laws_worldOf M s b = some ((w, ()), ()) ∧ wOK s.1 w = true ∧ w.2.1.length ≤ 10 ∧ ∀ y ∈ w.2.1, smS y := by
  obtain ⟨s10, sx⟩ := gS_all hg
  obtain ⟨r, r1⟩ := p_numberOf b hb
  have u1 := u64_rng ((IntKind.u64.wrap r) + (7 : Int))
  have t0 := Int.tmod_nonneg (3 : Int) u1.1
  have t1 := Int.tmod_lt_of_pos (IntKind.u64.wrap ((IntKind.u64.wrap r) + (7 : Int))) (show (0 : Int) < 3 by omega)
  obtain ⟨ts, q1, q2, q3, q4⟩ := p_wo_loop (0, [], ()) (1 + Int.tmod (IntKind.u64.wrap ((IntKind.u64.wrap r) + (7 : Int))) 3) (by omega) (by omega) s.1 s10 sx s.1.length 0 (IntKind.u64.wrap ((IntKind.u64.wrap r) + (7 : Int))) [] (by omega) rfl
  rw [show ((0 : Nat) : Int) = 0 from rfl] at q1
  refine ⟨(1 + Int.tmod (IntKind.u64.wrap ((IntKind.u64.wrap r) + (7 : Int))) 3, ts, ()), e_laws_worldOf _ _ ?_, ?_, by simp only; omega, q4⟩
  · simp only [q_laws_worldOf, r1, Option.bind_some]
    rw [if_neg (by omega), w64 (x := Int.tmod (IntKind.u64.wrap ((IntKind.u64.wrap r) + (7 : Int))) 3) (by omega) (by omega), w64 (by omega) (by omega), q1]
    rfl
  · simp only [wOK, Bool.and_eq_true, decide_eq_true_eq]
    exact ⟨by omega, by omega, q2, by simpa using q3⟩
end Go.Proofs.YtcjaikkdpclaaaaPu.Ev

/- Plain laws: a formula set apart, by the reference. No condition but sizes. -/
namespace Go.Proofs.YtcjaikkdpclaaaaPu.Ev
open Go
set_option autoImplicit false
set_option linter.unusedVariables false
set_option linter.unusedSimpArgs false

theorem FT.fOK' {a : List Int} {h : List TForm} {t : Tree} (hf : FT a h t) (hl : h.length ≤ 15) : fOK a h = true := by
  have h1 := hf.gts' [] []
  rw [List.append_nil, List.nil_append] at h1
  have h2 := gT_gF a h []
  rw [h1] at h2
  simp only [gT, List.length_nil, List.length_cons] at h2
  simp only [fOK, Bool.and_eq_true, decide_eq_true_eq]
  exact ⟨hl, by rw [h2]; rfl⟩
theorem fv5 {a : List Int} {h : List TForm} {t : Tree} (hf : FT a h t) : ∀ v, fvT t v = true → v ≤ 5 := by
  induction hf with
  | @leaf x h h0 =>
    intro v hv
    have h1 := (leaf_op h h0).1
    unfold ndOK at h
    rw [if_pos h1] at h
    simp only [isB, Bool.and_eq_true, List.all_eq_true, decide_eq_true_eq] at h
    simp only [fvT, Bool.or_eq_true, decide_eq_true_eq] at hv
    rcases hv with hv | hv
    · have := h.2.1.2 _ hv; omega
    · have := h.2.2.2 _ hv; omega
  | @un x g t h h1 hg ih =>
    intro v hv
    simp only [fvT] at hv
    split at hv
    · exact ih v hv
    · simp only [Bool.and_eq_true] at hv; exact ih v hv.1
  | @bin x g k t u h h2 hg hk ih1 ih2 =>
    intro v hv
    simp only [fvT, Bool.or_eq_true] at hv
    rcases hv with hv | hv
    · exact ih1 v hv
    · exact ih2 v hv
theorem at0 : AtF (List.replicate (Int.toNat 6) (0 : Int)) (fun _ => 0) := by
  refine ⟨rfl, fun v v0 v5 => ?_, fun _ => ⟨by show (-1000000 : Int) ≤ 0; decide, by show (0 : Int) ≤ 1000000; decide⟩⟩
  rw [List.getElem?_replicate, if_pos (by simp; omega)]
/-- What the reference answers of a valid formula. -/
theorem p_spec_Apart (s : TSign) (hs : s.1.length ≤ 1048576) (f : List TForm) (hl : f.length ≤ 1048576) (hx : ∀ x ∈ f, smF x) (hb : (gS s.1 && fOK s.1 f) = true) {t : Tree} (hf : FT s.1 f t) :
    ∃ (L : List Int) (R : List TForm), c_impl_tree_freeIn M t = some ((L, ()), ()) ∧ LT R (apT t (fun _ => 0) 0).1 ∧ R.length ≤ 15 ∧ ((apT t (fun _ => 0) 0).2 ≤ 6 → FT s.1 R (apT t (fun _ => 0) 0).1) ∧
      c_spec_ApartForm M s f = some (if L.length = 0 ∧ (apT t (fun _ => 0) 0).2 ≤ 6 then ((R, true, ()), ()) else (([], false, ()), ())) := by
  have hb' := hb
  simp only [Bool.and_eq_true, fOK, decide_eq_true_eq] at hb'
  obtain ⟨hg, h15, _⟩ := hb'
  obtain ⟨L, u1, u2, u3, _, u5⟩ := p_freeX hf
  obtain ⟨L', v1, v2, v3, v4⟩ := p_freeIn hf (by omega)
  have e := u3 [] [] (by simpa using (by omega : f.length ≤ 100))
  simp only [List.nil_append, List.append_nil, List.length_nil, Int.natCast_zero, Int.zero_add] at e
  obtain rfl : L' = L := by
    rw [v3] at e
    simpa using e
  have h6 : ∀ v, fvT t v = true → L'.length = 0 → v ≤ 5 := by
    intro v hv h0
    by_cases hn : 0 ≤ v
    · have := (u5 v).2 ⟨hn, hv⟩
      rw [List.eq_nil_of_length_eq_zero h0] at this
      cases this
    · omega
  have hspec := p_spec_GoodForm s hs f hl hx
  rw [hb] at hspec
  by_cases hL : L'.length = 0
  · obtain ⟨R, i1, i2, i3, i4, i5, i6⟩ := p_l14Apart hf [] [] (fun _ => 0) 0 _ (by simp; omega) at0 (by omega) (by omega) (fun v hv => h6 v hv hL)
    simp only [List.nil_append, List.append_nil, List.length_nil, Int.natCast_zero, Int.zero_add] at i2
    refine ⟨L', R, v4, i1, by omega, i6 (fun _ => ⟨by show (0 : Int) ≤ 0; decide, by show (0 : Int) ≤ 5; decide⟩), e_spec_ApartForm _ _ ?_⟩
    simp only [q_spec_ApartForm, sign_eta', hspec, Option.bind_some]
    rw [if_neg (by simp), w64 (by omega) (by omega), v3]
    simp only [Option.bind_some]
    rw [if_neg (by rw [hL]; decide), if_pos (by decide), i2]
    simp only [Option.bind_some]
    by_cases h : (apT t (fun _ => 0) 0).2 ≤ 6
    · rw [if_neg (by simp; omega), if_pos ⟨hL, h⟩]
    · rw [if_pos (by simp; omega), if_neg (fun q => h q.2)]
  · obtain ⟨R, hR⟩ : ∃ R, LT R (apT t (fun _ => 0) 0).1 ∧ R.length ≤ 15 ∧ ((apT t (fun _ => 0) 0).2 ≤ 6 → FT s.1 R (apT t (fun _ => 0) 0).1) := by
      obtain ⟨R, i1, i2, i3, i4, i5, i6⟩ := p_l14Apart hf [] [] (fun _ => 0) 0 _ (by simp; omega) at0 (by omega) (by omega) (fv5 hf)
      exact ⟨R, i1, by omega, i6 (fun _ => ⟨by show (0 : Int) ≤ 0; decide, by show (0 : Int) ≤ 5; decide⟩)⟩
    refine ⟨L', R, v4, hR.1, hR.2.1, hR.2.2, e_spec_ApartForm _ _ ?_⟩
    simp only [q_spec_ApartForm, sign_eta', hspec, Option.bind_some]
    rw [if_neg (by simp), w64 (by omega) (by omega), v3]
    simp only [Option.bind_some]
    rw [if_pos (decide_eq_true (by omega)), if_neg (fun q => hL q.1)]
end Go.Proofs.YtcjaikkdpclaaaaPu.Ev
