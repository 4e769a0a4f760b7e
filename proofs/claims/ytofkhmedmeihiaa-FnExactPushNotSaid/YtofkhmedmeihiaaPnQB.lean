/- Plain laws: pushing negations inwards: both programs do the same; FnExactPushNot. No condition but sizes. -/
import Derived.Test.YtofkhmedmeihiaaPnQA
import Derived.Test.YtofkhmedmeihiaaPnPF
import Derived.Test.YtofkhmedmeihiaaPnPGs
import Derived.Test.YtofkhmedmeihiaaPnPQf
namespace Go.Proofs.YtofkhmedmeihiaaPn.Ev
open Go
set_option autoImplicit false
set_option linter.unusedVariables false
set_option linter.unusedSimpArgs false

def xop (op : Int) : Int := if op = 3 then 4 else if op = 4 then 3 else if op = 5 then 6 else 5
theorem p_exchanged (op : Int) : c_impl_exchanged M op = some ((xop op, ()), ()) := by
  apply e_impl_exchanged
  simp only [q_impl_exchanged, xop, beq_iff_eq]
  by_cases h3 : op = 3
  · simp [h3]
  · by_cases h4 : op = 4
    · simp [h4]
    · by_cases h5 : op = 5
      · simp [h5]
      · simp [h3, h4, h5]
/-- A node as it stands behind a pushed negation. -/
def xnd (n : Bool) (x : TForm) : TForm := (if n = true then xop x.1 else x.1, x.2.1, x.2.2.1, x.2.2.2.1, ())

abbrev TNode := Int × Int × List Int × List Int × List Tree × Unit
theorem p_push_end (n : Bool) (nd : TNode) (ts : List Tree) : l_impl_tree_push_250 M n nd ts ts.length ts.length = some (.inl (nd, ())) := by
  apply el_impl_tree_push_250
  simp [ql_impl_tree_push_250]
theorem p_push_step (n : Bool) (nd : TNode) (ts : List Tree) (u : Tree) (i : Nat) (hi : i < ts.length) (hl : ts.length ≤ 1000) (hn : nd.2.2.2.2.1.length ≤ 1000) (h : c_impl_tree_push M ts[i] n = some ((u, ()), ())) {r : (TNode × Unit) ⊕ ((Tree × Unit) × Unit)}
    (hr : l_impl_tree_push_250 M n (nd.1, nd.2.1, nd.2.2.1, nd.2.2.2.1, nd.2.2.2.2.1 ++ [u], ()) ts ts.length ((i + 1 : Nat) : Int) = some r) : l_impl_tree_push_250 M n nd ts ts.length (i : Int) = some r := by
  apply el_impl_tree_push_250
  simp only [ql_impl_tree_push_250]
  rw [if_pos (by simpa using hi), idx_lt hi]
  simp only [Option.bind_some, h]
  rw [if_pos (by simp; omega), inc_nat (by omega)]
  exact hr

/-- A node that is neither a negation nor an equation: its kids are pushed. -/
theorem p_push_node (x : TForm) (ts us : List Tree) (n : Bool) (h2 : x.1 ≠ 2) (h1 : x.1 ≠ 1) (h : l_impl_tree_push_250 M n ((xnd n x).1, x.2.1, x.2.2.1, x.2.2.2.1, [], ()) ts ts.length 0 = some (.inl (((xnd n x).1, x.2.1, x.2.2.1, x.2.2.2.1, us, ()), ()))) :
    c_impl_tree_push M (mkT x ts) n = some ((mkT (xnd n x) us, ()), ()) := by
  apply e_impl_tree_push
  have e2 : (x.1 == 2) = false := by simpa using h2
  have e1 : (x.1 == 1) = false := by simpa using h1
  simp only [q_impl_tree_push, treeK, e1, e2, Bool.false_eq_true, ↓reduceIte]
  cases n with
  | true =>
    simp only [xnd, ↓reduceIte] at h ⊢
    simp only [p_exchanged, Option.bind_some, Sum.elim_inl, treeK, h]
  | false =>
    simp only [xnd, ↓reduceIte, Bool.false_eq_true] at h ⊢
    simp only [p_exchanged, Option.bind_some, Sum.elim_inl, treeK, h]

theorem xnd_eta (n : Bool) (x : TForm) : xnd n x = ((xnd n x).1, x.2.1, x.2.2.1, x.2.2.2.1, ()) := rfl
theorem p_spush_node (f : List TForm) (k : Int) (x : TForm) (n : Bool) (hx : smF x) (hi : idx f k = some x) (h2 : x.1 ≠ 2) (h1 : x.1 ≠ 1) (hk : 0 ≤ k) (hk' : k ≤ 1000) (L L' : List TForm) (hL : L.length ≤ 1000) (hL' : L'.length ≤ 1000) (h : c_spec_l14Push M f (k - 1) n = some ((L, ()), ()))
    (h' : (opn (xnd n x).1 = 2 ∧ ∃ (j : Int) (L2 : List TForm), c_spec_l14First M f k = some ((j, ()), ()) ∧ c_spec_l14Push M f j n = some ((L2, ()), ()) ∧ L' = L2 ++ L) ∨ (opn (xnd n x).1 ≠ 2 ∧ L' = L)) :
    c_spec_l14Push M f k n = some ((L' ++ [xnd n x], ()), ()) := by
  apply e_spec_l14Push
  have e2 : (x.1 == 2) = false := by simpa using h2
  have e1 : (x.1 == 1) = false := by simpa using h1
  simp only [q_spec_l14Push, hi, Option.bind_some, form_eta, p_ownNode x hx, e1, e2, Bool.false_eq_true, ↓reduceIte]
  have go : ∀ (y : TForm), y = xnd n x → (((c_spec_l14Push M f (IntKind.i64.wrap (k - (1 : Int))) n).bind fun r5 => ((((c_spec_l14Arity M y.1).bind fun r7 => (if (r7.1.1 == (2 : Int)) = true then ((c_spec_l14First M f k).bind fun r8 => ((c_spec_l14Push M f r8.1.1 n).bind fun r9 => (if (List.length r9.1.1 + List.length r5.1.1) * 64 ≤ 140737488355328 then (some (.inl ((y.1, y.2.1, y.2.2.1, y.2.2.2.1, ()), (r9.1.1 ++ r5.1.1), ()))) else none))) else (some (.inl ((y.1, y.2.1, y.2.2.1, y.2.2.2.1, ()), r5.1.1, ()))))) : Option (((Int × Int × (List Int) × (List Int) × Unit) × (List (Int × Int × (List Int) × (List Int) × Unit)) × Unit) ⊕ ((List (Int × Int × (List Int) × (List Int) × Unit)) × Unit) × (Unit))).bind (Sum.elim (fun q6 => (if (List.length q6.2.1 + List.length ([(q6.1.1, q6.1.2.1, q6.1.2.2.1, q6.1.2.2.2.1, ())] : List (Int × Int × (List Int) × (List Int) × Unit))) * 64 ≤ 140737488355328 then (some (((q6.2.1 ++ ([(q6.1.1, q6.1.2.1, q6.1.2.2.1, q6.1.2.2.2.1, ())] : List (Int × Int × (List Int) × (List Int) × Unit))), ()), ())) else none)) (fun r => some r)))) : Option ((List TForm × Unit) × Unit)) = some ((L' ++ [xnd n x], ()), ()) := by
    intro y hy
    subst hy
    rw [w64 (by omega) (by omega), h]
    simp only [Option.bind_some, p_l14Arity, form_eta]
    rcases h' with ⟨ho, j, L2, f1, f2, rfl⟩ | ⟨ho, rfl⟩
    · rw [if_pos (by simpa using ho), f1]
      simp only [Option.bind_some, f2]
      rw [List.length_append] at hL'
      rw [if_pos (by omega)]
      simp only [Option.bind_some, Sum.elim_inl]
      rw [if_pos (by simp; omega)]
    · rw [if_neg (by simpa using ho)]
      simp only [Option.bind_some, Sum.elim_inl]
      rw [if_pos (by simp; omega)]
  cases n with
  | false =>
    simp only [Bool.false_eq_true, ↓reduceIte, Option.bind_some, Sum.elim_inl]
    exact go x rfl
  | true =>
    simp only [↓reduceIte]
    by_cases h3 : x.1 = 3
    · rw [if_pos (by simpa using h3)]
      simp only [Option.bind_some, Sum.elim_inl]
      exact go (4, x.2) (by simp [xnd, xop, h3])
    · rw [if_neg (by simpa using h3)]
      by_cases h4 : x.1 = 4
      · rw [if_pos (by simpa using h4)]
        simp only [Option.bind_some, Sum.elim_inl]
        exact go (3, x.2) (by simp [xnd, xop, h4])
      · rw [if_neg (by simpa using h4)]
        by_cases h5 : x.1 = 5
        · rw [if_pos (by simpa using h5)]
          simp only [Option.bind_some, Sum.elim_inl]
          exact go (6, x.2) (by simp [xnd, xop, h5])
        · rw [if_neg (by simpa using h5)]
          simp only [Option.bind_some, Sum.elim_inl]
          exact go (5, x.2) (by simp [xnd, xop, h3, h4, h5])

theorem p_push {a : List Int} {h : List TForm} {t : Tree} (hf : FT a h t) : ∀ n : Bool, ∃ (L : List TForm) (u : Tree), LT L u ∧ L.length ≤ 2 * h.length ∧ (∀ x ∈ L, smF x ∧ x.2.2.1.length ≤ 40 ∧ x.2.2.2.1.length ≤ 40) ∧ c_impl_tree_push M t n = some ((u, ()), ()) ∧
    ∀ pre post : List TForm, pre.length + h.length ≤ 100 → c_spec_l14Push M (pre ++ (h ++ post)) ((pre.length : Int) + h.length - 1) n = some ((L, ()), ()) := by
  induction hf with
  | @leaf x h h0 =>
    intro n
    obtain ⟨ho, _⟩ := leaf_op h h0
    have hx := ndOK_smF h
    have hx' := ndOK_sm h
    have hsp : ∀ pre post : List TForm, pre.length ≤ 100 → c_spec_l14Push M (pre ++ x :: post) (pre.length : Int) n = some ((if n = true then [x, (2, 0, [], [], ())] else [x], ()), ()) := by
      intro pre post hp
      apply e_spec_l14Push
      simp only [q_spec_l14Push, idx_mid, Option.bind_some, form_eta, p_ownNode x hx, ho, Int.reduceBEq, Bool.false_eq_true, ↓reduceIte]
      cases n <;> simp [← ho]
    cases n with
    | true =>
      refine ⟨[x, (2, 0, [], [], ())], mkT (2, 0, [], [], ()) [mkT x []], .un (x := (2, 0, [], [], ())) (.leaf (x := x)), by simp, ?_, ?_, ?_⟩
      · intro y hy
        simp only [List.mem_cons, List.not_mem_nil, or_false] at hy
        rcases hy with rfl | rfl
        · exact ⟨hx, hx'⟩
        · simp [smF]
      · apply e_impl_tree_push
        simp only [q_impl_tree_push, treeK, ho, Int.reduceBEq, Bool.false_eq_true, ↓reduceIte]
      · intro pre post hp
        simp only [List.length_cons, List.length_nil] at hp
        have := hsp pre post (by omega)
        simp only [if_pos] at this
        simpa using this
    | false =>
      refine ⟨[x], mkT x [], .leaf, by simp, ?_, ?_, ?_⟩
      · intro y hy
        simp only [List.mem_cons, List.not_mem_nil, or_false] at hy
        subst hy
        exact ⟨hx, hx'⟩
      · apply e_impl_tree_push
        simp only [q_impl_tree_push, treeK, ho, Int.reduceBEq, Bool.false_eq_true, ↓reduceIte]
      · intro pre post hp
        simp only [List.length_cons, List.length_nil] at hp
        have := hsp pre post (by omega)
        simp only [Bool.false_eq_true, if_false] at this
        simpa using this
  | @un x g t h h1 hg ih =>
    intro n
    have hx := ndOK_smF h
    have hx' := ndOK_sm h
    obtain ⟨h256, _⟩ := un_op h h1
    by_cases h2 : x.1 = 2
    · obtain ⟨L, u, l1, l2, l3, l4, l5⟩ := ih (!n)
      refine ⟨L, u, l1, by simp; omega, l3, ?_, fun pre post hp => ?_⟩
      · apply e_impl_tree_push
        simp only [q_impl_tree_push, treeK, h2, Int.reduceBEq, ↓reduceIte]
        rw [show idx [t] (0 : Int) = some t from rfl]
        simp only [Option.bind_some, l4]
      · simp only [List.length_append, List.length_cons, List.length_nil] at hp ⊢
        apply e_spec_l14Push
        rw [show (pre.length : Int) + ((g.length + (0 + 1) : Nat) : Int) - 1 = ((pre ++ g).length : Int) by simp; omega, show pre ++ (g ++ [x] ++ post) = (pre ++ g) ++ x :: post by simp]
        simp only [q_spec_l14Push, idx_mid, Option.bind_some, form_eta, p_ownNode x hx, h2, Int.reduceBEq, ↓reduceIte]
        rw [w64 (by simp; omega) (by simp; omega)]
        have := l5 pre (x :: post) (by omega)
        rw [show ((pre ++ g).length : Int) - 1 = (pre.length : Int) + g.length - 1 by simp, List.append_assoc, this]
        rfl
    · obtain ⟨L, u, l1, l2, l3, l4, l5⟩ := ih n
      have hn1 : x.1 ≠ 1 := by omega
      refine ⟨L ++ [xnd n x], mkT (xnd n x) [u], .un l1, by simp; omega, ?_, ?_, fun pre post hp => ?_⟩
      · intro y hy
        rw [List.mem_append] at hy
        rcases hy with hy | hy
        · exact l3 y hy
        · simp at hy; subst hy; exact ⟨hx, hx'⟩
      · refine p_push_node x [t] [u] n h2 hn1 ?_
        exact p_push_step n _ [t] u 0 (by simp) (by simp) (by simp) l4 (p_push_end n _ [t])
      · simp only [List.length_append, List.length_cons, List.length_nil] at hp ⊢
        rw [show (pre.length : Int) + ((g.length + (0 + 1) : Nat) : Int) - 1 = ((pre ++ g).length : Int) by simp; omega, show pre ++ (g ++ [x] ++ post) = (pre ++ g) ++ x :: post by simp]
        have := l5 pre (x :: post) (by omega)
        refine p_spush_node _ _ x n hx (idx_mid _ _ _) h2 hn1 (by omega) (by simp; omega) L L (by omega) (by omega) ?_ (.inr ⟨?_, rfl⟩)
        · rw [show ((pre ++ g).length : Int) - 1 = (pre.length : Int) + g.length - 1 by simp, List.append_assoc, this]
        · have : x.1 = 5 ∨ x.1 = 6 := by omega
          rcases this with h5 | h5 <;> cases n <;> simp [xnd, xop, h5, opn]
  | @bin x g k t u h h2 hg hk ih1 ih2 =>
    intro n
    have hx := ndOK_smF h
    have hx' := ndOK_sm h
    have h34 := bin_op h h2
    obtain ⟨L1, u1, a1, a2, a3, a4, a5⟩ := ih1 n
    obtain ⟨L2, u2, b1, b2, b3, b4, b5⟩ := ih2 n
    refine ⟨L1 ++ L2 ++ [xnd n x], mkT (xnd n x) [u1, u2], .bin a1 b1, by simp; omega, ?_, ?_, fun pre post hp => ?_⟩
    · intro y hy
      rw [List.mem_append, List.mem_append] at hy
      rcases hy with (hy | hy) | hy
      · exact a3 y hy
      · exact b3 y hy
      · simp at hy; subst hy; exact ⟨hx, hx'⟩
    · refine p_push_node x [t, u] [u1, u2] n (by omega) (by omega) ?_
      refine p_push_step n _ [t, u] u1 0 (by simp) (by simp) (by simp) a4 ?_
      exact p_push_step n _ [t, u] u2 1 (by simp) (by simp) (by simp) b4 (p_push_end n _ [t, u])
    · simp only [List.length_append, List.length_cons, List.length_nil] at hp ⊢
      rw [show (pre.length : Int) + ((g.length + k.length + (0 + 1) : Nat) : Int) - 1 = (((pre ++ g) ++ k).length : Int) by simp; omega, show pre ++ (g ++ k ++ [x] ++ post) = ((pre ++ g) ++ k) ++ x :: post by simp]
      have e1 := a5 pre (k ++ x :: post) (by omega)
      have e2 := b5 (pre ++ g) (x :: post) (by simp; omega)
      have e3 := p_l14First hk (pre ++ g) (x :: post) (by simp; omega)
      refine p_spush_node _ _ x n hx (idx_mid _ _ _) (by omega) (by omega) (by omega) (by simp; omega) L2 (L1 ++ L2) (by omega) (by simp; omega) ?_ (.inl ⟨?_, ((pre ++ g).length : Int) - 1, L1, ?_, ?_, rfl⟩)
      · rw [show (((pre ++ g) ++ k).length : Int) - 1 = ((pre ++ g).length : Int) + k.length - 1 by simp; omega, List.append_assoc (pre ++ g) k, e2]
      · rcases h34 with h5 | h5 <;> cases n <;> simp [xnd, xop, h5, opn]
      · rw [show (((pre ++ g) ++ k).length : Int) = ((pre ++ g).length : Int) + k.length by simp; omega, List.append_assoc (pre ++ g) k, e3]
      · rw [show ((pre ++ g).length : Int) - 1 = (pre.length : Int) + g.length - 1 by simp, List.append_assoc (pre ++ g) k, List.append_assoc pre g, e1]
end Go.Proofs.YtofkhmedmeihiaaPn.Ev
