/- Plain laws: trees are listed node by node; a listed tree is valid exactly if its nodes are. No condition but sizes. -/
import Derived.Test.YtofkhmedmeihiaaPnPO
namespace Go.Proofs.YtofkhmedmeihiaaPn.Ev
open Go
set_option autoImplicit false
set_option linter.unusedVariables false
set_option linter.unusedSimpArgs false

/-- Nodes in a row that list a tree. -/
inductive LT : List TForm → Tree → Prop
  | leaf {x : TForm} : LT [x] (mkT x [])
  | un {x : TForm} {g : List TForm} {t : Tree} (hg : LT g t) : LT (g ++ [x]) (mkT x [t])
  | bin {x : TForm} {g k : List TForm} {t u : Tree} (hg : LT g t) (hk : LT k u) : LT (g ++ k ++ [x]) (mkT x [t, u])
theorem FT.lt {a : List Int} {g : List TForm} {t : Tree} (h : FT a g t) : LT g t := by
  induction h with
  | leaf _ _ => exact .leaf
  | un _ _ _ ih => exact .un ih
  | bin _ _ _ _ ih1 ih2 => exact .bin ih1 ih2

theorem p_list_end (x : TForm) (T : Tree) (ts : List Tree) (o : List TForm) : l_impl_tree_list_26 M T o ts ts.length ts.length = some (.inl (T, o, ())) := by
  apply el_impl_tree_list_26
  simp [ql_impl_tree_list_26]
theorem p_list_step (T : Tree) (ts : List Tree) (o o' : List TForm) (i : Nat) (hi : i < ts.length) (hl : ts.length ≤ 1000) (h : c_impl_tree_list M ts[i] o = some ((o', ()), ())) {r : (Tree × List TForm × Unit) ⊕ ((List TForm × Unit) × Unit)}
    (hr : l_impl_tree_list_26 M T o' ts ts.length ((i + 1 : Nat) : Int) = some r) : l_impl_tree_list_26 M T o ts ts.length (i : Int) = some r := by
  apply el_impl_tree_list_26
  simp only [ql_impl_tree_list_26]
  rw [if_pos (by simpa using hi), idx_lt hi]
  simp only [Option.bind_some, h]
  rw [inc_nat (by omega)]
  exact hr
theorem p_list_top (x : TForm) (ts : List Tree) (o o' : List TForm) (hx : smF x) (ho : o'.length ≤ 1000) (h : l_impl_tree_list_26 M (mkT x ts) o ts ts.length 0 = some (.inl (mkT x ts, o', ()))) : c_impl_tree_list M (mkT x ts) o = some ((o' ++ [x], ()), ()) := by
  apply e_impl_tree_list
  simp only [q_impl_tree_list, treeK, h, Option.bind_some, Sum.elim_inl]
  have h1 := hx.1
  have h2 := hx.2
  rw [if_pos (by omega), if_pos (by omega), if_pos (by simp; omega)]

theorem p_list {g : List TForm} {t : Tree} (h : LT g t) : ∀ o : List TForm, (∀ x ∈ g, smF x) → o.length + g.length ≤ 1000 → c_impl_tree_list M t o = some ((o ++ g, ()), ()) := by
  induction h with
  | @leaf x =>
    intro o hx hl
    exact p_list_top x [] o o (hx x (by simp)) (by omega) (p_list_end x _ [] o)
  | @un x g t hg ih =>
    intro o hx hl
    simp only [List.length_append, List.length_cons, List.length_nil] at hl
    rw [← List.append_assoc]
    refine p_list_top x [t] o (o ++ g) (hx x (by simp)) (by simp; omega) ?_
    exact p_list_step _ [t] o (o ++ g) 0 (by simp) (by simp) (ih o (fun y hy => hx y (by simp [hy])) (by omega)) (p_list_end x _ [t] _)
  | @bin x g k t u hg hk ih1 ih2 =>
    intro o hx hl
    simp only [List.length_append, List.length_cons, List.length_nil] at hl
    rw [← List.append_assoc]
    refine p_list_top x [t, u] o (o ++ (g ++ k)) (hx x (by simp)) (by simp; omega) ?_
    refine p_list_step _ [t, u] o (o ++ g) 0 (by simp) (by simp) (ih1 o (fun y hy => hx y (by simp [hy])) (by omega)) ?_
    refine p_list_step _ [t, u] (o ++ g) (o ++ (g ++ k)) 1 (by simp) (by simp) (by rw [← List.append_assoc]; exact ih2 (o ++ g) (fun y hy => hx y (by simp [hy])) (by simp; omega)) (p_list_end x _ [t, u] _)

theorem p_grow1_loop (s : TSign) (hg : gS s.1 = true) (f : List TForm) (hl : f.length ≤ 15) : ∀ k i : Nat, i + k = f.length → ∀ st : List Tree, st.length ≤ i →
    l_impl_Sign_grow_w1_122 M s st f f.length i = some (match gT s.1 st (f.drop i) with | some st' => .inl (st', ()) | none => .inr (((), false, ()), ())) := by
  intro k
  induction k with
  | zero =>
    intro i hi st hst
    obtain rfl : i = f.length := by omega
    apply el_impl_Sign_grow_w1_122
    simp [ql_impl_Sign_grow_w1_122, gT]
  | succ k ih =>
    intro i hi st hst
    have h1 : i < f.length := by omega
    rw [List.drop_eq_getElem_cons h1]
    apply el_impl_Sign_grow_w1_122
    simp only [ql_impl_Sign_grow_w1_122]
    rw [if_pos (by simpa using h1), idx_lt h1]
    simp only [Option.bind_some, form_eta, sign_eta', p_isNode s hg, gT]
    by_cases h2 : ndOK s.1 f[i] = true
    · have ho := ndOK_opn h2
      by_cases h3 : (opn f[i].1).toNat ≤ st.length
      · have e : (st.length : Int) - opn f[i].1 = ((st.length - (opn f[i].1).toNat : Nat) : Int) := by omega
        rw [if_pos (show ndOK s.1 f[i] = true ∧ (opn f[i].1).toNat ≤ st.length from ⟨h2, h3⟩), h2, if_neg (by simp), p_operands s.1 f[i] h2]
        simp only [Option.bind_some]
        rw [w64 (x := (st.length : Int) - opn f[i].1) (by omega) (by omega), e, if_neg (by simp <;> omega)]
        simp only [Int.toNat_natCast, List.take_length]
        rw [if_pos (by omega), if_pos (by simp; omega), if_pos (by omega), if_pos (by simp; omega), inc_nat (by omega), ih (i + 1) (by omega) _ (by simp; omega)]
      · rw [if_neg (show ¬ (ndOK s.1 f[i] = true ∧ (opn f[i].1).toNat ≤ st.length) from fun h => h3 h.2), h2, if_neg (by simp), p_operands s.1 f[i] h2]
        simp only [Option.bind_some]
        rw [w64 (x := (st.length : Int) - opn f[i].1) (by omega) (by omega), if_pos (by simp; omega)]
    · rw [if_neg (show ¬ (ndOK s.1 f[i] = true ∧ (opn f[i].1).toNat ≤ st.length) from fun h => h2 h.1)]
      rw [Bool.not_eq_true] at h2
      rw [h2]
      rfl
theorem p_grow1 (s : TSign) (hg : gS s.1 = true) (f : List TForm) (hlf : f.length ≤ 1000) : c_impl_Sign_grow_w1 M s f = some (((), fOK s.1 f, ()), ()) := by
  apply e_impl_Sign_grow_w1
  simp only [q_impl_Sign_grow_w1, sign_eta']
  by_cases h15 : f.length ≤ 15
  · rw [if_neg (by simp; omega)]
    have hl := p_grow1_loop s hg f h15 f.length 0 (by omega) [] (by simp)
    rw [show ((0 : Nat) : Int) = 0 from rfl, List.drop_zero] at hl
    have hgf := gT_gF s.1 f []
    rw [List.length_nil] at hgf
    rw [hl]
    cases hT : gT s.1 [] f with
    | none =>
      rw [hT] at hgf
      simp [fOK, hgf]
    | some st' =>
      rw [hT] at hgf
      simp only [Option.bind_some, Sum.elim_inl]
      by_cases h1 : st'.length = 1
      · match st', h1 with
        | [t], _ => simp [fOK, hgf, h15]
      · rw [if_pos (by simp; omega)]
        simp [fOK, hgf, h1]
  · rw [if_pos (by simp; omega)]
    simp [fOK, h15]

theorem p_listed (s : TSign) (hg : gS s.1 = true) {g : List TForm} {t : Tree} (h : LT g t) (hx : ∀ x ∈ g, smF x) (hl : g.length ≤ 1000) : c_impl_Sign_listed M s t = some (if fOK s.1 g = true then ((g, true, ()), ()) else (([], false, ()), ())) := by
  apply e_impl_Sign_listed
  have h1 := p_list h [] hx (by simpa using hl)
  rw [List.nil_append] at h1
  simp only [q_impl_Sign_listed, h1, Option.bind_some, sign_eta', p_grow1 s hg g hl]
  cases fOK s.1 g <;> rfl

theorem p_own' (l : List Int) (hl : l.length ≤ 1048576) : c_spec_l1Own M l = some ((l, ()), ()) := by
  apply e_spec_l1Own
  simp only [q_spec_l1Own, List.length_nil, List.nil_append]
  rw [if_pos (by omega)]
theorem p_ownNode (x : TForm) (hx : smF x) : c_spec_l14OwnNode M x = some ((x, ()), ()) := by
  apply e_spec_l14OwnNode
  simp only [q_spec_l14OwnNode, p_own' _ hx.1, p_own' _ hx.2, Option.bind_some]

theorem ndOK_sm {a : List Int} {x : TForm} (h : ndOK a x = true) : x.2.2.1.length ≤ 40 ∧ x.2.2.2.1.length ≤ 40 := by
  unfold ndOK at h
  split at h
  · simp only [isB, isT, Bool.and_eq_true, decide_eq_true_eq] at h
    exact ⟨h.2.1.1.1, h.2.2.1.1⟩
  · split at h
    · rename_i h2; rw [h2.1, h2.2]; simp
    · cases h
theorem ndOK_smF {a : List Int} {x : TForm} (h : ndOK a x = true) : smF x := by
  have := ndOK_sm h
  unfold smF; omega
theorem FT.sm {a : List Int} {g : List TForm} {t : Tree} (h : FT a g t) : ∀ x ∈ g, smF x := by
  induction h with
  | leaf h _ => intro y hy; simp at hy; subst hy; exact ndOK_smF h
  | un h _ _ ih => intro y hy; rw [List.mem_append] at hy; rcases hy with hy | hy
                   · exact ih y hy
                   · simp at hy; subst hy; exact ndOK_smF h
  | bin h _ _ _ ih1 ih2 => intro y hy; rw [List.mem_append, List.mem_append] at hy; rcases hy with (hy | hy) | hy
                           · exact ih1 y hy
                           · exact ih2 y hy
                           · simp at hy; subst hy; exact ndOK_smF h
end Go.Proofs.YtofkhmedmeihiaaPn.Ev
