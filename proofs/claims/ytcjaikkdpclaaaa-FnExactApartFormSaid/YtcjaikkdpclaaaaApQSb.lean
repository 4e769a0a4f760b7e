/- Texts laid together: QRa, QSa, PA, PFe, PF, PQ, PQm, PQf, QSb; no condition but those that each theorem names. -/
import Derived.Test.YtcjaikkdpclaaaaApQS
/- Plain laws: numbering bound variables apart, by the program: maps are copied, whatever the order. No condition but sizes. -/
namespace Go.Proofs.YtcjaikkdpclaaaaAp.Ev
open Go
set_option autoImplicit false
set_option linter.unusedVariables false
set_option linter.unusedSimpArgs false

theorem mins_comm {α : Type} (p q : Int × α) (h : p.1 ≠ q.1) : ∀ L : List (Int × α), mins p (mins q L) = mins q (mins p L)
  | [] => by
    simp only [mins]
    by_cases h1 : p.1 ≤ q.1
    · rw [if_pos h1, if_neg (by omega)]
    · rw [if_neg h1, if_pos (by omega)]
  | r :: t => by
    simp only [mins]
    by_cases h1 : p.1 ≤ r.1
    · by_cases h2 : q.1 ≤ r.1
      · rw [if_pos h1, if_pos h2]
        simp only [mins]
        by_cases h3 : p.1 ≤ q.1
        · rw [if_pos h3, if_neg (by omega), if_pos h2]
        · rw [if_neg h3, if_pos h1, if_pos (by omega)]
      · rw [if_pos h1, if_neg h2]
        simp only [mins]
        rw [if_pos h1, if_neg (by omega), if_neg h2]
    · by_cases h2 : q.1 ≤ r.1
      · rw [if_neg h1, if_pos h2]
        simp only [mins]
        rw [if_neg (by omega), if_neg h1, if_pos h2]
      · rw [if_neg h1, if_neg h2]
        simp only [mins]
        rw [if_neg h1, if_neg h2, mins_comm p q h t]
theorem msort_eq {α : Type} {xs ys : List (Int × α)} (h : List.Perm xs ys) : (xs.map Prod.fst).Nodup → msort xs = msort ys := by
  induction h with
  | nil => intro _; rfl
  | cons p _ ih =>
    intro hn
    simp only [List.map_cons, List.nodup_cons] at hn
    simp only [msort, ih hn.2]
  | swap p q l =>
    intro hn
    simp only [List.map_cons, List.nodup_cons, List.mem_cons, not_or] at hn
    simp only [msort]
    exact mins_comm q p hn.1.1 _
  | trans h1 h2 ih1 ih2 =>
    intro hn
    exact (ih1 hn).trans (ih2 (((h1.map Prod.fst).nodup_iff).1 hn))

theorem mput_new {α : Type} : ∀ (xs : List (Int × α)) (k : Int) (y : α), k ∉ xs.map Prod.fst → mput xs k y = xs ++ [(k, y)]
  | [], _, _, _ => rfl
  | (a, b) :: r, k, y, h => by
    simp only [List.map_cons, List.mem_cons, not_or] at h
    simp only [mput]
    rw [if_neg (fun e => h.1 e.symm), mput_new r k y h.2]; rfl
/-- Entries but one key's. -/
def bar {α : Type} (xs : List (Int × α)) (n : Int) : List (Int × α) := xs.filter fun q => !decide (q.1 = n)
theorem bar_leave {α : Type} (xs : List (Int × α)) (n : Int) : bar (leave xs n) n = bar xs n := by
  unfold bar leave
  rw [List.filter_filter]
  refine List.filter_congr fun x _ => ?_
  cases decide (x.1 = n) <;> rfl
theorem leave_perm {α : Type} : ∀ (xs : List (Int × α)) (p : Int × α), p ∈ xs → (xs.map Prod.fst).Nodup → List.Perm xs (p :: leave xs p.1)
  | q :: r, p, hp, hn => by
    simp only [List.map_cons, List.nodup_cons] at hn
    rcases List.mem_cons.1 hp with rfl | hp
    · have : leave (p :: r) p.1 = r := by
        unfold leave
        rw [List.filter_cons, if_neg (by simp)]
        refine List.filter_eq_self.2 fun x hx => ?_
        simp only [Bool.not_eq_true', decide_eq_false_iff_not]
        exact fun e => hn.1 (by rw [← e]; exact List.mem_map.2 ⟨x, hx, rfl⟩)
      rw [this]
    · have hne : ¬ q.1 = p.1 := fun e => hn.1 (by rw [e]; exact List.mem_map.2 ⟨p, hp, rfl⟩)
      have : leave (q :: r) p.1 = q :: leave r p.1 := by
        unfold leave
        rw [List.filter_cons, if_pos (by simp [hne])]
      rw [this]
      exact ((leave_perm r p hp hn.2).cons q).trans (List.Perm.swap p q _)
theorem leave_len {α : Type} (xs : List (Int × α)) (p : Int × α) (hp : p ∈ xs) (hn : (xs.map Prod.fst).Nodup) : (leave xs p.1).length + 1 = xs.length := by
  have := (leave_perm xs p hp hn).length_eq
  simp at this; omega
theorem leave_nodup {α : Type} {xs : List (Int × α)} (n : Int) (hn : (xs.map Prod.fst).Nodup) : ((leave xs n).map Prod.fst).Nodup := hn.sublist (List.filter_sublist.map _)
theorem bar_mem {α : Type} {xs : List (Int × α)} {n : Int} {q : Int × α} : q ∈ bar xs n ↔ q ∈ xs ∧ q.1 ≠ n := by
  unfold bar
  rw [List.mem_filter]; simp

/-- The loop that copies a map, but for one key. -/
theorem p_copy (T : Tree) (x : Int) (n : Int × Int × List Int × List Int × Unit) (o : Int × Int × List Int × List Int × List Tree × Unit) :
    ∀ (k : Nat) (left m : List (Int × Int)) (c : Option (Int × Int)), left.length = k → ((m ++ bar left n.2.1).map Prod.fst).Nodup → (left.map Prod.fst).Nodup → l_impl_tree_apart_1962 M T x n o m (c, left) = some (.inl (T, x, o, msort (m ++ bar left n.2.1), ())) := by
  intro k
  induction k with
  | zero =>
    intro left m c hl hm hn
    obtain rfl : left = [] := List.length_eq_zero_iff.1 hl
    apply el_impl_tree_apart_1962
    simp only [ql_impl_tree_apart_1962]
    refine pickL_to (fun _ => ?_) (by simp)
    simp [bar]
  | succ k ih =>
    intro left m c hl hm hn
    apply el_impl_tree_apart_1962
    simp only [ql_impl_tree_apart_1962]
    refine pickL_to (fun h => by rw [h] at hl; simp at hl) (fun p hp => ?_)
    have hlen := leave_len left p hp hn
    by_cases hpn : p.1 = n.2.1
    · rw [if_neg (by simp [hpn])]
      have := ih (leave left p.1) m (some p) (by omega) (by rw [hpn, bar_leave]; exact hm) (leave_nodup _ hn)
      rw [hpn, bar_leave] at this
      rw [hpn]
      exact this
    · rw [if_pos (by simp [hpn])]
      have hp2 : p ∈ bar left n.2.1 := bar_mem.2 ⟨hp, hpn⟩
      have hnm : p.1 ∉ m.map Prod.fst := by
        intro h
        rw [List.map_append, List.nodup_append] at hm
        exact hm.2.2 p.1 h p.1 (List.mem_map.2 ⟨p, hp2, rfl⟩) rfl
      have hbl : bar (leave left p.1) n.2.1 = leave (bar left n.2.1) p.1 := by
        unfold bar leave
        rw [List.filter_filter, List.filter_filter]
        refine List.filter_congr fun x _ => ?_
        rw [Bool.and_comm]
      have hbn : ((bar left n.2.1).map Prod.fst).Nodup := hn.sublist (List.filter_sublist.map _)
      have hperm : List.Perm (m ++ bar left n.2.1) (mput m p.1 p.2 ++ bar (leave left p.1) n.2.1) := by
        rw [mput_new m p.1 p.2 hnm, hbl, List.append_assoc]
        exact (leave_perm _ p hp2 hbn).append_left m
      have := ih (leave left p.1) (mput m p.1 p.2) (some p) (by omega) (((hperm.map Prod.fst).nodup_iff).1 hm) (leave_nodup _ hn)
      rw [← msort_eq hperm hm] at this
      exact this

theorem mget_bar {α : Type} (z : α) (n u : Int) (h : u ≠ n) : ∀ xs : List (Int × α), mget (bar xs n) u z = mget xs u z
  | [] => rfl
  | (a, b) :: r => by
    unfold bar
    rw [List.filter_cons]
    by_cases hb : a = n
    · rw [if_neg (by simp [hb])]
      simp only [mget]
      rw [if_neg (by rw [hb]; exact fun e => h e.symm)]
      exact mget_bar z n u h r
    · rw [if_pos (by simp [hb])]
      simp only [mget]
      split
      · rfl
      · exact mget_bar z n u h r
/-- What a map tells. -/
def Tells (to : List (Int × Int)) (f : Int → Int) : Prop := (to.map Prod.fst).Nodup ∧ (∀ v, mget to v 0 = f v) ∧ ∀ v, -1000000 ≤ f v ∧ f v ≤ 1000000
theorem Tells.upd {to : List (Int × Int)} {f : Int → Int} (h : Tells to f) (v n : Int) (n0 : 0 ≤ n) (n1 : n ≤ 1000000) : Tells (msort (mput [] v n ++ bar to v)) (updF f v n) ∧ ((mput [] v n ++ bar to v).map Prod.fst).Nodup := by
  obtain ⟨h1, h2, h3⟩ := h
  have hnd : ((mput [] v n ++ bar to v).map Prod.fst).Nodup := by
    simp only [mput, List.cons_append, List.nil_append, List.map_cons, List.nodup_cons]
    refine ⟨fun h => ?_, h1.sublist (List.filter_sublist.map _)⟩
    obtain ⟨q, hq, e⟩ := List.mem_map.1 h
    exact (bar_mem.1 hq).2 e
  have hsn : ((msort (mput [] v n ++ bar to v)).map Prod.fst).Nodup := (((msort_perm (mput [] v n ++ bar to v)).map Prod.fst).nodup_iff).2 hnd
  refine ⟨⟨hsn, fun u => ?_, fun u => ?_⟩, hnd⟩
  · rw [(mget_perm u 0 (msort_perm _) hsn).1]
    simp only [mput, List.cons_append, List.nil_append, mget]
    unfold updF
    by_cases e : u = v
    · rw [if_pos e.symm, if_pos e]
    · rw [if_neg (fun h => e h.symm), if_neg e, mget_bar 0 v u e, h2]
  · unfold updF
    split
    · omega
    · exact h3 u

theorem p_numbered_loop (to : List (Int × Int)) (f : Int → Int) (ht : Tells to f) (T : List Int) (hT : T.length ≤ 1000) (hv : ∀ m ∈ T, m < 0 → -1000000 ≤ m) : ∀ k i : Nat, i + k = T.length → l_impl_numbered_58 M to ((T.take i).map (nbr f) ++ T.drop i) T.length i = some (.inl (T.map (nbr f), ())) := by
  obtain ⟨_, a2, a3⟩ := ht
  intro k
  induction k with
  | zero =>
    intro i hi
    obtain rfl : i = T.length := by omega
    apply el_impl_numbered_58
    simp only [ql_impl_numbered_58]
    rw [if_neg (by simp)]
    simp
  | succ k ih =>
    intro i hi
    have h1 : i < T.length := by omega
    have hlen : ((T.take i).map (nbr f) ++ T.drop i).length = T.length := by simp; omega
    apply el_impl_numbered_58
    simp only [ql_impl_numbered_58]
    rw [if_pos (by simpa using h1), if_pos (by rw [hlen]; omega), Int.toNat_natCast, get_map _ _ _ h1]
    simp only [Option.bind_some]
    by_cases hn : T[i] < 0
    · have hm := hv _ (List.getElem_mem h1) hn
      have hb := a3 (-1 - T[i])
      rw [if_pos (by simpa using hn), w64 (x := -1 - T[i]) (by omega) (by omega), a2, if_pos (by rw [hlen]; omega)]
      simp only [Option.bind_some, Sum.elim_inl]
      rw [w64 (x := -1 - f (-1 - T[i])) (by omega) (by omega), inc_nat (by omega), upd_map (nbr f) T i h1 _ (by unfold nbr; rw [if_pos hn])]
      exact ih (i + 1) (by omega)
    · rw [if_neg (by simpa using hn)]
      simp only [Option.bind_some, Sum.elim_inl]
      rw [inc_nat (by omega)]
      have := ih (i + 1) (by omega)
      rw [← upd_map (nbr f) T i h1 T[i] (by unfold nbr; rw [if_neg hn])] at this
      have hs : ((T.take i).map (nbr f) ++ T.drop i).set i T[i] = (T.take i).map (nbr f) ++ T.drop i := by
        obtain ⟨q1, q2⟩ := List.getElem?_eq_some_iff.1 (get_map (nbr f) T i h1)
        conv => lhs; rw [← q2]
        exact List.set_getElem_self q1
      rw [hs] at this
      exact this
theorem p_numbered (to : List (Int × Int)) (f : Int → Int) (ht : Tells to f) (T : List Int) (hT : T.length ≤ 1000) (hv : ∀ m ∈ T, m < 0 → -1000000 ≤ m) : c_impl_numbered M T to = some ((T.map (nbr f), ()), ()) := by
  apply e_impl_numbered
  have := p_numbered_loop to f ht T hT hv T.length 0 (by omega)
  rw [show ((0 : Nat) : Int) = 0 from rfl, List.drop_zero, List.take_zero, List.map_nil, List.nil_append] at this
  simp only [q_impl_numbered]
  rw [if_pos (by omega), this]
  rfl

abbrev TNode := Int × Int × List Int × List Int × List Tree × Unit
def mkN (x : TNode) : Tree := Tree.mk x.1 x.2.1 x.2.2.1 x.2.2.2.1 x.2.2.2.2.1
theorem p_apart_end (to : List (Int × Int)) (n : Int) (o : TNode) (ts : List Tree) : l_impl_tree_apart_250 M to n o ts ts.length ts.length = some (.inl (n, o, ())) := by
  apply el_impl_tree_apart_250
  simp [ql_impl_tree_apart_250]
theorem p_apart_step (to : List (Int × Int)) (n n' : Int) (o : TNode) (ts : List Tree) (i : Nat) (hi : i < ts.length) (hl : ts.length ≤ 1000) (ho : o.2.2.2.2.1.length ≤ 1000) {y : TNode} (h : c_impl_tree_apart M ts[i] to n = some ((y, n', ()), ()))
    {r : (Int × TNode × Unit) ⊕ ((TNode × Int × Unit) × Unit)} (hr : l_impl_tree_apart_250 M to n' (o.1, o.2.1, o.2.2.1, o.2.2.2.1, o.2.2.2.2.1 ++ [mkN y], ()) ts ts.length ((i + 1 : Nat) : Int) = some r) : l_impl_tree_apart_250 M to n o ts ts.length (i : Int) = some r := by
  apply el_impl_tree_apart_250
  simp only [ql_impl_tree_apart_250]
  rw [if_pos (by simpa using hi), idx_lt hi]
  simp only [Option.bind_some, h]
  rw [if_pos (by simp; omega), inc_nat (by omega)]
  exact hr

theorem nil_nbr (f : Int → Int) : ([] : List Int).map (nbr f) = [] := rfl
/-- The program's numbering. -/
theorem p_apart {a : List Int} {h : List TForm} {t : Tree} (hf : FT a h t) : ∀ (to : List (Int × Int)) (f : Int → Int) (n : Int), Tells to f → 0 ≤ n → n + h.length ≤ 1000 →
    ∃ y : TNode, c_impl_tree_apart M t to n = some ((y, (apT t f n).2, ()), ()) ∧ mkN y = (apT t f n).1 ∧ n ≤ (apT t f n).2 ∧ (apT t f n).2 ≤ n + h.length := by
  induction hf with
  | @leaf x h h0 =>
    intro to f n ht n0 n1
    obtain ⟨ho, tl, tr⟩ := leaf_op h h0
    obtain ⟨l1, l2⟩ := isT_ge tl
    obtain ⟨r1, r2⟩ := isT_ge tr
    have e1 := p_numbered to f ht x.2.2.1 (by omega) (fun m hm _ => by have := l2 m hm; omega)
    have e2 := p_numbered to f ht x.2.2.2.1 (by omega) (fun m hm _ => by have := r2 m hm; omega)
    have n5 : (x.1 == 5) = false := by simp; omega
    have n6 : (x.1 == 6) = false := by simp; omega
    refine ⟨(x.1, x.2.1, x.2.2.1.map (nbr f), x.2.2.2.1.map (nbr f), [], ()), ?_, by rw [apT_leaf]; rfl, by rw [apT_leaf]; simp only; omega, by rw [apT_leaf]; simp only; omega⟩
    rw [apT_leaf]
    apply e_impl_tree_apart
    simp only [q_impl_tree_apart, treeK, e1, e2, Option.bind_some, n5, n6, Bool.false_eq_true, ↓reduceIte, Sum.elim_inl]
    have : l_impl_tree_apart_250 M to n (x.1, x.2.1, x.2.2.1.map (nbr f), x.2.2.2.1.map (nbr f), [], ()) [] (([] : List Tree).length : Int) 0 = some (.inl (n, (x.1, x.2.1, x.2.2.1.map (nbr f), x.2.2.2.1.map (nbr f), [], ()), ())) := p_apart_end to n (x.1, x.2.1, x.2.2.1.map (nbr f), x.2.2.2.1.map (nbr f), [], ()) []
    rw [this]
    rfl
  | @un x g t h h1 hg ih =>
    intro to f n ht n0 n1
    obtain ⟨h256, v0, v5⟩ := un_op h h1
    have hfl := nd_flat h (by omega)
    simp only [List.length_append, List.length_cons, List.length_nil] at n1 ⊢
    have e1 := p_numbered to f ht x.2.2.1 (by rw [hfl.1]; simp) (by rw [hfl.1]; simp)
    have e2 := p_numbered to f ht x.2.2.2.1 (by rw [hfl.2]; simp) (by rw [hfl.2]; simp)
    rw [hfl.1, nil_nbr] at e1
    rw [hfl.2, nil_nbr] at e2
    by_cases h2 : x.1 = 2
    · obtain ⟨y, i1, i2, i3, i4⟩ := ih to f n ht n0 (by omega)
      have n5 : (x.1 == 5) = false := by simp; omega
      have n6 : (x.1 == 6) = false := by simp; omega
      rw [apT_not x t f n h2]
      refine ⟨(x.1, x.2.1, [], [], [mkN y], ()), ?_, by rw [← i2]; simp only [mkN, mkT, hfl.1, hfl.2], i3, by simp only; omega⟩
      apply e_impl_tree_apart
      simp only [q_impl_tree_apart, treeK, hfl.1, hfl.2, e1, e2, Option.bind_some, n5, n6, Bool.false_eq_true, ↓reduceIte, Sum.elim_inl]
      have := p_apart_step to n _ (x.1, x.2.1, [], [], [], ()) [t] 0 (by simp) (by simp) (by simp) i1 (p_apart_end to _ _ [t])
      rw [show ((0 : Nat) : Int) = 0 from rfl] at this
      rw [this]
      rfl
    · have h56 : x.1 = 5 ∨ x.1 = 6 := by omega
      obtain ⟨ht', hnd⟩ := ht.upd x.2.1 n n0 (by omega)
      obtain ⟨y, i1, i2, i3, i4⟩ := ih (msort (mput [] x.2.1 n ++ bar to x.2.1)) (updF f x.2.1 n) (n + 1) ht' (by omega) (by omega)
      have hc := p_copy (mkT x [t]) n (x.1, x.2.1, [], [], ()) (x.1, x.2.1, [], [], [], ()) to.length to (mput [] x.2.1 n) none rfl hnd ht.1
      rw [apT_quant x t f n h2]
      refine ⟨(x.1, n, [], [], [mkN y], ()), ?_, by rw [← i2]; simp only [mkN, mkT, hfl.1, hfl.2], by simp only; omega, by simp only; omega⟩
      have hs := p_apart_step _ (n + 1) _ (x.1, n, [], [], [], ()) [t] 0 (by simp) (by simp) (by simp) i1 (p_apart_end _ _ _ [t])
      rw [show ((0 : Nat) : Int) = 0 from rfl] at hs
      apply e_impl_tree_apart
      rcases h56 with h5 | h6
      · simp only [q_impl_tree_apart, treeK, hfl.1, hfl.2, e1, e2, Option.bind_some, h5, Int.reduceBEq, Bool.false_eq_true, ↓reduceIte, Sum.elim_inl]
        rw [h5] at hc hs
        rw [hc]
        simp only [Option.bind_some, Sum.elim_inl, treeK]
        rw [w64 (x := n + 1) (by omega) (by omega), hs]
        rfl
      · simp only [q_impl_tree_apart, treeK, hfl.1, hfl.2, e1, e2, Option.bind_some, h6, Int.reduceBEq, Bool.false_eq_true, ↓reduceIte, Sum.elim_inl]
        rw [h6] at hc hs
        rw [hc]
        simp only [Option.bind_some, Sum.elim_inl, treeK]
        rw [w64 (x := n + 1) (by omega) (by omega), hs]
        rfl
  | @bin x g k t u h h2 hg hk ih1 ih2 =>
    intro to f n ht n0 n1
    have h34 := bin_op h h2
    have hfl := nd_flat h (by omega)
    simp only [List.length_append, List.length_cons, List.length_nil] at n1 ⊢
    have e1 := p_numbered to f ht x.2.2.1 (by rw [hfl.1]; simp) (by rw [hfl.1]; simp)
    have e2 := p_numbered to f ht x.2.2.2.1 (by rw [hfl.2]; simp) (by rw [hfl.2]; simp)
    rw [hfl.1, nil_nbr] at e1
    rw [hfl.2, nil_nbr] at e2
    have n5 : (x.1 == 5) = false := by simp; omega
    have n6 : (x.1 == 6) = false := by simp; omega
    obtain ⟨y, i1, i2, i3, i4⟩ := ih1 to f n ht n0 (by omega)
    obtain ⟨z, j1, j2, j3, j4⟩ := ih2 to f (apT t f n).2 ht (by omega) (by omega)
    rw [apT_bin x t u f n]
    refine ⟨(x.1, x.2.1, [], [], [mkN y, mkN z], ()), ?_, by rw [← i2, ← j2]; simp only [mkN, mkT, hfl.1, hfl.2], by simp only; omega, by simp only; omega⟩
    apply e_impl_tree_apart
    simp only [q_impl_tree_apart, treeK, hfl.1, hfl.2, e1, e2, Option.bind_some, n5, n6, Bool.false_eq_true, ↓reduceIte, Sum.elim_inl]
    have := p_apart_step to n _ (x.1, x.2.1, [], [], [], ()) [t, u] 0 (by simp) (by simp) (by simp) i1 (p_apart_step to _ _ (x.1, x.2.1, [], [], [mkN y], ()) [t, u] 1 (by simp) (by simp) (by simp) j1 (p_apart_end to _ _ [t, u]))
    rw [show ((0 : Nat) : Int) = 0 from rfl] at this
    rw [this]
    rfl
theorem p_apart0 {a : List Int} {h : List TForm} {t : Tree} (hf : FT a h t) (hl : h.length ≤ 100) : ∃ y : TNode, c_impl_tree_apart M t (msort ([] : List (Int × Int))) 0 = some ((y, (apT t (fun _ => 0) 0).2, ()), ()) ∧ mkN y = (apT t (fun _ => 0) 0).1 := by
  obtain ⟨y, h1, h2, _⟩ := p_apart hf [] (fun _ => 0) 0 ⟨by simp, fun _ => rfl, fun _ => ⟨by show (-1000000 : Int) ≤ 0; decide, by show (0 : Int) ≤ 1000000; decide⟩⟩ (by omega) (by omega)
  exact ⟨y, h1, h2⟩
end Go.Proofs.YtcjaikkdpclaaaaAp.Ev

/- Plain laws: a formula set apart, by both programs. No condition but sizes. -/
namespace Go.Proofs.YtcjaikkdpclaaaaAp.Ev
open Go
set_option autoImplicit false
set_option linter.unusedVariables false
set_option linter.unusedSimpArgs false

theorem p_Aparts (s : TSign) (hs : s.1.length ≤ 1048576) (f : List TForm) (hl : f.length ≤ 1048576) (hx : ∀ x ∈ f, smF x) : ∃ r : (List TForm × Bool × Unit) × Unit, c_spec_ApartForm M s f = some r ∧ c_impl_ApartForm M s f = some r ∧ r.1.1.length ≤ 15 ∧ (∀ x ∈ r.1.1, smF x) ∧
    (r.1.2.1 = true → gS s.1 = true ∧ fOK s.1 f = true ∧ ∃ (t : Tree) (L : List Int), FT s.1 f t ∧ c_impl_tree_freeIn M t = some ((L, ()), ()) ∧ L.length = 0 ∧ (apT t (fun _ => 0) 0).2 ≤ 6 ∧ FT s.1 r.1.1 (apT t (fun _ => 0) 0).1) := by
  obtain ⟨t, ht, hgt⟩ := p_formula s hs f
  have hspec := p_spec_GoodForm s hs f hl hx
  cases hb : (gS s.1 && fOK s.1 f) with
  | false =>
    rw [hb] at ht hspec
    refine ⟨(([], false, ()), ()), e_spec_ApartForm _ _ ?_, e_impl_ApartForm _ _ ?_, by simp, by simp, by simp⟩
    · simp only [q_spec_ApartForm, sign_eta', hspec, Option.bind_some]; rfl
    · simp only [q_impl_ApartForm, sign_eta', ht, Option.bind_some]; rfl
  | true =>
    rw [hb] at ht
    have hb' := hb
    simp only [Bool.and_eq_true, fOK, decide_eq_true_eq] at hb'
    obtain ⟨hg, h15, h16⟩ := hb'
    have hft := gT_FT (hgt hb)
    obtain ⟨L, R, f1, f2, f3, f4, f5⟩ := p_spec_Apart s hs f hl hx hb hft
    obtain ⟨y, g1, g2⟩ := p_apart0 hft (by omega)
    have hap : c_impl_tree_apartForm M t = some (if L.length = 0 then ((mkN y, decide ((apT t (fun _ => 0) 0).2 ≤ 6), ()), ()) else ((Tree.nil, false, ()), ())) := by
      apply e_impl_tree_apartForm
      simp only [q_impl_tree_apartForm, f1, Option.bind_some]
      by_cases h : L.length = 0
      · rw [if_neg (by simp [h]), if_pos h, g1]
        simp only [Option.bind_some]
        rfl
      · rw [if_pos (by simp; omega), if_neg h]
    refine ⟨_, f5, e_impl_ApartForm _ _ ?_, ?_⟩
    · simp only [q_impl_ApartForm, sign_eta', ht, Option.bind_some]
      rw [if_neg (by simp), hap]
      simp only [Option.bind_some]
      by_cases h : L.length = 0
      · rw [if_pos h]
        by_cases h6 : (apT t (fun _ => 0) 0).2 ≤ 6
        · have hR := f4 h6
          have hl := p_listed s hg (g := R) (t := mkN y) (by rw [g2]; exact f2) hR.sm (by omega)
          rw [hR.fOK' f3, if_pos rfl] at hl
          rw [if_neg (by simp [h6]), if_pos ⟨h, h6⟩, hl]
          rfl
        · rw [if_pos (by simp; omega), if_neg (fun q => h6 q.2)]
      · rw [if_neg h, if_neg (c := L.length = 0 ∧ _) (fun q => h q.1)]
        rfl
    · by_cases h : L.length = 0 ∧ (apT t (fun _ => 0) 0).2 ≤ 6
      · rw [if_pos h]
        exact ⟨f3, (f4 h.2).sm, fun _ => ⟨hg, (by simpa using hb : _ ∧ _).2, t, L, hft, f1, h.1, h.2, f4 h.2⟩⟩
      · rw [if_neg h]
        exact ⟨by simp, by simp, by simp⟩
end Go.Proofs.YtcjaikkdpclaaaaAp.Ev

/- Plain laws: the laws' own copying, comparing and counting functions answer as they should, at lists that memory can hold. -/
namespace Go.Proofs.YtcjaikkdpclaaaaAp.Ev
open Go
set_option autoImplicit false
set_option linter.unusedVariables false
set_option linter.unusedSimpArgs false

theorem p_toIntS_loop (a : List Int) (ha : a.length ≤ 17592186044416) : ∀ k i : Nat, i + k = a.length → ∀ o : List Int, o.length = a.length → l_laws_toIntS_58 M a o i = some (.inl (o.take i ++ a.drop i, ())) := by
  intro k
  induction k with
  | zero =>
    intro i hi o ho
    obtain rfl : i = a.length := by omega
    apply el_laws_toIntS_58
    simp only [ql_laws_toIntS_58, Int.lt_irrefl, decide_false, Bool.false_eq_true, if_false, List.drop_length, List.append_nil]
    rw [← ho, List.take_length]
  | succ k ih =>
    intro i hi o ho
    apply el_laws_toIntS_58
    have h1 : i < a.length := by omega
    have h2 : i < o.length := by omega
    simp only [ql_laws_toIntS_58]
    rw [if_pos (by simpa using h1), idx_lt h1, inc_nat (by omega)]
    simp only [Option.bind_some]
    rw [if_pos (by omega)]
    simp only [Option.bind_some, Int.toNat_natCast, List.getElem?_eq_getElem h2]
    rw [ih (i + 1) (by omega) _ (by simpa using ho)]
    rw [List.take_set, List.take_succ_eq_append_getElem h2, List.set_append_right _ _ (by simp; omega), List.drop_eq_getElem_cons h1]
    simp [Nat.min_eq_left (Nat.le_of_lt h2)]

theorem p_toIntS (a : List Int) (ha : a.length ≤ 17592186044416) : c_laws_toIntS M a = some ((a, ()), ()) := by
  apply e_laws_toIntS
  simp only [q_laws_toIntS]
  rw [if_pos (by refine ⟨by omega, by omega, trivial⟩)]
  have := p_toIntS_loop a ha a.length 0 (by omega) (List.replicate a.length 0) (by simp)
  simp only [Int.toNat_natCast]
  rw [show ((0 : Nat) : Int) = 0 from rfl] at this
  rw [this]
  simp

theorem p_eqIntS_loop (a : List Int) (ha : a.length ≤ 17592186044416) : ∀ k i : Nat, i + k = a.length → l_laws_eqIntS_58 M a a i = some (.inl ()) := by
  intro k
  induction k with
  | zero =>
    intro i hi
    obtain rfl : i = a.length := by omega
    apply el_laws_eqIntS_58
    simp only [ql_laws_eqIntS_58, Int.lt_irrefl, decide_false, Bool.false_eq_true, if_false]
  | succ k ih =>
    intro i hi
    apply el_laws_eqIntS_58
    have h1 : i < a.length := by omega
    simp only [ql_laws_eqIntS_58]
    rw [if_pos (by simpa using h1), idx_lt h1, inc_nat (by omega)]
    simp only [Option.bind_some, bne_self_eq_false, Bool.false_eq_true, if_false]
    exact ih (i + 1) (by omega)
theorem p_eqIntS (a : List Int) (ha : a.length ≤ 17592186044416) : c_laws_eqIntS M a a = some ((true, ()), ()) := by
  apply e_laws_eqIntS
  simp only [q_laws_eqIntS, bne_self_eq_false, Bool.false_eq_true, if_false]
  have := p_eqIntS_loop a ha a.length 0 (by omega)
  rw [show ((0 : Nat) : Int) = 0 from rfl] at this
  rw [this]
  rfl

theorem p_szIntS (a : List Int) (n : Int) (hn : 0 ≤ n) (hn' : n ≤ 1048576) (ha : a.length ≤ 9223372036854775807) : c_laws_szIntS M a n = some ((if n - a.length < 0 then -1 else n - a.length, ()), ()) := by
  apply e_laws_szIntS
  simp only [q_laws_szIntS, decide_eq_true_eq]
  rw [w64 (by omega) (by omega)]
  split <;> rfl

theorem p_szSign (s : TSign) (n : Int) (hn : 0 ≤ n) (hn' : n ≤ 1048576) (ha : s.1.length ≤ 9223372036854775807) : ∃ r : Int, c_laws_szSign M s n = some ((r, ()), ()) ∧ r ≤ n ∧ (0 ≤ r → s.1.length ≤ 1048576) := by
  refine ⟨if n - s.1.length < 0 then -1 else n - s.1.length, ?_, by split <;> omega, by split <;> omega⟩
  apply e_laws_szSign
  simp only [q_laws_szSign, p_szIntS s.1 n hn hn' ha, Option.bind_some, decide_eq_true_eq]
  by_cases h : n - (s.1.length : Int) < 0
  · simp [h]
  · simp [h]

theorem p_toSign (s : TSign) (ha : s.1.length ≤ 17592186044416) : c_laws_toSign M s = some ((s, ()), ()) := by
  apply e_laws_toSign
  simp only [q_laws_toSign, p_toIntS s.1 ha, Option.bind_some]
theorem p_eqSign (s : TSign) (ha : s.1.length ≤ 17592186044416) : c_laws_eqSign M s s = some ((true, ()), ()) := by
  apply e_laws_eqSign
  simp only [q_laws_eqSign, p_eqIntS s.1 ha, Option.bind_some, Bool.not_true, Bool.false_eq_true, if_false]

end Go.Proofs.YtcjaikkdpclaaaaAp.Ev

/- Plain laws: nodes of formulas, compared. No condition but sizes. -/
namespace Go.Proofs.YtcjaikkdpclaaaaAp.Ev
open Go
set_option autoImplicit false
set_option linter.unusedVariables false
set_option linter.unusedSimpArgs false

theorem p_eqForm (x : TForm) (h : smF x) : c_laws_eqForm M x x = some ((true, ()), ()) := by
  apply e_laws_eqForm
  simp only [q_laws_eqForm, p_eqIntS x.2.2.1 (by have := h.1; omega), p_eqIntS x.2.2.2.1 (by have := h.2; omega), Option.bind_some]
  simp

theorem p_eqFormS_loop (a : List TForm) (ha : a.length ≤ 1048576) (hx : ∀ x ∈ a, smF x) : ∀ k i : Nat, i + k = a.length → l_laws_eqFormS_58 M a a i = some (.inl ()) := by
  intro k
  induction k with
  | zero =>
    intro i hi
    obtain rfl : i = a.length := by omega
    apply el_laws_eqFormS_58
    simp only [ql_laws_eqFormS_58, Int.lt_irrefl, decide_false, Bool.false_eq_true, if_false]
  | succ k ih =>
    intro i hi
    apply el_laws_eqFormS_58
    have h1 : i < a.length := by omega
    simp only [ql_laws_eqFormS_58]
    rw [if_pos (by simpa using h1), idx_lt h1, inc_nat (by omega)]
    simp only [Option.bind_some, form_eta, p_eqForm a[i] (hx _ (List.getElem_mem h1)), Bool.not_true, Bool.false_eq_true, if_false]
    exact ih (i + 1) (by omega)

theorem p_eqFormS (a : List TForm) (ha : a.length ≤ 1048576) (hx : ∀ x ∈ a, smF x) : c_laws_eqFormS M a a = some ((true, ()), ()) := by
  apply e_laws_eqFormS
  simp only [q_laws_eqFormS, bne_self_eq_false, Bool.false_eq_true, if_false]
  have := p_eqFormS_loop a ha hx a.length 0 (by omega)
  rw [show ((0 : Nat) : Int) = 0 from rfl] at this
  rw [this]
  rfl

end Go.Proofs.YtcjaikkdpclaaaaAp.Ev

/- Plain laws: nodes of formulas, as the laws copy, compare and count them. No condition but sizes. -/
namespace Go.Proofs.YtcjaikkdpclaaaaAp.Ev
open Go
set_option autoImplicit false
set_option linter.unusedVariables false
set_option linter.unusedSimpArgs false


theorem p_toForm (x : TForm) (h : smF x) : c_laws_toForm M x = some ((x, ()), ()) := by
  apply e_laws_toForm
  simp only [q_laws_toForm, p_toIntS x.2.2.1 (by have := h.1; omega), p_toIntS x.2.2.2.1 (by have := h.2; omega), Option.bind_some]

theorem p_toFormS_loop (a : List TForm) (ha : a.length ≤ 1048576) (hx : ∀ x ∈ a, smF x) : ∀ k i : Nat, i + k = a.length → ∀ o : List TForm, o.length = a.length → l_laws_toFormS_58 M a o i = some (.inl (o.take i ++ a.drop i, ())) := by
  intro k
  induction k with
  | zero =>
    intro i hi o ho
    obtain rfl : i = a.length := by omega
    apply el_laws_toFormS_58
    simp only [ql_laws_toFormS_58, Int.lt_irrefl, decide_false, Bool.false_eq_true, if_false, List.drop_length, List.append_nil]
    rw [← ho, List.take_length]
  | succ k ih =>
    intro i hi o ho
    apply el_laws_toFormS_58
    have h1 : i < a.length := by omega
    have h2 : i < o.length := by omega
    simp only [ql_laws_toFormS_58]
    rw [if_pos (by simpa using h1), idx_lt h1, inc_nat (by omega)]
    simp only [Option.bind_some, form_eta, p_toForm a[i] (hx _ (List.getElem_mem h1))]
    rw [if_pos (by omega)]
    simp only [Option.bind_some, Int.toNat_natCast, List.getElem?_eq_getElem h2]
    rw [ih (i + 1) (by omega) _ (by simpa using ho)]
    rw [List.take_set, List.take_succ_eq_append_getElem h2, List.set_append_right _ _ (by simp; omega), List.drop_eq_getElem_cons h1]
    simp [Nat.min_eq_left (Nat.le_of_lt h2)]

theorem p_toFormS (a : List TForm) (ha : a.length ≤ 1048576) (hx : ∀ x ∈ a, smF x) : c_laws_toFormS M a = some ((a, ()), ()) := by
  apply e_laws_toFormS
  simp only [q_laws_toFormS]
  rw [if_pos (by refine ⟨by omega, by omega, trivial⟩)]
  have := p_toFormS_loop a ha hx a.length 0 (by omega) (List.replicate a.length ((0 : Int), (0 : Int), [], [], ())) (by simp)
  simp only [Int.toNat_natCast]
  rw [show ((0 : Nat) : Int) = 0 from rfl] at this
  rw [this]
  simp


def wlF (x : TForm) : Prop := x.2.2.1.length ≤ 9223372036854775807 ∧ x.2.2.2.1.length ≤ 9223372036854775807
theorem p_szForm (x : TForm) (n : Int) (hn : 0 ≤ n) (hn' : n ≤ 1048576) (hx : wlF x) : ∃ r : Int, c_laws_szForm M x n = some ((r, ()), ()) ∧ r ≤ n ∧ (0 ≤ r → smF x) := by
  by_cases h1 : n - x.2.2.1.length < 0
  · refine ⟨-1, e_laws_szForm _ _ ?_, by omega, by omega⟩
    simp only [q_laws_szForm, p_szIntS x.2.2.1 n hn hn' hx.1, Option.bind_some, if_pos h1]
    rfl
  · by_cases h2 : n - x.2.2.1.length - x.2.2.2.1.length < 0
    · refine ⟨-1, e_laws_szForm _ _ ?_, by omega, by omega⟩
      simp only [q_laws_szForm, p_szIntS x.2.2.1 n hn hn' hx.1, Option.bind_some, if_neg h1, decide_eq_true_eq, p_szIntS x.2.2.2.1 (n - x.2.2.1.length) (by omega) (by omega) hx.2, if_pos h2]
      rfl
    · refine ⟨n - x.2.2.1.length - x.2.2.2.1.length, e_laws_szForm _ _ ?_, by omega, fun _ => ⟨by omega, by omega⟩⟩
      simp only [q_laws_szForm, p_szIntS x.2.2.1 n hn hn' hx.1, Option.bind_some, if_neg h1, decide_eq_true_eq, p_szIntS x.2.2.2.1 (n - x.2.2.1.length) (by omega) (by omega) hx.2, if_neg h2]

theorem p_szFormS_loop (a : List TForm) (ha : a.length ≤ 1048576) (hx : ∀ x ∈ a, wlF x) : ∀ (k i : Nat) (n : Int), i + k = a.length → 0 ≤ n → n ≤ 1048576 → (∀ x ∈ a.take i, smF x) →
    ∃ r, l_laws_szFormS_122 M a n i = some r ∧ (match r with | .inl y => 0 ≤ y.1 ∧ y.1 ≤ n ∧ ∀ x ∈ a, smF x | .inr y => y.1.1 = -1) := by
  intro k
  induction k with
  | zero =>
    intro i n hi h0 hn hs
    obtain rfl : i = a.length := by omega
    refine ⟨.inl (n, ()), el_laws_szFormS_122 _ _ _ (by simp [ql_laws_szFormS_122]), h0, Int.le_refl _, by simpa using hs⟩
  | succ k ih =>
    intro i n hi h0 hn hs
    have h1 : i < a.length := by omega
    obtain ⟨m, hm, hm1, hm2⟩ := p_szForm a[i] n h0 hn (hx _ (List.getElem_mem h1))
    by_cases hneg : m < 0
    · refine ⟨.inr ((-1, ()), ()), el_laws_szFormS_122 _ _ _ ?_, rfl⟩
      simp only [ql_laws_szFormS_122]
      rw [if_pos (by simpa using h1), idx_lt h1]
      simp only [Option.bind_some, form_eta, hm]
      rw [if_pos (by simpa using hneg)]
    · obtain ⟨r, hr, hp⟩ := ih (i + 1) m (by omega) (by omega) (by omega) (by
        intro x hx'
        rw [List.take_succ_eq_append_getElem h1] at hx'
        rcases List.mem_append.1 hx' with h | h
        · exact hs x h
        · rw [List.mem_singleton.1 h]; exact hm2 (by omega))
      refine ⟨r, el_laws_szFormS_122 _ _ _ ?_, ?_⟩
      · simp only [ql_laws_szFormS_122]
        rw [if_pos (by simpa using h1), idx_lt h1, inc_nat (by omega)]
        simp only [Option.bind_some, form_eta, hm]
        rw [if_neg (by simpa using hneg)]
        exact hr
      · cases r with
        | inl y => exact ⟨hp.1, by have := hp.2.1; omega, hp.2.2⟩
        | inr y => exact hp
theorem p_szFormS (a : List TForm) (n : Int) (hn : 0 ≤ n) (hn' : n ≤ 1048576) (ha : a.length ≤ 9223372036854775807) (hx : ∀ x ∈ a, wlF x) : ∃ r : Int, c_laws_szFormS M a n = some ((r, ()), ()) ∧ r ≤ n ∧ (0 ≤ r → a.length ≤ 1048576 ∧ ∀ x ∈ a, smF x) := by
  have hw : IntKind.i64.wrap (n - a.length) = n - a.length := w64 (by omega) (by omega)
  by_cases h1 : n - a.length < 0
  · refine ⟨-1, e_laws_szFormS _ _ ?_, by omega, by omega⟩
    simp only [q_laws_szFormS, hw]
    rw [if_pos (by simpa using h1)]
  · obtain ⟨r, hr, hp⟩ := p_szFormS_loop a (by omega) hx a.length 0 (n - a.length) (by omega) (by omega) (by omega) (by simp)
    rw [show ((0 : Nat) : Int) = 0 from rfl] at hr
    cases r with
    | inl y =>
      refine ⟨y.1, e_laws_szFormS _ _ ?_, by have := hp.2.1; omega, fun _ => ⟨by omega, hp.2.2⟩⟩
      simp only [q_laws_szFormS, hw]
      rw [if_neg (by simpa using h1), hr]
      rfl
    | inr y =>
      obtain ⟨⟨y, _⟩, _⟩ := y
      simp only at hp
      subst hp
      refine ⟨-1, e_laws_szFormS _ _ ?_, by omega, by omega⟩
      simp only [q_laws_szFormS, hw]
      rw [if_neg (by simpa using h1), hr]
      rfl

end Go.Proofs.YtcjaikkdpclaaaaAp.Ev

/- Plain laws: what the laws write into rows to tell whether they are shared, and read again. No condition but sizes. -/
namespace Go.Proofs.YtcjaikkdpclaaaaAp.Ev
open Go
set_option autoImplicit false
set_option linter.unusedVariables false
set_option linter.unusedSimpArgs false

/-- Numbers from one on. -/
def mkS (k : Int) : Nat → List Int
  | 0 => []
  | n + 1 => k :: mkS (k + 1) n
theorem mkS_len : ∀ (n : Nat) (k : Int), (mkS k n).length = n
  | 0, _ => rfl
  | n + 1, k => by simp [mkS, mkS_len n]

theorem set_mid {α : Type} (P R : List α) (x y : α) : (P ++ x :: R).set P.length y = P ++ y :: R := by
  rw [List.set_append_right _ _ (Nat.le_refl _)]; simp
theorem get_mid {α : Type} (P R : List α) (x : α) : (P ++ x :: R)[P.length]? = some x := by simp
theorem idx_midQ {α : Type} (P R : List α) (x : α) : idx (P ++ x :: R) (P.length : Int) = some x := by rw [idx_nat]; simp

theorem p_markIntS_loop : ∀ (R P : List Int) (k : Int), 0 ≤ k → k + R.length ≤ 4611686018427387904 → P.length + R.length ≤ 4611686018427387904 → l_laws_markIntS_26 M (P ++ R) k P.length = some (.inl (P ++ mkS k R.length, k + R.length, ())) := by
  intro R
  induction R with
  | nil =>
    intro P k _ _ _
    apply el_laws_markIntS_26
    simp [ql_laws_markIntS_26, mkS]
  | cons x R ih =>
    intro P k h0 hk hp
    simp only [List.length_cons] at hk hp
    apply el_laws_markIntS_26
    simp only [ql_laws_markIntS_26]
    rw [if_pos (by simp; omega), if_pos (by simp; omega), Int.toNat_natCast, get_mid, set_mid, w64 (x := k + 1) (by omega) (by omega), inc_nat (by omega)]
    simp only [Option.bind_some]
    have := ih (P ++ [k]) (k + 1) (by omega) (by omega) (by simp; omega)
    rw [List.append_assoc, List.length_append] at this
    simp only [List.cons_append, List.nil_append, List.length_cons, List.length_nil, Nat.zero_add] at this
    rw [this]
    simp only [List.length_cons, mkS, List.append_assoc, List.cons_append, List.nil_append]
    rw [show k + 1 + (R.length : Int) = k + ((R.length + 1 : Nat) : Int) by omega]
theorem p_markIntS (a : List Int) (k : Int) (h0 : 0 ≤ k) (hk : k + a.length ≤ 4611686018427387904) : c_laws_markIntS M a k = some ((k + a.length, ()), (mkS k a.length, ())) := by
  apply e_laws_markIntS
  have := p_markIntS_loop a [] k h0 hk (by simp; omega)
  simp only [List.nil_append, List.length_nil] at this
  rw [show ((0 : Nat) : Int) = 0 from rfl] at this
  simp only [q_laws_markIntS, this, Option.bind_some, Sum.elim_inl]

theorem p_heldIntS_loop : ∀ (n : Nat) (P : List Int) (k : Int), 0 ≤ k → k + n ≤ 4611686018427387904 → P.length + n ≤ 4611686018427387904 → l_laws_heldIntS_26 M (P ++ mkS k n) k P.length = some (.inl (k + n, ())) := by
  intro n
  induction n with
  | zero =>
    intro P k _ _ _
    apply el_laws_heldIntS_26
    simp [ql_laws_heldIntS_26, mkS]
  | succ n ih =>
    intro P k h0 hk hp
    rw [show mkS k (n + 1) = k :: mkS (k + 1) n from rfl]
    apply el_laws_heldIntS_26
    simp only [ql_laws_heldIntS_26]
    rw [if_pos (by simp [mkS_len]; omega), idx_midQ, w64 (x := k + 1) (by omega) (by omega), inc_nat (by omega)]
    simp only [Option.bind_some]
    rw [if_neg (by simp)]
    have := ih (P ++ [k]) (k + 1) (by omega) (by omega) (by simp; omega)
    rw [List.append_assoc, List.length_append] at this
    simp only [List.cons_append, List.nil_append, List.length_cons, List.length_nil, Nat.zero_add] at this
    rw [this, show k + 1 + (n : Int) = k + ((n + 1 : Nat) : Int) by omega]
theorem p_heldIntS (k : Int) (n : Nat) (h0 : 0 ≤ k) (hk : k + n ≤ 4611686018427387904) : c_laws_heldIntS M (mkS k n) k = some ((k + n, ()), ()) := by
  apply e_laws_heldIntS
  have := p_heldIntS_loop n [] k h0 hk (by simp; omega)
  simp only [List.nil_append, List.length_nil] at this
  rw [show ((0 : Nat) : Int) = 0 from rfl] at this
  simp only [q_laws_heldIntS, this, Option.bind_some, Sum.elim_inl]

theorem p_markSign (s : TSign) (k : Int) (h0 : 0 ≤ k) (hk : k + s.1.length ≤ 4611686018427387904) : c_laws_markSign M s k = some ((k + s.1.length, ()), ((mkS k s.1.length, ()), ())) := by
  apply e_laws_markSign
  simp only [q_laws_markSign, p_markIntS s.1 k h0 hk, Option.bind_some]

end Go.Proofs.YtcjaikkdpclaaaaAp.Ev

/- Plain laws: marks laid into nodes of formulas. No condition but sizes. -/
namespace Go.Proofs.YtcjaikkdpclaaaaAp.Ev
open Go
set_option autoImplicit false
set_option linter.unusedVariables false
set_option linter.unusedSimpArgs false

/-- How many marks nodes take. -/
def totF : List TForm → Nat
  | [] => 0
  | x :: r => 2 + x.2.2.1.length + x.2.2.2.1.length + totF r
/-- Nodes with marks. -/
def mkF (k : Int) : List TForm → List TForm
  | [] => []
  | x :: r => (k, k + 1, mkS (k + 2) x.2.2.1.length, mkS (k + 2 + x.2.2.1.length) x.2.2.2.1.length, ()) :: mkF (k + 2 + x.2.2.1.length + x.2.2.2.1.length) r
theorem mkF_len : ∀ (r : List TForm) (k : Int), (mkF k r).length = r.length
  | [], _ => rfl
  | x :: r, k => by simp [mkF, mkF_len r]
theorem totF_le : ∀ (r : List TForm), (∀ x ∈ r, smF x) → totF r ≤ 2097154 * r.length
  | [], _ => by simp [totF]
  | x :: r, h => by
    have h1 := h x (by simp)
    have h2 := totF_le r (fun y hy => h y (by simp [hy]))
    have h3 := h1.1
    have h4 := h1.2
    simp only [totF, List.length_cons]
    omega

theorem p_markFormS_loop : ∀ (R P : List TForm) (k : Int), 0 ≤ k → k + totF R ≤ 4611686018427387904 → P.length + R.length ≤ 4611686018427387904 → l_laws_markFormS_26 M (P ++ R) k P.length = some (.inl (P ++ mkF k R, k + totF R, ())) := by
  intro R
  induction R with
  | nil =>
    intro P k _ _ _
    apply el_laws_markFormS_26
    simp [ql_laws_markFormS_26, mkF, totF]
  | cons x R ih =>
    intro P k h0 hk hp
    simp only [List.length_cons, totF] at hk hp
    apply el_laws_markFormS_26
    simp only [ql_laws_markFormS_26]
    rw [if_pos (by simp; omega), if_pos (by simp; omega), Int.toNat_natCast, get_mid, inc_nat (by omega), w64 (x := k + 1) (by omega) (by omega), w64 (x := k + 1 + 1) (by omega) (by omega), show k + 1 + 1 = k + 2 by omega]
    simp only [Option.bind_some]
    rw [set_mid, if_pos (by simp; omega), get_mid]
    simp only [Option.bind_some]
    rw [set_mid, if_pos (by simp; omega), get_mid]
    simp only [Option.bind_some]
    rw [p_markIntS x.2.2.1 (k + 2) (by omega) (by omega)]
    simp only [Option.bind_some]
    rw [set_mid, if_pos (by simp; omega), get_mid]
    simp only [Option.bind_some]
    rw [p_markIntS x.2.2.2.1 (k + 2 + x.2.2.1.length) (by omega) (by omega)]
    simp only [Option.bind_some]
    rw [set_mid]
    have := ih (P ++ [(k, k + 1, mkS (k + 2) x.2.2.1.length, mkS (k + 2 + x.2.2.1.length) x.2.2.2.1.length, ())]) (k + 2 + x.2.2.1.length + x.2.2.2.1.length) (by omega) (by omega) (by simp; omega)
    rw [List.append_assoc, List.length_append] at this
    simp only [List.cons_append, List.nil_append, List.length_cons, List.length_nil, Nat.zero_add] at this
    rw [this]
    simp only [mkF, totF, List.append_assoc, List.cons_append, List.nil_append]
    rw [show k + 2 + (x.2.2.1.length : Int) + (x.2.2.2.1.length : Int) + (totF R : Int) = k + ((2 + x.2.2.1.length + x.2.2.2.1.length + totF R : Nat) : Int) by omega]
theorem p_markFormS (a : List TForm) (k : Int) (h0 : 0 ≤ k) (hk : k + totF a ≤ 4611686018427387904) (hl : a.length ≤ 4611686018427387904) : c_laws_markFormS M a k = some ((k + totF a, ()), (mkF k a, ())) := by
  apply e_laws_markFormS
  have := p_markFormS_loop a [] k h0 hk (by simp; omega)
  simp only [List.nil_append, List.length_nil] at this
  rw [show ((0 : Nat) : Int) = 0 from rfl] at this
  simp only [q_laws_markFormS, this, Option.bind_some, Sum.elim_inl]
end Go.Proofs.YtcjaikkdpclaaaaAp.Ev

/- Plain laws: marks in nodes of formulas. No condition but sizes. -/
namespace Go.Proofs.YtcjaikkdpclaaaaAp.Ev
open Go
set_option autoImplicit false
set_option linter.unusedVariables false
set_option linter.unusedSimpArgs false

theorem p_heldFormS_loop : ∀ (R P : List TForm) (k : Int), 0 ≤ k → k + totF R ≤ 4611686018427387904 → P.length + R.length ≤ 4611686018427387904 → l_laws_heldFormS_26 M (P ++ mkF k R) k P.length = some (.inl (k + totF R, ())) := by
  intro R
  induction R with
  | nil =>
    intro P k _ _ _
    apply el_laws_heldFormS_26
    simp [ql_laws_heldFormS_26, mkF, totF]
  | cons x R ih =>
    intro P k h0 hk hp
    simp only [List.length_cons, totF] at hk hp
    rw [show mkF k (x :: R) = (k, k + 1, mkS (k + 2) x.2.2.1.length, mkS (k + 2 + x.2.2.1.length) x.2.2.2.1.length, ()) :: mkF (k + 2 + x.2.2.1.length + x.2.2.2.1.length) R from rfl]
    apply el_laws_heldFormS_26
    simp only [ql_laws_heldFormS_26]
    rw [if_pos (by simp [mkF_len]; omega), idx_midQ, inc_nat (by omega), w64 (x := k + 1) (by omega) (by omega), w64 (x := k + 1 + 1) (by omega) (by omega), show k + 1 + 1 = k + 2 by omega]
    simp only [Option.bind_some]
    rw [if_neg (by simp), if_neg (by simp), p_heldIntS (k + 2) x.2.2.1.length (by omega) (by omega)]
    simp only [Option.bind_some]
    rw [if_neg (by simp; omega), p_heldIntS (k + 2 + x.2.2.1.length) x.2.2.2.1.length (by omega) (by omega)]
    simp only [Option.bind_some]
    rw [if_neg (by simp; omega)]
    have := ih (P ++ [(k, k + 1, mkS (k + 2) x.2.2.1.length, mkS (k + 2 + x.2.2.1.length) x.2.2.2.1.length, ())]) (k + 2 + x.2.2.1.length + x.2.2.2.1.length) (by omega) (by omega) (by simp; omega)
    rw [List.append_assoc, List.length_append] at this
    simp only [List.cons_append, List.nil_append, List.length_cons, List.length_nil, Nat.zero_add] at this
    rw [this]
    simp only [totF]
    rw [show k + 2 + (x.2.2.1.length : Int) + (x.2.2.2.1.length : Int) + (totF R : Int) = k + ((2 + x.2.2.1.length + x.2.2.2.1.length + totF R : Nat) : Int) by omega]
theorem p_heldFormS (a : List TForm) (k : Int) (h0 : 0 ≤ k) (hk : k + totF a ≤ 4611686018427387904) (hl : a.length ≤ 4611686018427387904) : c_laws_heldFormS M (mkF k a) k = some ((k + totF a, ()), ()) := by
  apply e_laws_heldFormS
  have := p_heldFormS_loop a [] k h0 hk (by simp; omega)
  simp only [List.nil_append, List.length_nil] at this
  rw [show ((0 : Nat) : Int) = 0 from rfl] at this
  simp only [q_laws_heldFormS, this, Option.bind_some, Sum.elim_inl]

end Go.Proofs.YtcjaikkdpclaaaaAp.Ev

/- Plain laws: FnExactApartForm. No condition but sizes. -/
namespace Go.Proofs.YtcjaikkdpclaaaaAp.Ev
open Go
set_option autoImplicit false
set_option linter.unusedVariables false
set_option linter.unusedSimpArgs false

theorem p_FnExactApartForm (s : TSign) (c : List TForm) (hs : s.1.length ≤ 9223372036854775807) (hc : c.length ≤ 9223372036854775807) (hx : ∀ x ∈ c, wlF x) : c_laws_FnExactApartForm M s c = some ((true, ()), ()) := by
  obtain ⟨r1, e1, g1, k1⟩ := p_szSign s 1048576 (by omega) (by omega) hs
  by_cases h1 : r1 < 0
  · apply e_laws_FnExactApartForm
    simp only [q_laws_FnExactApartForm, sign_eta', e1, Option.bind_some]
    rw [if_pos (by simpa using h1)]
  · obtain ⟨r2, e2, g2, k2⟩ := p_szFormS c r1 (by omega) g1 hc hx
    by_cases h2 : r2 < 0
    · apply e_laws_FnExactApartForm
      simp only [q_laws_FnExactApartForm, sign_eta', e1, e2, Option.bind_some]
      rw [if_neg (by simpa using h1), if_pos (by simpa using h2)]
    · have hs' := k1 (by omega)
      obtain ⟨hc', hx'⟩ := k2 (by omega)
      obtain ⟨r, t1, t2, o1, o2, _⟩ := p_Aparts s hs' c hc' hx'
      have b1 := totF_le c hx'
      have b2 := totF_le r.1.1 o2
      have m1 := p_markSign s 1 (by omega) (by omega)
      have m2 := p_markFormS c (1 + s.1.length) (by omega) (by omega) (by omega)
      have m3 := p_markFormS r.1.1 1 (by omega) (by omega) (by omega)
      have m4 := p_heldFormS r.1.1 1 (by omega) (by omega) (by omega)
      apply e_laws_FnExactApartForm
      simp only [q_laws_FnExactApartForm, sign_eta', e1, e2, Option.bind_some, p_toSign s (by omega), p_toFormS c hc' hx', t1, t2, p_eqSign s (by omega), p_eqFormS c hc' hx', p_eqFormS r.1.1 (by omega) o2, m1, m2, m3, m4]
      rw [if_neg (by simpa using h1), if_neg (by simpa using h2)]
      simp
      rw [if_neg (by omega), if_neg (by omega), if_neg (by omega)]
end Go.Proofs.YtcjaikkdpclaaaaAp.Ev
