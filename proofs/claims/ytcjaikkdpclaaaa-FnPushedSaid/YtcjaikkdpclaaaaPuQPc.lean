/- Texts laid together: QRa, QSa, QCa, PIa, PM, PNa, QPc; no condition but those that each theorem names. -/
import Derived.Test.YtcjaikkdpclaaaaPuQS
import Derived.Test.YtcjaikkdpclaaaaPuPGs
/- Plain laws: numbering bound variables apart, by the program: maps are copied, whatever the order. No condition but sizes. -/
namespace Go.Proofs.YtcjaikkdpclaaaaPu.Ev
open Go
set_option autoImplicit false
set_option linter.unusedVariables false
set_option linter.unusedSimpArgs false

theorem mins_comm {α : Type} (p q : Int × α) (h : p.1 ≠ q.1) : ∀ L : List (Int × α), mins p (mins q L) = mins q (mins p L)
  | [] => by
    simp only [mins]
    by_cases h1 : p.1 ≤ q.1
    · rw [if_pos h1, if_neg (by omega)]
    · rw [if_neg h1, if_pos (by omega)]
  | r :: t => by
    simp only [mins]
    by_cases h1 : p.1 ≤ r.1
    · by_cases h2 : q.1 ≤ r.1
      · rw [if_pos h1, if_pos h2]
        simp only [mins]
        by_cases h3 : p.1 ≤ q.1
        · rw [if_pos h3, if_neg (by omega), if_pos h2]
        · rw [if_neg h3, if_pos h1, if_pos (by omega)]
      · rw [if_pos h1, if_neg h2]
        simp only [mins]
        rw [if_pos h1, if_neg (by omega), if_neg h2]
    · by_cases h2 : q.1 ≤ r.1
      · rw [if_neg h1, if_pos h2]
        simp only [mins]
        rw [if_neg (by omega), if_neg h1, if_pos h2]
      · rw [if_neg h1, if_neg h2]
        simp only [mins]
        rw [if_neg h1, if_neg h2, mins_comm p q h t]
theorem msort_eq {α : Type} {xs ys : List (Int × α)} (h : List.Perm xs ys) : (xs.map Prod.fst).Nodup → msort xs = msort ys := by
  induction h with
  | nil => intro _; rfl
  | cons p _ ih =>
    intro hn
    simp only [List.map_cons, List.nodup_cons] at hn
    simp only [msort, ih hn.2]
  | swap p q l =>
    intro hn
    simp only [List.map_cons, List.nodup_cons, List.mem_cons, not_or] at hn
    simp only [msort]
    exact mins_comm q p hn.1.1 _
  | trans h1 h2 ih1 ih2 =>
    intro hn
    exact (ih1 hn).trans (ih2 (((h1.map Prod.fst).nodup_iff).1 hn))

theorem mput_new {α : Type} : ∀ (xs : List (Int × α)) (k : Int) (y : α), k ∉ xs.map Prod.fst → mput xs k y = xs ++ [(k, y)]
  | [], _, _, _ => rfl
  | (a, b) :: r, k, y, h => by
    simp only [List.map_cons, List.mem_cons, not_or] at h
    simp only [mput]
    rw [if_neg (fun e => h.1 e.symm), mput_new r k y h.2]; rfl
/-- Entries but one key's. -/
def bar {α : Type} (xs : List (Int × α)) (n : Int) : List (Int × α) := xs.filter fun q => !decide (q.1 = n)
theorem bar_leave {α : Type} (xs : List (Int × α)) (n : Int) : bar (leave xs n) n = bar xs n := by
  unfold bar leave
  rw [List.filter_filter]
  refine List.filter_congr fun x _ => ?_
  cases decide (x.1 = n) <;> rfl
theorem leave_perm {α : Type} : ∀ (xs : List (Int × α)) (p : Int × α), p ∈ xs → (xs.map Prod.fst).Nodup → List.Perm xs (p :: leave xs p.1)
  | q :: r, p, hp, hn => by
    simp only [List.map_cons, List.nodup_cons] at hn
    rcases List.mem_cons.1 hp with rfl | hp
    · have : leave (p :: r) p.1 = r := by
        unfold leave
        rw [List.filter_cons, if_neg (by simp)]
        refine List.filter_eq_self.2 fun x hx => ?_
        simp only [Bool.not_eq_true', decide_eq_false_iff_not]
        exact fun e => hn.1 (by rw [← e]; exact List.mem_map.2 ⟨x, hx, rfl⟩)
      rw [this]
    · have hne : ¬ q.1 = p.1 := fun e => hn.1 (by rw [e]; exact List.mem_map.2 ⟨p, hp, rfl⟩)
      have : leave (q :: r) p.1 = q :: leave r p.1 := by
        unfold leave
        rw [List.filter_cons, if_pos (by simp [hne])]
      rw [this]
      exact ((leave_perm r p hp hn.2).cons q).trans (List.Perm.swap p q _)
theorem leave_len {α : Type} (xs : List (Int × α)) (p : Int × α) (hp : p ∈ xs) (hn : (xs.map Prod.fst).Nodup) : (leave xs p.1).length + 1 = xs.length := by
  have := (leave_perm xs p hp hn).length_eq
  simp at this; omega
theorem leave_nodup {α : Type} {xs : List (Int × α)} (n : Int) (hn : (xs.map Prod.fst).Nodup) : ((leave xs n).map Prod.fst).Nodup := hn.sublist (List.filter_sublist.map _)
theorem bar_mem {α : Type} {xs : List (Int × α)} {n : Int} {q : Int × α} : q ∈ bar xs n ↔ q ∈ xs ∧ q.1 ≠ n := by
  unfold bar
  rw [List.mem_filter]; simp

/-- The loop that copies a map, but for one key. -/
theorem p_copy (T : Tree) (x : Int) (n : Int × Int × List Int × List Int × Unit) (o : Int × Int × List Int × List Int × List Tree × Unit) :
    ∀ (k : Nat) (left m : List (Int × Int)) (c : Option (Int × Int)), left.length = k → ((m ++ bar left n.2.1).map Prod.fst).Nodup → (left.map Prod.fst).Nodup → l_impl_tree_apart_1962 M T x n o m (c, left) = some (.inl (T, x, o, msort (m ++ bar left n.2.1), ())) := by
  intro k
  induction k with
  | zero =>
    intro left m c hl hm hn
    obtain rfl : left = [] := List.length_eq_zero_iff.1 hl
    apply el_impl_tree_apart_1962
    simp only [ql_impl_tree_apart_1962]
    refine pickL_to (fun _ => ?_) (by simp)
    simp [bar]
  | succ k ih =>
    intro left m c hl hm hn
    apply el_impl_tree_apart_1962
    simp only [ql_impl_tree_apart_1962]
    refine pickL_to (fun h => by rw [h] at hl; simp at hl) (fun p hp => ?_)
    have hlen := leave_len left p hp hn
    by_cases hpn : p.1 = n.2.1
    · rw [if_neg (by simp [hpn])]
      have := ih (leave left p.1) m (some p) (by omega) (by rw [hpn, bar_leave]; exact hm) (leave_nodup _ hn)
      rw [hpn, bar_leave] at this
      rw [hpn]
      exact this
    · rw [if_pos (by simp [hpn])]
      have hp2 : p ∈ bar left n.2.1 := bar_mem.2 ⟨hp, hpn⟩
      have hnm : p.1 ∉ m.map Prod.fst := by
        intro h
        rw [List.map_append, List.nodup_append] at hm
        exact hm.2.2 p.1 h p.1 (List.mem_map.2 ⟨p, hp2, rfl⟩) rfl
      have hbl : bar (leave left p.1) n.2.1 = leave (bar left n.2.1) p.1 := by
        unfold bar leave
        rw [List.filter_filter, List.filter_filter]
        refine List.filter_congr fun x _ => ?_
        rw [Bool.and_comm]
      have hbn : ((bar left n.2.1).map Prod.fst).Nodup := hn.sublist (List.filter_sublist.map _)
      have hperm : List.Perm (m ++ bar left n.2.1) (mput m p.1 p.2 ++ bar (leave left p.1) n.2.1) := by
        rw [mput_new m p.1 p.2 hnm, hbl, List.append_assoc]
        exact (leave_perm _ p hp2 hbn).append_left m
      have := ih (leave left p.1) (mput m p.1 p.2) (some p) (by omega) (((hperm.map Prod.fst).nodup_iff).1 hm) (leave_nodup _ hn)
      rw [← msort_eq hperm hm] at this
      exact this

theorem mget_bar {α : Type} (z : α) (n u : Int) (h : u ≠ n) : ∀ xs : List (Int × α), mget (bar xs n) u z = mget xs u z
  | [] => rfl
  | (a, b) :: r => by
    unfold bar
    rw [List.filter_cons]
    by_cases hb : a = n
    · rw [if_neg (by simp [hb])]
      simp only [mget]
      rw [if_neg (by rw [hb]; exact fun e => h e.symm)]
      exact mget_bar z n u h r
    · rw [if_pos (by simp [hb])]
      simp only [mget]
      split
      · rfl
      · exact mget_bar z n u h r
/-- What a map tells. -/
def Tells (to : List (Int × Int)) (f : Int → Int) : Prop := (to.map Prod.fst).Nodup ∧ (∀ v, mget to v 0 = f v) ∧ ∀ v, -1000000 ≤ f v ∧ f v ≤ 1000000
theorem Tells.upd {to : List (Int × Int)} {f : Int → Int} (h : Tells to f) (v n : Int) (n0 : 0 ≤ n) (n1 : n ≤ 1000000) : Tells (msort (mput [] v n ++ bar to v)) (updF f v n) ∧ ((mput [] v n ++ bar to v).map Prod.fst).Nodup := by
  obtain ⟨h1, h2, h3⟩ := h
  have hnd : ((mput [] v n ++ bar to v).map Prod.fst).Nodup := by
    simp only [mput, List.cons_append, List.nil_append, List.map_cons, List.nodup_cons]
    refine ⟨fun h => ?_, h1.sublist (List.filter_sublist.map _)⟩
    obtain ⟨q, hq, e⟩ := List.mem_map.1 h
    exact (bar_mem.1 hq).2 e
  have hsn : ((msort (mput [] v n ++ bar to v)).map Prod.fst).Nodup := (((msort_perm (mput [] v n ++ bar to v)).map Prod.fst).nodup_iff).2 hnd
  refine ⟨⟨hsn, fun u => ?_, fun u => ?_⟩, hnd⟩
  · rw [(mget_perm u 0 (msort_perm _) hsn).1]
    simp only [mput, List.cons_append, List.nil_append, mget]
    unfold updF
    by_cases e : u = v
    · rw [if_pos e.symm, if_pos e]
    · rw [if_neg (fun h => e h.symm), if_neg e, mget_bar 0 v u e, h2]
  · unfold updF
    split
    · omega
    · exact h3 u

theorem p_numbered_loop (to : List (Int × Int)) (f : Int → Int) (ht : Tells to f) (T : List Int) (hT : T.length ≤ 1000) (hv : ∀ m ∈ T, m < 0 → -1000000 ≤ m) : ∀ k i : Nat, i + k = T.length → l_impl_numbered_58 M to ((T.take i).map (nbr f) ++ T.drop i) T.length i = some (.inl (T.map (nbr f), ())) := by
  obtain ⟨_, a2, a3⟩ := ht
  intro k
  induction k with
  | zero =>
    intro i hi
    obtain rfl : i = T.length := by omega
    apply el_impl_numbered_58
    simp only [ql_impl_numbered_58]
    rw [if_neg (by simp)]
    simp
  | succ k ih =>
    intro i hi
    have h1 : i < T.length := by omega
    have hlen : ((T.take i).map (nbr f) ++ T.drop i).length = T.length := by simp; omega
    apply el_impl_numbered_58
    simp only [ql_impl_numbered_58]
    rw [if_pos (by simpa using h1), if_pos (by rw [hlen]; omega), Int.toNat_natCast, get_map _ _ _ h1]
    simp only [Option.bind_some]
    by_cases hn : T[i] < 0
    · have hm := hv _ (List.getElem_mem h1) hn
      have hb := a3 (-1 - T[i])
      rw [if_pos (by simpa using hn), w64 (x := -1 - T[i]) (by omega) (by omega), a2, if_pos (by rw [hlen]; omega)]
      simp only [Option.bind_some, Sum.elim_inl]
      rw [w64 (x := -1 - f (-1 - T[i])) (by omega) (by omega), inc_nat (by omega), upd_map (nbr f) T i h1 _ (by unfold nbr; rw [if_pos hn])]
      exact ih (i + 1) (by omega)
    · rw [if_neg (by simpa using hn)]
      simp only [Option.bind_some, Sum.elim_inl]
      rw [inc_nat (by omega)]
      have := ih (i + 1) (by omega)
      rw [← upd_map (nbr f) T i h1 T[i] (by unfold nbr; rw [if_neg hn])] at this
      have hs : ((T.take i).map (nbr f) ++ T.drop i).set i T[i] = (T.take i).map (nbr f) ++ T.drop i := by
        obtain ⟨q1, q2⟩ := List.getElem?_eq_some_iff.1 (get_map (nbr f) T i h1)
        conv => lhs; rw [← q2]
        exact List.set_getElem_self q1
      rw [hs] at this
      exact this
theorem p_numbered (to : List (Int × Int)) (f : Int → Int) (ht : Tells to f) (T : List Int) (hT : T.length ≤ 1000) (hv : ∀ m ∈ T, m < 0 → -1000000 ≤ m) : c_impl_numbered M T to = some ((T.map (nbr f), ()), ()) := by
  apply e_impl_numbered
  have := p_numbered_loop to f ht T hT hv T.length 0 (by omega)
  rw [show ((0 : Nat) : Int) = 0 from rfl, List.drop_zero, List.take_zero, List.map_nil, List.nil_append] at this
  simp only [q_impl_numbered]
  rw [if_pos (by omega), this]
  rfl

abbrev ANode := Int × Int × List Int × List Int × List Tree × Unit
def mkA (x : ANode) : Tree := Tree.mk x.1 x.2.1 x.2.2.1 x.2.2.2.1 x.2.2.2.2.1
theorem p_apart_end (to : List (Int × Int)) (n : Int) (o : ANode) (ts : List Tree) : l_impl_tree_apart_250 M to n o ts ts.length ts.length = some (.inl (n, o, ())) := by
  apply el_impl_tree_apart_250
  simp [ql_impl_tree_apart_250]
theorem p_apart_step (to : List (Int × Int)) (n n' : Int) (o : ANode) (ts : List Tree) (i : Nat) (hi : i < ts.length) (hl : ts.length ≤ 1000) (ho : o.2.2.2.2.1.length ≤ 1000) {y : ANode} (h : c_impl_tree_apart M ts[i] to n = some ((y, n', ()), ()))
    {r : (Int × ANode × Unit) ⊕ ((ANode × Int × Unit) × Unit)} (hr : l_impl_tree_apart_250 M to n' (o.1, o.2.1, o.2.2.1, o.2.2.2.1, o.2.2.2.2.1 ++ [mkA y], ()) ts ts.length ((i + 1 : Nat) : Int) = some r) : l_impl_tree_apart_250 M to n o ts ts.length (i : Int) = some r := by
  apply el_impl_tree_apart_250
  simp only [ql_impl_tree_apart_250]
  rw [if_pos (by simpa using hi), idx_lt hi]
  simp only [Option.bind_some, h]
  rw [if_pos (by simp; omega), inc_nat (by omega)]
  exact hr

theorem nil_nbr (f : Int → Int) : ([] : List Int).map (nbr f) = [] := rfl
/-- The program's numbering. -/
theorem p_apart {a : List Int} {h : List TForm} {t : Tree} (hf : FT a h t) : ∀ (to : List (Int × Int)) (f : Int → Int) (n : Int), Tells to f → 0 ≤ n → n + h.length ≤ 1000 →
    ∃ y : ANode, c_impl_tree_apart M t to n = some ((y, (apT t f n).2, ()), ()) ∧ mkA y = (apT t f n).1 ∧ n ≤ (apT t f n).2 ∧ (apT t f n).2 ≤ n + h.length := by
  induction hf with
  | @leaf x h h0 =>
    intro to f n ht n0 n1
    obtain ⟨ho, tl, tr⟩ := leaf_op h h0
    obtain ⟨l1, l2⟩ := isT_ge tl
    obtain ⟨r1, r2⟩ := isT_ge tr
    have e1 := p_numbered to f ht x.2.2.1 (by omega) (fun m hm _ => by have := l2 m hm; omega)
    have e2 := p_numbered to f ht x.2.2.2.1 (by omega) (fun m hm _ => by have := r2 m hm; omega)
    have n5 : (x.1 == 5) = false := by simp; omega
    have n6 : (x.1 == 6) = false := by simp; omega
    refine ⟨(x.1, x.2.1, x.2.2.1.map (nbr f), x.2.2.2.1.map (nbr f), [], ()), ?_, by rw [apT_leaf]; rfl, by rw [apT_leaf]; simp only; omega, by rw [apT_leaf]; simp only; omega⟩
    rw [apT_leaf]
    apply e_impl_tree_apart
    simp only [q_impl_tree_apart, treeK, e1, e2, Option.bind_some, n5, n6, Bool.false_eq_true, ↓reduceIte, Sum.elim_inl]
    have : l_impl_tree_apart_250 M to n (x.1, x.2.1, x.2.2.1.map (nbr f), x.2.2.2.1.map (nbr f), [], ()) [] (([] : List Tree).length : Int) 0 = some (.inl (n, (x.1, x.2.1, x.2.2.1.map (nbr f), x.2.2.2.1.map (nbr f), [], ()), ())) := p_apart_end to n (x.1, x.2.1, x.2.2.1.map (nbr f), x.2.2.2.1.map (nbr f), [], ()) []
    rw [this]
    rfl
  | @un x g t h h1 hg ih =>
    intro to f n ht n0 n1
    obtain ⟨h256, v0, v5⟩ := un_op h h1
    have hfl := nd_flat h (by omega)
    simp only [List.length_append, List.length_cons, List.length_nil] at n1 ⊢
    have e1 := p_numbered to f ht x.2.2.1 (by rw [hfl.1]; simp) (by rw [hfl.1]; simp)
    have e2 := p_numbered to f ht x.2.2.2.1 (by rw [hfl.2]; simp) (by rw [hfl.2]; simp)
    rw [hfl.1, nil_nbr] at e1
    rw [hfl.2, nil_nbr] at e2
    by_cases h2 : x.1 = 2
    · obtain ⟨y, i1, i2, i3, i4⟩ := ih to f n ht n0 (by omega)
      have n5 : (x.1 == 5) = false := by simp; omega
      have n6 : (x.1 == 6) = false := by simp; omega
      rw [apT_not x t f n h2]
      refine ⟨(x.1, x.2.1, [], [], [mkA y], ()), ?_, by rw [← i2]; simp only [mkA, mkT, hfl.1, hfl.2], i3, by simp only; omega⟩
      apply e_impl_tree_apart
      simp only [q_impl_tree_apart, treeK, hfl.1, hfl.2, e1, e2, Option.bind_some, n5, n6, Bool.false_eq_true, ↓reduceIte, Sum.elim_inl]
      have := p_apart_step to n _ (x.1, x.2.1, [], [], [], ()) [t] 0 (by simp) (by simp) (by simp) i1 (p_apart_end to _ _ [t])
      rw [show ((0 : Nat) : Int) = 0 from rfl] at this
      rw [this]
      rfl
    · have h56 : x.1 = 5 ∨ x.1 = 6 := by omega
      obtain ⟨ht', hnd⟩ := ht.upd x.2.1 n n0 (by omega)
      obtain ⟨y, i1, i2, i3, i4⟩ := ih (msort (mput [] x.2.1 n ++ bar to x.2.1)) (updF f x.2.1 n) (n + 1) ht' (by omega) (by omega)
      have hc := p_copy (mkT x [t]) n (x.1, x.2.1, [], [], ()) (x.1, x.2.1, [], [], [], ()) to.length to (mput [] x.2.1 n) none rfl hnd ht.1
      rw [apT_quant x t f n h2]
      refine ⟨(x.1, n, [], [], [mkA y], ()), ?_, by rw [← i2]; simp only [mkA, mkT, hfl.1, hfl.2], by simp only; omega, by simp only; omega⟩
      have hs := p_apart_step _ (n + 1) _ (x.1, n, [], [], [], ()) [t] 0 (by simp) (by simp) (by simp) i1 (p_apart_end _ _ _ [t])
      rw [show ((0 : Nat) : Int) = 0 from rfl] at hs
      apply e_impl_tree_apart
      rcases h56 with h5 | h6
      · simp only [q_impl_tree_apart, treeK, hfl.1, hfl.2, e1, e2, Option.bind_some, h5, Int.reduceBEq, Bool.false_eq_true, ↓reduceIte, Sum.elim_inl]
        rw [h5] at hc hs
        rw [hc]
        simp only [Option.bind_some, Sum.elim_inl, treeK]
        rw [w64 (x := n + 1) (by omega) (by omega), hs]
        rfl
      · simp only [q_impl_tree_apart, treeK, hfl.1, hfl.2, e1, e2, Option.bind_some, h6, Int.reduceBEq, Bool.false_eq_true, ↓reduceIte, Sum.elim_inl]
        rw [h6] at hc hs
        rw [hc]
        simp only [Option.bind_some, Sum.elim_inl, treeK]
        rw [w64 (x := n + 1) (by omega) (by omega), hs]
        rfl
  | @bin x g k t u h h2 hg hk ih1 ih2 =>
    intro to f n ht n0 n1
    have h34 := bin_op h h2
    have hfl := nd_flat h (by omega)
    simp only [List.length_append, List.length_cons, List.length_nil] at n1 ⊢
    have e1 := p_numbered to f ht x.2.2.1 (by rw [hfl.1]; simp) (by rw [hfl.1]; simp)
    have e2 := p_numbered to f ht x.2.2.2.1 (by rw [hfl.2]; simp) (by rw [hfl.2]; simp)
    rw [hfl.1, nil_nbr] at e1
    rw [hfl.2, nil_nbr] at e2
    have n5 : (x.1 == 5) = false := by simp; omega
    have n6 : (x.1 == 6) = false := by simp; omega
    obtain ⟨y, i1, i2, i3, i4⟩ := ih1 to f n ht n0 (by omega)
    obtain ⟨z, j1, j2, j3, j4⟩ := ih2 to f (apT t f n).2 ht (by omega) (by omega)
    rw [apT_bin x t u f n]
    refine ⟨(x.1, x.2.1, [], [], [mkA y, mkA z], ()), ?_, by rw [← i2, ← j2]; simp only [mkA, mkT, hfl.1, hfl.2], by simp only; omega, by simp only; omega⟩
    apply e_impl_tree_apart
    simp only [q_impl_tree_apart, treeK, hfl.1, hfl.2, e1, e2, Option.bind_some, n5, n6, Bool.false_eq_true, ↓reduceIte, Sum.elim_inl]
    have := p_apart_step to n _ (x.1, x.2.1, [], [], [], ()) [t, u] 0 (by simp) (by simp) (by simp) i1 (p_apart_step to _ _ (x.1, x.2.1, [], [], [mkA y], ()) [t, u] 1 (by simp) (by simp) (by simp) j1 (p_apart_end to _ _ [t, u]))
    rw [show ((0 : Nat) : Int) = 0 from rfl] at this
    rw [this]
    rfl
theorem p_apart0 {a : List Int} {h : List TForm} {t : Tree} (hf : FT a h t) (hl : h.length ≤ 100) : ∃ y : ANode, c_impl_tree_apart M t (msort ([] : List (Int × Int))) 0 = some ((y, (apT t (fun _ => 0) 0).2, ()), ()) ∧ mkA y = (apT t (fun _ => 0) 0).1 := by
  obtain ⟨y, h1, h2, _⟩ := p_apart hf [] (fun _ => 0) 0 ⟨by simp, fun _ => rfl, fun _ => ⟨by show (-1000000 : Int) ≤ 0; decide, by show (0 : Int) ≤ 1000000; decide⟩⟩ (by omega) (by omega)
  exact ⟨y, h1, h2⟩
end Go.Proofs.YtcjaikkdpclaaaaPu.Ev

/- Plain laws: a formula set apart, by both programs. No condition but sizes. -/
namespace Go.Proofs.YtcjaikkdpclaaaaPu.Ev
open Go
set_option autoImplicit false
set_option linter.unusedVariables false
set_option linter.unusedSimpArgs false

theorem p_Aparts (s : TSign) (hs : s.1.length ≤ 1048576) (f : List TForm) (hl : f.length ≤ 1048576) (hx : ∀ x ∈ f, smF x) : ∃ r : (List TForm × Bool × Unit) × Unit, c_spec_ApartForm M s f = some r ∧ c_impl_ApartForm M s f = some r ∧ r.1.1.length ≤ 15 ∧ (∀ x ∈ r.1.1, smF x) ∧
    (r.1.2.1 = true → gS s.1 = true ∧ fOK s.1 f = true ∧ ∃ (t : Tree) (L : List Int), FT s.1 f t ∧ c_impl_tree_freeIn M t = some ((L, ()), ()) ∧ L.length = 0 ∧ (apT t (fun _ => 0) 0).2 ≤ 6 ∧ FT s.1 r.1.1 (apT t (fun _ => 0) 0).1) := by
  obtain ⟨t, ht, hgt⟩ := p_formula s hs f
  have hspec := p_spec_GoodForm s hs f hl hx
  cases hb : (gS s.1 && fOK s.1 f) with
  | false =>
    rw [hb] at ht hspec
    refine ⟨(([], false, ()), ()), e_spec_ApartForm _ _ ?_, e_impl_ApartForm _ _ ?_, by simp, by simp, by simp⟩
    · simp only [q_spec_ApartForm, sign_eta', hspec, Option.bind_some]; rfl
    · simp only [q_impl_ApartForm, sign_eta', ht, Option.bind_some]; rfl
  | true =>
    rw [hb] at ht
    have hb' := hb
    simp only [Bool.and_eq_true, fOK, decide_eq_true_eq] at hb'
    obtain ⟨hg, h15, h16⟩ := hb'
    have hft := gT_FT (hgt hb)
    obtain ⟨L, R, f1, f2, f3, f4, f5⟩ := p_spec_Apart s hs f hl hx hb hft
    obtain ⟨y, g1, g2⟩ := p_apart0 hft (by omega)
    have hap : c_impl_tree_apartForm M t = some (if L.length = 0 then ((mkA y, decide ((apT t (fun _ => 0) 0).2 ≤ 6), ()), ()) else ((Tree.nil, false, ()), ())) := by
      apply e_impl_tree_apartForm
      simp only [q_impl_tree_apartForm, f1, Option.bind_some]
      by_cases h : L.length = 0
      · rw [if_neg (by simp [h]), if_pos h, g1]
        simp only [Option.bind_some]
        rfl
      · rw [if_pos (by simp; omega), if_neg h]
    refine ⟨_, f5, e_impl_ApartForm _ _ ?_, ?_⟩
    · simp only [q_impl_ApartForm, sign_eta', ht, Option.bind_some]
      rw [if_neg (by simp), hap]
      simp only [Option.bind_some]
      by_cases h : L.length = 0
      · rw [if_pos h]
        by_cases h6 : (apT t (fun _ => 0) 0).2 ≤ 6
        · have hR := f4 h6
          have hl := p_listed s hg (g := R) (t := mkA y) (by rw [g2]; exact f2) hR.sm (by omega)
          rw [hR.fOK' f3, if_pos rfl] at hl
          rw [if_neg (by simp [h6]), if_pos ⟨h, h6⟩, hl]
          rfl
        · rw [if_pos (by simp; omega), if_neg (fun q => h6 q.2)]
      · rw [if_neg h, if_neg (c := L.length = 0 ∧ _) (fun q => h q.1)]
        rfl
    · by_cases h : L.length = 0 ∧ (apT t (fun _ => 0) 0).2 ≤ 6
      · rw [if_pos h]
        exact ⟨f3, (f4 h.2).sm, fun _ => ⟨hg, (by simpa using hb : _ ∧ _).2, t, L, hft, f1, h.1, h.2, f4 h.2⟩⟩
      · rw [if_neg h]
        exact ⟨by simp, by simp, by simp⟩
end Go.Proofs.YtcjaikkdpclaaaaPu.Ev

/- Plain laws: PushNot, by both programs. No condition but sizes. -/
namespace Go.Proofs.YtcjaikkdpclaaaaPu.Ev
open Go
set_option autoImplicit false
set_option linter.unusedVariables false
set_option linter.unusedSimpArgs false

theorem p_PushNots (s : TSign) (hs : s.1.length ≤ 1048576) (f : List TForm) (hl : f.length ≤ 1048576) (hx : ∀ x ∈ f, smF x) (n : Bool) : ∃ r : (List TForm × Bool × Unit) × Unit, c_spec_PushNot M s f n = some r ∧ c_impl_PushNot M s f n = some r ∧ r.1.1.length ≤ 1000 ∧ (∀ x ∈ r.1.1, smF x) ∧ (r.1.2.1 = true → gS s.1 = true ∧ fOK s.1 r.1.1 = true ∧ fOK s.1 f = true) := by
  obtain ⟨t, ht, hgt⟩ := p_formula s hs f
  have hspec := p_spec_GoodForm s hs f hl hx
  cases hb : (gS s.1 && fOK s.1 f) with
  | false =>
    rw [hb] at ht hspec
    refine ⟨(([], false, ()), ()), e_spec_PushNot _ _ _ ?_, e_impl_PushNot _ _ _ ?_, by simp, by simp, by simp⟩
    · simp only [q_spec_PushNot, sign_eta', hspec, Option.bind_some]; rfl
    · simp only [q_impl_PushNot, sign_eta', ht, Option.bind_some]; rfl
  | true =>
    rw [hb] at ht hspec
    have hb' := hb
    simp only [Bool.and_eq_true, fOK, decide_eq_true_eq] at hb'
    obtain ⟨hg, h15, hgF⟩ := hb'
    have hft := gT_FT (hgt hb)
    obtain ⟨L, u, l1, l2, l3, l4, l5⟩ := p_push hft n
    have e5 := l5 [] [] (by simp; omega)
    simp only [List.nil_append, List.append_nil, List.length_nil, Int.natCast_zero, Int.zero_add] at e5
    have hpos := hft.pos
    have hform := p_l14Form s hg L (by omega) (fun x hx => (l3 x hx).1)
    refine ⟨if fOK s.1 L = true then ((L, true, ()), ()) else (([], false, ()), ()), e_spec_PushNot _ _ _ ?_, e_impl_PushNot _ _ _ ?_, ?_⟩
    · simp only [q_spec_PushNot, sign_eta', hspec, Option.bind_some]
      rw [if_neg (by simp), w64 (by omega) (by omega), e5]
      simp only [Option.bind_some, hform]
      cases fOK s.1 L <;> rfl
    · simp only [q_impl_PushNot, sign_eta', ht, Option.bind_some]
      rw [if_neg (by simp), l4]
      simp only [Option.bind_some, p_listed s hg l1 (fun x hx => (l3 x hx).1) (by omega)]
    · cases hL : fOK s.1 L with
      | false => simp
      | true => exact ⟨by simp only [if_pos]; omega, fun x hx => (l3 x (by simpa using hx)).1, fun _ => ⟨hg, by simpa using hL, by simp [fOK, h15, hgF]⟩⟩
end Go.Proofs.YtcjaikkdpclaaaaPu.Ev

/- Plain laws: formulas that are pushed, by both programs. No condition but sizes. -/
namespace Go.Proofs.YtcjaikkdpclaaaaPu.Ev
open Go
set_option autoImplicit false
set_option linter.unusedVariables false
set_option linter.unusedSimpArgs false

theorem p_impl_GoodForm (s : TSign) (hs : s.1.length ≤ 1048576) (f : List TForm) : c_impl_GoodForm M s f = some ((gS s.1 && fOK s.1 f, ()), ()) := by
  obtain ⟨t, h, _⟩ := p_formula s hs f
  apply e_impl_GoodForm
  simp only [q_impl_GoodForm, sign_eta', h, Option.bind_some]

theorem p_pushed_loops (a : List Int) (f : List TForm) (hl : f.length ≤ 15) : ∀ k i p : Nat, i + k = f.length → p ≤ i → gF a p (f.drop i) = true → ∃ r, l_spec_l14Pushed_26 M f f f.length i = some r ∧ l_impl_isPushed_26 M f f f.length i = some r := by
  intro k
  induction k with
  | zero =>
    intro i p hi hp hg
    obtain rfl : i = f.length := by omega
    exact ⟨.inl (), el_spec_l14Pushed_26 _ _ _ _ (by simp [ql_spec_l14Pushed_26]), el_impl_isPushed_26 _ _ _ _ (by simp [ql_impl_isPushed_26])⟩
  | succ k ih =>
    intro i p hi hp hg
    have h1 : i < f.length := by omega
    rw [List.drop_eq_getElem_cons h1] at hg
    simp only [gF, Bool.and_eq_true, decide_eq_true_eq] at hg
    obtain ⟨hn, ho, hr⟩ := hg
    have hop := ndOK_opn hn
    obtain ⟨r, g1, g2⟩ := ih (i + 1) (p - (opn f[i].1).toNat + 1) (by omega) (by omega) hr
    by_cases h2 : f[i].1 = 2
    · have hop1 := hop.2.2 h2
      have hi1 : 1 ≤ i := by omega
      have hlt : i - 1 < f.length := by omega
      have ew : IntKind.i64.wrap ((i : Int) - 1) = ((i - 1 : Nat) : Int) := by rw [w64 (by omega) (by omega)]; omega
      by_cases h3 : f[i - 1].1 = 1
      · refine ⟨r, el_spec_l14Pushed_26 _ _ _ _ ?_, el_impl_isPushed_26 _ _ _ _ ?_⟩
        · simp only [ql_spec_l14Pushed_26]
          rw [if_pos (by simpa using h1), idx_lt h1]
          simp only [Option.bind_some]
          rw [if_pos (by simpa using h2), ew, idx_lt hlt, inc_nat (by omega)]
          simp only [Option.bind_some]
          rw [if_neg (by simpa using h3)]
          exact g1
        · simp only [ql_impl_isPushed_26]
          rw [if_pos (by simpa using h1), idx_lt h1]
          simp only [Option.bind_some]
          rw [if_pos (by simpa using h2), ew, idx_lt hlt, inc_nat (by omega)]
          simp only [Option.bind_some]
          rw [if_neg (by simpa using h3)]
          exact g2
      · refine ⟨.inr ((false, ()), ()), el_spec_l14Pushed_26 _ _ _ _ ?_, el_impl_isPushed_26 _ _ _ _ ?_⟩
        · simp only [ql_spec_l14Pushed_26]
          rw [if_pos (by simpa using h1), idx_lt h1]
          simp only [Option.bind_some]
          rw [if_pos (by simpa using h2), ew, idx_lt hlt]
          simp only [Option.bind_some]
          rw [if_pos (by simpa using h3)]
        · simp only [ql_impl_isPushed_26]
          rw [if_pos (by simpa using h1), idx_lt h1]
          simp only [Option.bind_some]
          rw [if_pos (by simpa using h2), ew, idx_lt hlt]
          simp only [Option.bind_some]
          rw [if_pos (by simpa using h3)]
    · refine ⟨r, el_spec_l14Pushed_26 _ _ _ _ ?_, el_impl_isPushed_26 _ _ _ _ ?_⟩
      · simp only [ql_spec_l14Pushed_26]
        rw [if_pos (by simpa using h1), idx_lt h1]
        simp only [Option.bind_some]
        rw [if_neg (by simpa using h2), inc_nat (by omega)]
        exact g1
      · simp only [ql_impl_isPushed_26]
        rw [if_pos (by simpa using h1), idx_lt h1]
        simp only [Option.bind_some]
        rw [if_neg (by simpa using h2), inc_nat (by omega)]
        exact g2

theorem p_IsPusheds (s : TSign) (hs : s.1.length ≤ 1048576) (c : List TForm) (hc : c.length ≤ 1048576) (hx : ∀ x ∈ c, smF x) : ∃ t : Bool × Bool, c_spec_IsPushed M s c = some ((t.1, t.2, ()), ()) ∧ c_impl_IsPushed M s c = some ((t.1, t.2, ()), ()) := by
  cases h : (gS s.1 && fOK s.1 c) with
  | false =>
    refine ⟨(false, false), e_spec_IsPushed _ _ ?_, e_impl_IsPushed _ _ ?_⟩
    · simp only [q_spec_IsPushed, sign_eta', p_spec_GoodForm s hs c hc hx, h, Option.bind_some]; rfl
    · simp only [q_impl_IsPushed, sign_eta', p_impl_GoodForm s hs c, h, Option.bind_some]; rfl
  | true =>
    have h' := h
    simp only [Bool.and_eq_true, fOK, decide_eq_true_eq] at h'
    obtain ⟨r, g1, g2⟩ := p_pushed_loops s.1 c h'.2.1 c.length 0 0 (by omega) (by omega) h'.2.2
    rw [show ((0 : Nat) : Int) = 0 from rfl] at g1 g2
    have : ∃ b : Bool, c_spec_l14Pushed M c = some ((b, ()), ()) ∧ c_impl_isPushed M c = some ((b, ()), ()) := by
      cases r with
      | inl r =>
        refine ⟨true, e_spec_l14Pushed _ ?_, e_impl_isPushed _ ?_⟩
        · simp only [q_spec_l14Pushed, g1, Option.bind_some, Sum.elim_inl]
        · simp only [q_impl_isPushed, g2, Option.bind_some, Sum.elim_inl]
      | inr r =>
        refine ⟨r.1.1, e_spec_l14Pushed _ ?_, e_impl_isPushed _ ?_⟩
        · simp only [q_spec_l14Pushed, g1, Option.bind_some, Sum.elim_inr]
        · simp only [q_impl_isPushed, g2, Option.bind_some, Sum.elim_inr]
    obtain ⟨b, b1, b2⟩ := this
    refine ⟨(b, true), e_spec_IsPushed _ _ ?_, e_impl_IsPushed _ _ ?_⟩
    · simp only [q_spec_IsPushed, sign_eta', p_spec_GoodForm s hs c hc hx, h, Option.bind_some, b1]; rfl
    · simp only [q_impl_IsPushed, sign_eta', p_impl_GoodForm s hs c, h, Option.bind_some, b2]; rfl
end Go.Proofs.YtcjaikkdpclaaaaPu.Ev

/- Plain laws: the truth of formulas in a world: both programs tell the same. No condition but sizes. -/
namespace Go.Proofs.YtcjaikkdpclaaaaPu.Ev
open Go
set_option autoImplicit false
set_option linter.unusedVariables false
set_option linter.unusedSimpArgs false

/-! ### The truth of a formula -/
theorem p_quant {a : List Int} {w : TWorld} (h3 : w.1 ≤ 3) (F : List TForm) (pos : Nat) (hpos : pos ≤ 1000) (t : Tree) (x : TForm) (v0 : 0 ≤ x.2.1) (v5 : x.2.1 ≤ 5) (ho : x.1 = 5 ∨ x.1 = 6) (env : List Int) (he : envOK w.1 env = true)
    (ih : ∀ env, envOK w.1 env = true → ∃ b, c_impl_tree_holds M t (a, ()) w env = some ((b, ()), ()) ∧ c_spec_l14Holds M (a, ()) w F ((pos : Int) - 1) env = some ((b, ()), ())) :
    ∀ (k i : Nat) (e : List Int), (i : Int) + k = w.1 → e.length = 12 → (∀ v, e.set x.2.1.toNat v = env.set x.2.1.toNat v) → ∃ r : Option Bool, l_spec_l14Holds_122 M F pos env (a, ()) w x i = some (match r with | none => .inl (x, ()) | some b => .inr ((b, ()), ())) ∧
      l_impl_tree_holds_250 M (mkT x [t]) e (a, ()) w x w.1 i = some (match r with | none => .inl (x, ()) | some b => .inr ((b, ()), ())) := by
  have hel : env.length = 12 := by simp only [envOK, Bool.and_eq_true, decide_eq_true_eq] at he; exact he.1
  intro k
  induction k with
  | zero =>
    intro i e hi hl hs
    refine ⟨none, el_spec_l14Holds_122 _ _ _ _ _ _ _ ?_, el_impl_tree_holds_250 _ _ _ _ _ _ _ ?_⟩
    · simp only [ql_spec_l14Holds_122]
      rw [if_neg (by simp <;> omega), form_eta]
    · simp only [ql_impl_tree_holds_250]
      rw [if_neg (by simp <;> omega), form_eta]
  | succ k ihk =>
    intro i e hi hl hs
    obtain ⟨b, b1, b2⟩ := ih (env.set x.2.1.toNat i) (envOK_set he _ _ (by omega) (by omega))
    have hx1 : x.2.1.toNat < env.length := by omega
    have hx2 : x.2.1.toNat < e.length := by omega
    have hix : idx [t] 0 = some t := rfl
    have pre1 : ∀ r, (if (!(b == (x.1 == (5 : Int)))) = true then (some (.inr (((x.1 == (6 : Int)), ()), ()))) else l_spec_l14Holds_122 M F pos env (a, ()) w x ((i + 1 : Nat) : Int)) = some r → l_spec_l14Holds_122 M F pos env (a, ()) w x i = some r := by
      intro r hr
      apply el_spec_l14Holds_122
      simp only [ql_spec_l14Holds_122]
      rw [if_pos (by simp <;> omega), p_own env (by omega)]
      simp only [Option.bind_some]
      rw [if_pos (by omega), List.getElem?_eq_getElem hx1]
      simp only [Option.bind_some]
      rw [w64 (by omega) (by omega), world_eta, b2, inc_nat (by omega), form_eta]
      exact hr
    have pre2 : ∀ r, (if (b == (x.1 == (6 : Int))) = true then (some (.inr (((x.1 == (6 : Int)), ()), ()))) else l_impl_tree_holds_250 M (mkT x [t]) (e.set x.2.1.toNat i) (a, ()) w x w.1 ((i + 1 : Nat) : Int)) = some r → l_impl_tree_holds_250 M (mkT x [t]) e (a, ()) w x w.1 i = some r := by
      intro r hr
      apply el_impl_tree_holds_250
      simp only [ql_impl_tree_holds_250]
      rw [if_pos (by simp <;> omega), if_pos (by omega), List.getElem?_eq_getElem hx2]
      simp only [Option.bind_some, treeK, hix]
      rw [world_eta, hs, b1, inc_nat (by omega), form_eta, ← hs]
      exact hr
    obtain ⟨r, r1, r2⟩ := ihk (i + 1) (e.set x.2.1.toNat i) (by omega) (by simpa using hl) (fun v => by rw [List.set_set, hs])
    rcases ho with ho | ho
    · cases b with
      | true => exact ⟨r, pre1 _ (by simpa [ho] using r1), pre2 _ (by simpa [ho] using r2)⟩
      | false => exact ⟨some false, pre1 _ (by simp [ho]), pre2 _ (by simp [ho])⟩
    · cases b with
      | true => exact ⟨some true, pre1 _ (by simp [ho]), pre2 _ (by simp [ho])⟩
      | false => exact ⟨r, pre1 _ (by simpa [ho] using r1), pre2 _ (by simpa [ho] using r2)⟩

theorem p_holds {a : List Int} (hg : gS a = true) {w : TWorld} (hw : wOK a w = true) {g : List TForm} {t : Tree} (hf : FT a g t) : g.length ≤ 900 → ∀ (pre post : List TForm), pre.length + g.length ≤ 900 → ∀ env, envOK w.1 env = true →
    ∃ b, c_impl_tree_holds M t (a, ()) w env = some ((b, ()), ()) ∧ c_spec_l14Holds M (a, ()) w (pre ++ (g ++ post)) ((pre.length : Int) + g.length - 1) env = some ((b, ()), ()) := by
  obtain ⟨h1, h3, hwl, hwt⟩ := wOK_parts hw
  induction hf with
  | @leaf x h h0 =>
    intro _ pre post _ env he
    obtain ⟨ho, hL, hR⟩ := leaf_op h h0
    obtain ⟨v, v1, v2⟩ := p_evals (a, ()) hg w hw env he _ hL
    obtain ⟨u, u1, u2⟩ := p_evals (a, ()) hg w hw env he _ hR
    refine ⟨v == u, e_impl_tree_holds _ _ _ _ ?_, ?_⟩
    · simp only [q_impl_tree_holds, treeK, ho, Int.reduceBEq, Bool.false_eq_true, ↓reduceIte, world_eta, v1, u1, Option.bind_some]
    · simp only [List.length_cons, List.length_nil, List.singleton_append]
      rw [show (pre.length : Int) + ((0 + 1 : Nat) : Int) - 1 = (pre.length : Int) by omega]
      apply e_spec_l14Holds
      simp only [q_spec_l14Holds, idx_mid, Option.bind_some, ho, Int.reduceBEq, Bool.false_eq_true, ↓reduceIte, world_eta, v2, u2]
  | @un x g t h h1' hgt ih =>
    intro hlen pre post hl env he
    simp only [List.length_append, List.length_cons, List.length_nil] at hlen hl
    obtain ⟨hop, hv0, hv5⟩ := un_op h h1'
    have hix : idx [t] 0 = some t := rfl
    have hpt : idx (pre ++ (g ++ [x] ++ post)) (((pre ++ g).length : Nat) : Int) = some x := by
      have := idx_mid (pre ++ g) post x
      simpa using this
    have hee : (pre.length : Int) + ((g ++ [x]).length : Int) - 1 = (((pre ++ g).length : Nat) : Int) := by simp; omega
    have ih' : ∀ env, envOK w.1 env = true → ∃ b, c_impl_tree_holds M t (a, ()) w env = some ((b, ()), ()) ∧ c_spec_l14Holds M (a, ()) w (pre ++ (g ++ [x] ++ post)) ((((pre ++ g).length : Nat) : Int) - 1) env = some ((b, ()), ()) := by
      intro env he
      obtain ⟨b, b1, b2⟩ := ih (by omega) pre (x :: post) (by omega) env he
      exact ⟨b, b1, by simpa using b2⟩
    have hlp : (pre ++ g).length ≤ 1000 := by simp; omega
    rw [hee]
    have hel : env.length = 12 := by simp only [envOK, Bool.and_eq_true, decide_eq_true_eq] at he; exact he.1
    by_cases h2 : x.1 = 2
    · obtain ⟨b, b1, b2⟩ := ih' env he
      refine ⟨!b, e_impl_tree_holds _ _ _ _ ?_, e_spec_l14Holds _ _ _ _ _ ?_⟩
      · simp only [q_impl_tree_holds, treeK, h2, Int.reduceBEq, Bool.false_eq_true, ↓reduceIte, world_eta, hix, b1, Option.bind_some]
      · simp only [q_spec_l14Holds, hpt, Option.bind_some, h2, Int.reduceBEq, Bool.false_eq_true, ↓reduceIte, world_eta]
        rw [w64 (by omega) (by omega), b2]
        rfl
    · have ho : x.1 = 5 ∨ x.1 = 6 := by omega
      obtain ⟨r, r1, r2⟩ := p_quant (a := a) h3 (pre ++ (g ++ [x] ++ post)) (pre ++ g).length hlp t x hv0 hv5 ho env he ih' w.1.toNat 0 env (by omega) hel (fun _ => rfl)
      rw [show ((0 : Nat) : Int) = 0 from rfl] at r1 r2
      refine ⟨r.getD (x.1 == 5), e_impl_tree_holds _ _ _ _ ?_, e_spec_l14Holds _ _ _ _ _ ?_⟩
      · have e1 : (x.1 == (1 : Int)) = false := beq_false_of_ne (by omega)
        have e2 : (x.1 == (2 : Int)) = false := beq_false_of_ne (by omega)
        have e3 : (x.1 == (3 : Int)) = false := beq_false_of_ne (by omega)
        have e4 : (x.1 == (4 : Int)) = false := beq_false_of_ne (by omega)
        simp only [q_impl_tree_holds, treeK, e1, e2, e3, e4, Bool.false_eq_true, ↓reduceIte, world_eta, form_eta]
        rw [if_pos (by omega)]
        have r2' : l_impl_tree_holds_250 M (Tree.mk x.1 x.2.1 x.2.2.1 x.2.2.2.1 [t]) env (a, ()) w x w.1 0 = _ := r2
        rw [r2']
        cases r <;> rfl
      · have e1 : (x.1 == (1 : Int)) = false := beq_false_of_ne (by omega)
        have e2 : (x.1 == (2 : Int)) = false := beq_false_of_ne (by omega)
        have e3 : (x.1 == (3 : Int)) = false := beq_false_of_ne (by omega)
        have e4 : (x.1 == (4 : Int)) = false := beq_false_of_ne (by omega)
        simp only [q_spec_l14Holds, hpt, Option.bind_some, e1, e2, e3, e4, Bool.false_eq_true, ↓reduceIte, world_eta, form_eta, r1]
        cases r <;> rfl
  | @bin x g k t u h h2 hgt hkt ih1 ih2 =>
    intro hlen pre post hl env he
    simp only [List.length_append, List.length_cons, List.length_nil] at hlen hl
    have hop := bin_op h h2
    have hix : idx [t, u] 0 = some t := rfl
    have hix1 : idx [t, u] 1 = some u := rfl
    have hpt : idx (pre ++ (g ++ k ++ [x] ++ post)) (((pre ++ (g ++ k)).length : Nat) : Int) = some x := by
      have := idx_mid (pre ++ (g ++ k)) post x
      simpa using this
    have hee : (pre.length : Int) + ((g ++ k ++ [x]).length : Int) - 1 = (((pre ++ (g ++ k)).length : Nat) : Int) := by simp; omega
    have hlp : (pre ++ (g ++ k)).length ≤ 1000 := by simp; omega
    have hfi : c_spec_l14First M (pre ++ (g ++ k ++ [x] ++ post)) (((pre ++ (g ++ k)).length : Nat) : Int) = some (((((pre ++ g).length : Nat) : Int) - 1, ()), ()) := by
      have := p_l14First hkt (pre ++ g) (x :: post) (by simp; omega)
      simp only [List.append_assoc, List.length_append] at this ⊢
      rw [show ((pre.length + g.length : Nat) : Int) + (k.length : Int) = ((pre.length + (g.length + k.length) : Nat) : Int) by omega] at this
      simpa using this
    obtain ⟨b, b1, b2⟩ := ih1 (by omega) pre (k ++ x :: post) (by omega) env he
    obtain ⟨c, c1, c2⟩ := ih2 (by omega) (pre ++ g) (x :: post) (by simp; omega) env he
    have b2' : c_spec_l14Holds M (a, ()) w (pre ++ (g ++ k ++ [x] ++ post)) ((((pre ++ g).length : Nat) : Int) - 1) env = some ((b, ()), ()) := by simpa using b2
    have c2' : c_spec_l14Holds M (a, ()) w (pre ++ (g ++ k ++ [x] ++ post)) (IntKind.i64.wrap ((((pre ++ (g ++ k)).length : Nat) : Int) - 1)) env = some ((c, ()), ()) := by
      rw [w64 (by omega) (by omega)]
      simp only [List.append_assoc, List.length_append] at c2 ⊢
      rw [show ((pre.length + g.length : Nat) : Int) + (k.length : Int) = ((pre.length + (g.length + k.length) : Nat) : Int) by omega] at c2
      simpa using c2
    rw [hee]
    rcases hop with ho | ho
    · refine ⟨b && c, e_impl_tree_holds _ _ _ _ ?_, e_spec_l14Holds _ _ _ _ _ ?_⟩
      · simp only [q_impl_tree_holds, treeK, ho, Int.reduceBEq, Bool.false_eq_true, ↓reduceIte, world_eta, hix, hix1, b1, c1, Option.bind_some]
        cases b <;> rfl
      · simp only [q_spec_l14Holds, hpt, Option.bind_some, ho, Int.reduceBEq, Bool.false_eq_true, ↓reduceIte, world_eta, hfi, b2', c2']
        cases b <;> rfl
    · refine ⟨b || c, e_impl_tree_holds _ _ _ _ ?_, e_spec_l14Holds _ _ _ _ _ ?_⟩
      · simp only [q_impl_tree_holds, treeK, ho, Int.reduceBEq, Bool.false_eq_true, ↓reduceIte, world_eta, hix, hix1, b1, c1, Option.bind_some]
        cases b <;> rfl
      · simp only [q_spec_l14Holds, hpt, Option.bind_some, ho, Int.reduceBEq, Bool.false_eq_true, ↓reduceIte, world_eta, hfi, b2', c2']
        cases b <;> rfl

end Go.Proofs.YtcjaikkdpclaaaaPu.Ev

/- Plain laws: the truth of a formula, by both programs. No condition but sizes. -/
namespace Go.Proofs.YtcjaikkdpclaaaaPu.Ev
open Go
set_option autoImplicit false
set_option linter.unusedVariables false
set_option linter.unusedSimpArgs false

theorem p_l5Env (w : TWorld) (h1 : 1 ≤ w.1) (h3 : w.1 ≤ 3) (e : List Int) : c_spec_l5Env M w e = some ((envOK w.1 e, ()), ()) := by
  apply e_spec_l5Env
  simp only [q_spec_l5Env, envOK, beq_iff_eq]
  by_cases h : e.length = 12
  · rw [if_pos (by omega), p_elAll w.1 e (by omega) h1 h3, decide_eq_true h]; rfl
  · rw [if_neg (by omega), decide_eq_false h]; rfl
theorem p_HoldsForms (s : TSign) (hs : s.1.length ≤ 1048576) (w : TWorld) (hwl : w.2.1.length ≤ 1048576) (hwx : ∀ y ∈ w.2.1, smS y) (f : List TForm) (hf : f.length ≤ 1048576) (hx : ∀ x ∈ f, smF x) (env : List Int) :
    ∃ t : Bool × Bool, c_spec_HoldsForm M s w f env = some ((t.1, t.2, ()), ()) ∧ c_impl_HoldsForm M s w f env = some ((t.1, t.2, ()), ()) := by
  obtain ⟨t, ft, fT⟩ := p_formula s hs f
  have hGW := p_spec_GoodWorld s hs w hwl hwx
  cases hg : gS s.1 with
  | false =>
    rw [hg] at ft hGW
    refine ⟨(false, false), e_spec_HoldsForm _ _ _ _ ?_, e_impl_HoldsForm _ _ _ _ ?_⟩
    · simp only [q_spec_HoldsForm, sign_eta', world_eta, hGW, Option.bind_some]; rfl
    · simp only [q_impl_HoldsForm, sign_eta', ft, Option.bind_some]; rfl
  | true =>
    have hF := p_l14Form s hg f hf hx
    have hW := p_isWorld s hg w hwl hwx
    rw [hg] at ft hGW fT
    simp only [Bool.true_and] at ft hGW fT
    cases hfo : fOK s.1 f with
    | false =>
      rw [hfo] at ft hF
      refine ⟨(false, false), e_spec_HoldsForm _ _ _ _ ?_, e_impl_HoldsForm _ _ _ _ ?_⟩
      · simp only [q_spec_HoldsForm, sign_eta', world_eta, hGW, hF, Option.bind_some]
        cases wOK s.1 w <;> rfl
      · simp only [q_impl_HoldsForm, sign_eta', ft, Option.bind_some]; rfl
    | true =>
      rw [hfo] at ft hF
      cases hw : wOK s.1 w with
      | false =>
        rw [hw] at hGW hW
        refine ⟨(false, false), e_spec_HoldsForm _ _ _ _ ?_, e_impl_HoldsForm _ _ _ _ ?_⟩
        · simp only [q_spec_HoldsForm, sign_eta', world_eta, hGW, Option.bind_some]; rfl
        · simp only [q_impl_HoldsForm, sign_eta', world_eta, ft, hW, Option.bind_some]; rfl
      | true =>
        rw [hw] at hGW hW
        obtain ⟨w1, w3, _, _⟩ := wOK_parts hw
        have hE1 := p_l5Env w w1 w3 env
        have hE2 := p_isEnv w env
        cases he : envOK w.1 env with
        | false =>
          rw [he] at hE1 hE2
          refine ⟨(false, false), e_spec_HoldsForm _ _ _ _ ?_, e_impl_HoldsForm _ _ _ _ ?_⟩
          · simp only [q_spec_HoldsForm, sign_eta', world_eta, hGW, hF, hE1, Option.bind_some]; rfl
          · simp only [q_impl_HoldsForm, sign_eta', world_eta, ft, hW, hE2, Option.bind_some]; rfl
        | true =>
          rw [he] at hE1 hE2
          have hFT := gT_FT (fT hfo)
          have h15 : f.length ≤ 15 := by simp only [fOK, Bool.and_eq_true, decide_eq_true_eq] at hfo; exact hfo.1
          have hpos := hFT.pos
          obtain ⟨b, b1, b2⟩ := p_holds hg hw hFT (by omega) [] [] (by simp; omega) env he
          refine ⟨(b, true), e_spec_HoldsForm _ _ _ _ ?_, e_impl_HoldsForm _ _ _ _ ?_⟩
          · simp only [q_spec_HoldsForm, sign_eta', world_eta, hGW, hF, hE1, Option.bind_some]
            rw [w64 (by omega) (by omega)]
            simp only [List.nil_append, List.append_nil, List.length_nil, show ((0 : Nat) : Int) = 0 from rfl, Int.zero_add, sign_eta'] at b2
            rw [b2]
            rfl
          · simp only [q_impl_HoldsForm, sign_eta', world_eta, ft, hW, hE2, Option.bind_some]
            rw [sign_eta'] at b1
            rw [b1]
            rfl
end Go.Proofs.YtcjaikkdpclaaaaPu.Ev

/- Plain laws: FnPushed. No condition but that bytes are bytes and fit in memory. -/
namespace Go.Proofs.YtcjaikkdpclaaaaPu.Ev
open Go
set_option autoImplicit false
set_option linter.unusedVariables false
set_option linter.unusedSimpArgs false

theorem bind_of {α β : Type} {A : Option α} {x : α} {K : α → Option β} {r : Option β} (h : A = some x) (k : K x = r) : A.bind K = r := by rw [h]; exact k
theorem p_closed {a : List Int} {h : List TForm} {t : Tree} (hf : FT a h t) (hl : h.length ≤ 100) {L : List Int} (hL : c_impl_tree_freeIn M t = some ((L, ()), ())) (h0 : L.length = 0) : ∀ v, 0 ≤ v → fvT t v = false := by
  obtain ⟨L1, u1, u2, u3, _, u5⟩ := p_freeX hf
  obtain ⟨L2, v1, v2, v3, v4⟩ := p_freeIn hf hl
  have e := u3 [] [] (by simpa using hl)
  simp only [List.nil_append, List.append_nil, List.length_nil, Int.natCast_zero, Int.zero_add] at e
  rw [v3] at e
  obtain rfl : L2 = L1 := by simpa using e
  rw [v4] at hL
  obtain rfl : L2 = L := by simpa using hL
  intro v hv
  cases hfv : fvT t v with
  | false => rfl
  | true =>
    have := (u5 v).2 ⟨hv, hfv⟩
    rw [List.eq_nil_of_length_eq_zero h0] at this
    cases this
theorem p_IsPushedT (s : TSign) (hs : s.1.length ≤ 1048576) (c : List TForm) (h : (gS s.1 && fOK s.1 c) = true) (hp : psh 0 c) (hl : c.length ≤ 1000) : c_impl_IsPushed M s c = some ((true, true, ()), ()) := by
  apply e_impl_IsPushed
  simp only [q_impl_IsPushed, sign_eta', p_impl_GoodForm s hs c, h, Option.bind_some, p_isPushedT c hl hp]
  rfl
theorem SgD_lenF {a : List Int} (h : SgD a) : a.length ≤ 1048576 := by have := h.1; omega
theorem p_FnPushed (a b : List Int) (ha : ∀ x ∈ a, 0 ≤ x ∧ x ≤ 255) (hb : ∀ x ∈ b, 0 ≤ x ∧ x ≤ 255) (la : a.length ≤ 9223372036854775807) (lb : b.length ≤ 9223372036854775807) : c_laws_FnPushed M a b = some ((true, ()), ()) := by
  apply e_laws_FnPushed
  simp only [q_laws_FnPushed, p_big a b la lb, Option.bind_some]
  by_cases hB : (decide (1048576 < a.length) || decide (1048576 - (a.length : Int) < b.length)) = true
  · rw [if_pos hB]
  · rw [if_neg hB]
    simp only [Bool.or_eq_true, decide_eq_true_eq, not_or] at hB
    have ba : isBytes a := ⟨by omega, ha⟩
    have bb : isBytes b := ⟨by omega, hb⟩
    obtain ⟨⟨⟨⟨s, ⟨⟩⟩, ⟨f, ⟨n, ⟨⟩⟩⟩⟩, ⟨⟩⟩, d1, d2, d3, d4⟩ := d_DrawPushNot ba
    obtain ⟨⟨⟨⟨u, ⟨⟩⟩, ⟨g, ⟨⟩⟩⟩, ⟨⟩⟩, f1, f2, f3, f4⟩ := d_DrawApartForm bb
    obtain ⟨⟨⟨⟨v, ⟨⟩⟩, ⟨x, ⟨y, ⟨z, ⟨⟩⟩⟩⟩⟩, ⟨⟩⟩, h1, h2, h3, h4, h5⟩ := d_DrawHoldsForm bb
    obtain ⟨⟨⟨⟨k, ⟨⟩⟩, ⟨j, ⟨⟩⟩⟩, ⟨⟩⟩, k1, k2, k3, k4⟩ := d_DrawIsPushed bb
    simp only at d2 d3 d4 f2 f3 f4 h2 h3 h4 h5 k2 k3 k4
    have hs := SgD_lenF d2
    have hu := SgD_lenF f2
    have hv := SgD_lenF h2
    have hk := SgD_lenF k2
    obtain ⟨⟨⟨L, ⟨ok, ⟨⟩⟩⟩, ⟨⟩⟩, t1, t2, t3, t4, t5⟩ := p_PushNots (s, ()) hs f (by omega) d4 n
    obtain ⟨⟨⟨R, ⟨ok2, ⟨⟩⟩⟩, ⟨⟩⟩, r1, r2, r3, r4, r5⟩ := p_Aparts (u, ()) hu g (by omega) f4
    simp only at t1 t2 t3 t4 t5 r1 r2 r3 r4 r5
    rw [d1]
    simp only [Option.bind_some, t1, t2]
    rw [if_neg (by simp), p_sameForm L (by omega) t4]
    simp only [Option.bind_some]
    rw [if_neg (by simp), p_impl_GoodForm (s, ()) hs f, p_spec_GoodForm (s, ()) hs f (by omega) d4]
    simp only [Option.bind_some]
    rw [if_neg (by simp)]
    refine bind_of (x := .inl (a, b, ())) ?_ ?_
    · by_cases hok : ok = true
      · rw [if_pos hok]
        obtain ⟨q1, q2, q3⟩ := t5 hok
        have hbf : (gS s && fOK s f) = true := by rw [q1, q3]; rfl
        have hbL : (gS s && fOK s L) = true := by rw [q1, q2]; rfl
        obtain ⟨t, e1, e2⟩ := p_formulaT (s, ()) hs f hbf
        obtain ⟨L', p1, p2, p3, p4, p5⟩ := p_PushT (s, ()) hs f n hbf e2 e1
        rw [t2] at p1
        obtain ⟨rfl, p6⟩ : L = L' ∧ fOK s L' = true := by
          by_cases hc : fOK s L' = true
          · rw [if_pos hc] at p1
            simp only [Option.some.injEq, Prod.mk.injEq, and_true] at p1
            exact ⟨p1.1, hc⟩
          · rw [if_neg hc] at p1
            simp only [Option.some.injEq, Prod.mk.injEq, and_true] at p1
            rw [hok] at p1
            simp at p1
        have hft2 := p5 p6
        obtain ⟨w, w1, w2, w3, w4⟩ := p_worldOf (s, ()) q1 b bb
        obtain ⟨ws1, ws3, _, _⟩ := wOK_parts w2
        obtain ⟨e, v1, v2⟩ := p_envOf w ws1 b bb
        obtain ⟨F1, x1, x2, x3, x4⟩ := p_FreeInT (s, ()) hs f hbf e2
        obtain ⟨F2, y1, y2, y3, y4⟩ := p_FreeInT (s, ()) hs L hbL hft2
        obtain rfl : F1 = F2 := x3.ext y3 (fun v => by rw [x4, y4, fv_pu e2])
        simp only [w1, Option.bind_some, world_eta, v1, p_HoldsT (s, ()) hs w (by omega) w4 w2 e v2 f hbf e2, p_HoldsT (s, ()) hs w (by omega) w4 w2 e v2 L hbL hft2, hT_pu e2, p_IsPushedT (s, ()) hs L hbL p2 p3, x1, y1, p_sameInts F1 (by omega)]
        generalize hT (s, ()) w t e = B
        cases B <;> cases n <;> simp
      · rw [if_neg hok]
    · simp only [Sum.elim_inl]
      rw [f1]
      simp only [Option.bind_some, r1, r2]
      rw [if_neg (by simp), p_sameForm R (by omega) r4]
      simp only [Option.bind_some]
      rw [if_neg (by simp)]
      refine bind_of (x := .inl (b, ())) ?_ ?_
      · by_cases hok : ok2 = true
        · rw [if_pos hok]
          obtain ⟨q1, q2, t, F, q3, q4, q5, q6, q7⟩ := r5 hok
          have hbf : (gS u && fOK u g) = true := by rw [q1, q2]; rfl
          have hbR : (gS u && fOK u R) = true := by rw [q1, q7.fOK' r3]; rfl
          obtain ⟨w, w1, w2, w3, w4⟩ := p_worldOf (u, ()) q1 a ba
          obtain ⟨ws1, ws3, _, _⟩ := wOK_parts w2
          obtain ⟨e, v1, v2⟩ := p_envOf w ws1 a ba
          have hcl := p_closed q3 (by omega) q4 q5
          have hh := hT_ap q1 w2 q3 (fun _ => 0) 0 e e v2 v2 (fun _ => ⟨by show (0 : Int) ≤ 0; decide, by show (0 : Int) ≤ 5; decide⟩) (by omega) q6 (fun v hv hfv => by rw [hcl v hv] at hfv; cases hfv)
          simp only [w1, Option.bind_some, world_eta, v1, p_HoldsT (u, ()) hu w (by omega) w4 w2 e v2 g hbf q3, p_HoldsT (u, ()) hu w (by omega) w4 w2 e v2 R hbR q7, hh]
          simp
        · rw [if_neg hok]
      · simp only [Sum.elim_inl]
        obtain ⟨T, m1, m2⟩ := p_HoldsForms (v, ()) hv x h3.1 h3.2 y (by omega) h5 z
        obtain ⟨S, n1, n2⟩ := p_IsPusheds (k, ()) hk j (by omega) k4
        rw [h1]
        simp only [Option.bind_some, world_eta, m1, m2, k1, n1, n2]
        simp
end Go.Proofs.YtcjaikkdpclaaaaPu.Ev
