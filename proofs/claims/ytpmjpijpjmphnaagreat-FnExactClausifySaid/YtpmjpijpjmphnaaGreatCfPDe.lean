/- Texts laid together: QR, QS, QRa, QSc, QB, QYa, TAe, PQ, TAf, SAa, PEb, SAb, SAc, SAe, PQl, PA, PDe; no condition but those that each theorem names. -/
import Derived.Test.YtpmjpijpjmphnaaGreatCfQAb
/- Plain laws: numbering bound variables apart, by the reference. No condition but sizes. -/
namespace Go.Proofs.YtpmjpijpjmphnaaGreatCf.Ev
open Go
set_option autoImplicit false
set_option linter.unusedVariables false
set_option linter.unusedSimpArgs false

/-- A number of a term with other variables. -/
def nbr (f : Int → Int) (n : Int) : Int := if n < 0 then -1 - f (-1 - n) else n
def updF (f : Int → Int) (v n : Int) : Int → Int := fun u => if u = v then n else f u
/-- A tree whose bound variables are numbered from n on, and the next number. -/
def apT : Tree → (Int → Int) → Int → Tree × Int
  | .nil, _, n => (.nil, n)
  | .mk op v l r [], f, n => (.mk op v (l.map (nbr f)) (r.map (nbr f)) [], n)
  | .mk op v l r [t], f, n =>
    if op = 2 then (.mk op v l r [(apT t f n).1], (apT t f n).2)
    else (.mk op n l r [(apT t (updF f v n) (n + 1)).1], (apT t (updF f v n) (n + 1)).2)
  | .mk op v l r (t :: u :: _), f, n => (.mk op v l r [(apT t f n).1, (apT u f (apT t f n).2).1], (apT u f (apT t f n).2).2)
theorem upd_map (g : Int → Int) (T : List Int) (i : Nat) (h : i < T.length) (y : Int) (hy : y = g T[i]) : ((T.take i).map g ++ T.drop i).set i y = (T.take (i + 1)).map g ++ T.drop (i + 1) := by
  subst hy
  rw [List.drop_eq_getElem_cons h, List.set_append_right _ _ (by simp; omega), show i - ((T.take i).map g).length = 0 by simp; omega, List.set_cons_zero, List.take_add_one, List.getElem?_eq_getElem h]
  simp only [Option.toList_some, List.map_append, List.map_cons, List.map_nil, List.append_assoc, List.cons_append, List.nil_append]
theorem get_map (g : Int → Int) (T : List Int) (i : Nat) (h : i < T.length) : ((T.take i).map g ++ T.drop i)[i]? = some T[i] := by
  rw [List.getElem?_append_right (by simp; omega), show i - ((T.take i).map g).length = 0 by simp; omega, List.getElem?_drop]
  simp [h]
/-- The numbers of now, as the reference keeps them. -/
def AtF (at' : List Int) (f : Int → Int) : Prop := at'.length = 6 ∧ (∀ v, 0 ≤ v → v ≤ 5 → at'[v.toNat]? = some (f v)) ∧ ∀ v, -1000000 ≤ f v ∧ f v ≤ 1000000
theorem AtF.upd {at' : List Int} {f : Int → Int} (h : AtF at' f) {v n : Int} (v0 : 0 ≤ v) (v5 : v ≤ 5) (n0 : 0 ≤ n) (n1 : n ≤ 1000000) : AtF (at'.set v.toNat n) (updF f v n) := by
  obtain ⟨h1, h2, h3⟩ := h
  refine ⟨by rw [List.length_set]; exact h1, fun u u0 u5 => ?_, fun u => ?_⟩
  · unfold updF
    by_cases e : u = v
    · subst e; rw [if_pos rfl, List.getElem?_set_self (by omega)]
    · rw [if_neg e, List.getElem?_set_ne (by omega)]; exact h2 u u0 u5
  · unfold updF
    split
    · omega
    · exact h3 u
theorem p_apL1 (n : Int) (at' : List Int) (f : Int → Int) (ha : AtF at' f) (x : TForm) (T : List Int) (hT : T.length ≤ 1000) (hv : ∀ m ∈ T, m < 0 → -6 ≤ m) : ∀ k i : Nat, i + k = T.length → l_spec_l14Apart_1874 M n at' (x.1, x.2.1, (T.take i).map (nbr f) ++ T.drop i, x.2.2.2.1, ()) T.length i = some (.inl (n, at', (x.1, x.2.1, T.map (nbr f), x.2.2.2.1, ()), ())) := by
  obtain ⟨a1, a2, a3⟩ := ha
  intro k
  induction k with
  | zero =>
    intro i hi
    obtain rfl : i = T.length := by omega
    apply el_spec_l14Apart_1874
    simp only [ql_spec_l14Apart_1874]
    rw [if_neg (by simp)]
    simp
  | succ k ih =>
    intro i hi
    have h1 : i < T.length := by omega
    have hlen : ((T.take i).map (nbr f) ++ T.drop i).length = T.length := by simp; omega
    apply el_spec_l14Apart_1874
    simp only [ql_spec_l14Apart_1874]
    rw [if_pos (by simpa using h1), if_pos (by rw [hlen]; omega), Int.toNat_natCast, get_map _ _ _ h1]
    simp only [Option.bind_some]
    by_cases hn : T[i] < 0
    · have hm := hv _ (List.getElem_mem h1) hn
      have hb := a3 (-1 - T[i])
      have hx : idx at' (-1 - T[i]) = some (f (-1 - T[i])) := by
        have := a2 (-1 - T[i]) (by omega) (by omega)
        obtain ⟨q1, q2⟩ := List.getElem?_eq_some_iff.1 this
        have e := idx_lt (xs := at') q1
        rw [show (((-1 - T[i]).toNat : Nat) : Int) = -1 - T[i] by omega, q2] at e
        exact e
      rw [if_pos (by simpa using hn), w64 (x := -1 - T[i]) (by omega) (by omega), hx]
      simp only [Option.bind_some]
      rw [if_pos (by rw [hlen]; omega)]
      simp only [Option.bind_some, Sum.elim_inl]
      rw [w64 (x := -1 - f (-1 - T[i])) (by omega) (by omega), inc_nat (by omega), upd_map (nbr f) T i h1 _ (by unfold nbr; rw [if_pos hn])]
      exact ih (i + 1) (by omega)
    · rw [if_neg (by simpa using hn)]
      simp only [Option.bind_some, Sum.elim_inl]
      rw [inc_nat (by omega)]
      have := ih (i + 1) (by omega)
      rw [← upd_map (nbr f) T i h1 T[i] (by unfold nbr; rw [if_neg hn])] at this
      have hs : ((T.take i).map (nbr f) ++ T.drop i).set i T[i] = (T.take i).map (nbr f) ++ T.drop i := by
        obtain ⟨q1, q2⟩ := List.getElem?_eq_some_iff.1 (get_map (nbr f) T i h1)
        conv => lhs; rw [← q2]
        exact List.set_getElem_self q1
      rw [hs] at this
      exact this
theorem p_apL2 (n : Int) (at' : List Int) (f : Int → Int) (ha : AtF at' f) (x : TForm) (T : List Int) (hT : T.length ≤ 1000) (hv : ∀ m ∈ T, m < 0 → -6 ≤ m) : ∀ k i : Nat, i + k = T.length → l_spec_l14Apart_3754 M n at' (x.1, x.2.1, x.2.2.1, (T.take i).map (nbr f) ++ T.drop i, ()) T.length i = some (.inl (n, (x.1, x.2.1, x.2.2.1, T.map (nbr f), ()), ())) := by
  obtain ⟨a1, a2, a3⟩ := ha
  intro k
  induction k with
  | zero =>
    intro i hi
    obtain rfl : i = T.length := by omega
    apply el_spec_l14Apart_3754
    simp only [ql_spec_l14Apart_3754]
    rw [if_neg (by simp)]
    simp
  | succ k ih =>
    intro i hi
    have h1 : i < T.length := by omega
    have hlen : ((T.take i).map (nbr f) ++ T.drop i).length = T.length := by simp; omega
    apply el_spec_l14Apart_3754
    simp only [ql_spec_l14Apart_3754]
    rw [if_pos (by simpa using h1), if_pos (by rw [hlen]; omega), Int.toNat_natCast, get_map _ _ _ h1]
    simp only [Option.bind_some]
    by_cases hn : T[i] < 0
    · have hm := hv _ (List.getElem_mem h1) hn
      have hb := a3 (-1 - T[i])
      have hx : idx at' (-1 - T[i]) = some (f (-1 - T[i])) := by
        have := a2 (-1 - T[i]) (by omega) (by omega)
        obtain ⟨q1, q2⟩ := List.getElem?_eq_some_iff.1 this
        have e := idx_lt (xs := at') q1
        rw [show (((-1 - T[i]).toNat : Nat) : Int) = -1 - T[i] by omega, q2] at e
        exact e
      rw [if_pos (by simpa using hn), w64 (x := -1 - T[i]) (by omega) (by omega), hx]
      simp only [Option.bind_some]
      rw [if_pos (by rw [hlen]; omega)]
      simp only [Option.bind_some, Sum.elim_inl]
      rw [w64 (x := -1 - f (-1 - T[i])) (by omega) (by omega), inc_nat (by omega), upd_map (nbr f) T i h1 _ (by unfold nbr; rw [if_pos hn])]
      exact ih (i + 1) (by omega)
    · rw [if_neg (by simpa using hn)]
      simp only [Option.bind_some, Sum.elim_inl]
      rw [inc_nat (by omega)]
      have := ih (i + 1) (by omega)
      rw [← upd_map (nbr f) T i h1 T[i] (by unfold nbr; rw [if_neg hn])] at this
      have hs : ((T.take i).map (nbr f) ++ T.drop i).set i T[i] = (T.take i).map (nbr f) ++ T.drop i := by
        obtain ⟨q1, q2⟩ := List.getElem?_eq_some_iff.1 (get_map (nbr f) T i h1)
        conv => lhs; rw [← q2]
        exact List.set_getElem_self q1
      rw [hs] at this
      exact this

theorem apT_not (x : TForm) (t : Tree) (f : Int → Int) (n : Int) (h : x.1 = 2) : apT (mkT x [t]) f n = (mkT x [(apT t f n).1], (apT t f n).2) := by simp [apT, h]
theorem apT_quant (x : TForm) (t : Tree) (f : Int → Int) (n : Int) (h : x.1 ≠ 2) : apT (mkT x [t]) f n = (mkT (x.1, n, x.2.2.1, x.2.2.2.1, ()) [(apT t (updF f x.2.1 n) (n + 1)).1], (apT t (updF f x.2.1 n) (n + 1)).2) := by simp [apT, h]
theorem apT_bin (x : TForm) (t u : Tree) (f : Int → Int) (n : Int) : apT (mkT x [t, u]) f n = (mkT x [(apT t f n).1, (apT u f (apT t f n).2).1], (apT u f (apT t f n).2).2) := rfl
theorem apT_leaf (x : TForm) (f : Int → Int) (n : Int) : apT (mkT x []) f n = (mkT (x.1, x.2.1, x.2.2.1.map (nbr f), x.2.2.2.1.map (nbr f), ()) [], n) := rfl
theorem sE_nbr {a : List Int} {f : Int → Int} (hf : ∀ v, 0 ≤ f v ∧ f v ≤ 5) : ∀ (t : List Int) (k : Int), (∀ n ∈ t, -12 ≤ n) → sE a k (t.map (nbr f)) = (sE a k t).map (List.map (nbr f)) := by
  intro t
  induction t with
  | nil => intro k _; simp only [List.map_nil, sE]; split <;> rfl
  | cons n r ih =>
    intro k hn
    have h0 := hn n (by simp)
    have ihr := fun k => ih k (fun m hm => hn m (by simp [hm]))
    have hb := hf (-1 - n)
    simp only [List.map_cons, sE]
    by_cases hk : k ≤ 0
    · rw [if_pos hk, if_pos hk]; rfl
    · rw [if_neg hk, if_neg hk]
      by_cases h : n < 0
      · have e : nbr f n = -1 - f (-1 - n) := by unfold nbr; rw [if_pos h]
        have b1 : ¬ badN a (nbr f n) := by unfold badN; rw [e]; omega
        have b2 : ¬ badN a n := by unfold badN; omega
        have e1 : ar a (nbr f n) = ar a n := by unfold ar; rw [if_pos h, if_pos (by omega)]
        rw [if_neg b1, if_neg b2, e1, ihr]
      · have e : nbr f n = n := by unfold nbr; rw [if_neg h]
        rw [e]
        by_cases b : badN a n
        · rw [if_pos b, if_pos b]; rfl
        · rw [if_neg b, if_neg b, ihr]
theorem isB_nbr {a : List Int} {f : Int → Int} (hf : ∀ v, 0 ≤ f v ∧ f v ≤ 5) {t : List Int} (h : isB a t = true) : isB a (t.map (nbr f)) = true := by
  simp only [isB, isT, Bool.and_eq_true, decide_eq_true_eq, List.all_eq_true] at h ⊢
  obtain ⟨⟨h1, h2⟩, h3⟩ := h
  refine ⟨⟨by rw [List.length_map]; exact h1, ?_⟩, fun x hx => ?_⟩
  · have := sE_nbr (a := a) hf t 1 (fun n hn => by have := h3 n hn; omega)
    show sE a 1 (t.map (nbr f)) = some []
    rw [this, show sE a 1 t = some [] from h2]; rfl
  · obtain ⟨n, hn, rfl⟩ := List.mem_map.1 hx
    have := h3 n hn
    have hb := hf (-1 - n)
    unfold nbr
    split <;> omega
theorem ndOK_leaf {a : List Int} {x : TForm} {f : Int → Int} (hf : ∀ v, 0 ≤ f v ∧ f v ≤ 5) (h : ndOK a x = true) (h1 : x.1 = 1) : ndOK a (x.1, x.2.1, x.2.2.1.map (nbr f), x.2.2.2.1.map (nbr f), ()) = true := by
  unfold ndOK at h ⊢
  rw [if_pos h1] at h
  simp only [Bool.and_eq_true] at h
  simp only [if_pos h1, Bool.and_eq_true]
  exact ⟨h.1, isB_nbr hf h.2.1, isB_nbr hf h.2.2⟩
theorem ndOK_quant {a : List Int} {x : TForm} (h : ndOK a x = true) (h1 : x.1 = 5 ∨ x.1 = 6) {n : Int} (n0 : 0 ≤ n) (n5 : n ≤ 5) : ndOK a (x.1, n, x.2.2.1, x.2.2.2.1, ()) = true := by
  unfold ndOK at h ⊢
  rw [if_neg (by omega)] at h
  simp only [if_neg (show ¬ x.1 = 1 by omega)]
  split at h
  · rename_i hh
    rw [if_pos hh, if_pos h1]
    simp [n0, n5]
  · cases h
theorem p_l14Apart {a : List Int} {h : List TForm} {t : Tree} (hf : FT a h t) : ∀ (pre post : List TForm) (f : Int → Int) (n : Int) (at' : List Int), pre.length + h.length ≤ 100 → AtF at' f → 0 ≤ n → n + h.length ≤ 1000 → (∀ v, fvT t v = true → v ≤ 5) →
    ∃ R : List TForm, LT R (apT t f n).1 ∧ c_spec_l14Apart M (pre ++ (h ++ post)) ((pre.length : Int) + h.length - 1) n at' = some ((R, (apT t f n).2, ()), ()) ∧ n ≤ (apT t f n).2 ∧ (apT t f n).2 ≤ n + h.length ∧ R.length = h.length ∧ ((∀ v, 0 ≤ f v ∧ f v ≤ 5) → (apT t f n).2 ≤ 6 → FT a R (apT t f n).1) := by
  induction hf with
  | @leaf x h h0 =>
    intro pre post f n at' hp ha n0 n1 hv
    obtain ⟨ho, tl, tr⟩ := leaf_op h h0
    have hx := ndOK_smF h
    obtain ⟨l1, l2⟩ := isT_ge tl
    obtain ⟨r1, r2⟩ := isT_ge tr
    simp only [List.length_cons, List.length_nil] at hp ⊢
    have hL : ∀ m ∈ x.2.2.1, m < 0 → -6 ≤ m := by
      intro m hm hn
      have := hv (-1 - m) (by simp only [fvT, Bool.or_eq_true, decide_eq_true_eq]; left; rw [show -1 - (-1 - m) = m by omega]; exact hm)
      omega
    have hR : ∀ m ∈ x.2.2.2.1, m < 0 → -6 ≤ m := by
      intro m hm hn
      have := hv (-1 - m) (by simp only [fvT, Bool.or_eq_true, decide_eq_true_eq]; right; rw [show -1 - (-1 - m) = m by omega]; exact hm)
      omega
    refine ⟨[(x.1, x.2.1, x.2.2.1.map (nbr f), x.2.2.2.1.map (nbr f), ())], ?_, ?_, by rw [apT_leaf]; simp only; omega, by rw [apT_leaf]; simp only; omega, rfl, fun hf _ => by rw [apT_leaf]; exact .leaf (ndOK_leaf hf h ho) h0⟩
    · rw [apT_leaf]; exact .leaf
    · rw [show (pre.length : Int) + ((0 + 1 : Nat) : Int) - 1 = (pre.length : Int) by omega, List.singleton_append, apT_leaf]
      apply e_spec_l14Apart
      have n1' : (x.1 == 1) = true := by simp [ho]
      simp only [q_spec_l14Apart, idx_mid, Option.bind_some, form_eta, p_ownNode x hx, n1', ↓reduceIte]
      have e1 := p_apL1 n at' f ha x x.2.2.1 (by omega) hL x.2.2.1.length 0 (by omega)
      rw [show ((0 : Nat) : Int) = 0 from rfl, List.drop_zero, List.take_zero, List.map_nil, List.nil_append, form_eta] at e1
      rw [e1]
      simp only [Option.bind_some, Sum.elim_inl]
      have e2 := p_apL2 n at' f ha (x.1, x.2.1, x.2.2.1.map (nbr f), x.2.2.2.1, ()) x.2.2.2.1 (by omega) hR x.2.2.2.1.length 0 (by omega)
      rw [show ((0 : Nat) : Int) = 0 from rfl, List.drop_zero, List.take_zero, List.map_nil, List.nil_append] at e2
      simp only at e2
      rw [e2]
      simp only [Option.bind_some, Sum.elim_inl]
  | @un x g t h h1 hg ih =>
    intro pre post f n at' hp ha n0 n1 hv
    have hx := ndOK_smF h
    obtain ⟨h256, v0, v5⟩ := un_op h h1
    simp only [List.length_append, List.length_cons, List.length_nil] at hp n1 ⊢
    have n1' : (x.1 == 1) = false := by simp; omega
    by_cases h2 : x.1 = 2
    · obtain ⟨R, i1, i2, i3, i4, i5, i6⟩ := ih pre (x :: post) f n at' (by omega) ha n0 (by omega) (fun v hv' => hv v (by simp [fvT, h2, hv']))
      have n5 : (x.1 == 5) = false := by simp; omega
      have n6 : (x.1 == 6) = false := by simp; omega
      have n2 : (x.1 == 2) = true := by simp; omega
      rw [apT_not x t f n h2]
      refine ⟨R ++ [x], .un i1, ?_, i3, by omega, by simp; omega, fun hf hle => .un h h1 (i6 hf hle)⟩
      apply e_spec_l14Apart
      rw [show (pre.length : Int) + ((g.length + (0 + 1) : Nat) : Int) - 1 = ((pre ++ g).length : Int) by simp; omega, show pre ++ (g ++ [x] ++ post) = (pre ++ g) ++ x :: post by simp]
      simp only [q_spec_l14Apart, idx_mid, Option.bind_some, form_eta, p_ownNode x hx, n1', n5, n6, n2, Bool.false_eq_true, ↓reduceIte, Sum.elim_inl]
      rw [w64 (by omega) (by simp; omega), show ((pre ++ g).length : Int) - 1 = (pre.length : Int) + g.length - 1 by simp, List.append_assoc, i2]
      simp only [Option.bind_some]
      rw [if_pos (by simp; omega)]
    · have h56 : x.1 = 5 ∨ x.1 = 6 := by omega
      obtain ⟨a1, a2, a3⟩ := ha
      obtain ⟨R, i1, i2, i3, i4, i5, i6⟩ := ih pre (x :: post) (updF f x.2.1 n) (n + 1) (at'.set x.2.1.toNat n) (by omega) (AtF.upd ⟨a1, a2, a3⟩ v0 v5 n0 (by omega)) (by omega) (by omega) (fun v hv' => by
        by_cases e : v = x.2.1
        · omega
        · exact hv v (by simp [fvT, h2, hv', e]))
      rw [apT_quant x t f n h2]
      refine ⟨R ++ [(x.1, n, x.2.2.1, x.2.2.2.1, ())], .un i1, ?_, by simp only; omega, by simp only; omega, by simp; omega, fun hf hle => .un (ndOK_quant h h56 n0 (by simp only at hle; omega)) h1 (i6 (fun v => by unfold updF; split; (simp only at hle; omega); exact hf v) hle)⟩
      apply e_spec_l14Apart
      rw [show (pre.length : Int) + ((g.length + (0 + 1) : Nat) : Int) - 1 = ((pre ++ g).length : Int) by simp; omega, show pre ++ (g ++ [x] ++ post) = (pre ++ g) ++ x :: post by simp]
      have hget := a2 x.2.1 v0 v5
      rcases h56 with h5 | h6
      · have n5 : (x.1 == 5) = true := by simp; omega
        simp only [q_spec_l14Apart, idx_mid, Option.bind_some, form_eta, p_ownNode x hx, n1', n5, Bool.false_eq_true, ↓reduceIte, Sum.elim_inl, p_own' at' (by omega)]
        rw [if_pos (by omega), hget]
        simp only [Option.bind_some]
        rw [w64 (by omega) (by simp; omega), show ((pre ++ g).length : Int) - 1 = (pre.length : Int) + g.length - 1 by simp, List.append_assoc, w64 (x := n + 1) (by omega) (by omega), i2]
        simp only [Option.bind_some]
        rw [if_pos (by simp; omega)]
      · have n5 : (x.1 == 5) = false := by simp; omega
        have n6 : (x.1 == 6) = true := by simp; omega
        simp only [q_spec_l14Apart, idx_mid, Option.bind_some, form_eta, p_ownNode x hx, n1', n5, n6, Bool.false_eq_true, ↓reduceIte, Sum.elim_inl, p_own' at' (by omega)]
        rw [if_pos (by omega), hget]
        simp only [Option.bind_some]
        rw [w64 (by omega) (by simp; omega), show ((pre ++ g).length : Int) - 1 = (pre.length : Int) + g.length - 1 by simp, List.append_assoc, w64 (x := n + 1) (by omega) (by omega), i2]
        simp only [Option.bind_some]
        rw [if_pos (by simp; omega)]
  | @bin x g k t u h h2 hg hk ih1 ih2 =>
    intro pre post f n at' hp ha n0 n1 hv
    have hx := ndOK_smF h
    have h34 := bin_op h h2
    simp only [List.length_append, List.length_cons, List.length_nil] at hp n1 ⊢
    obtain ⟨R1, a1, a2, a3, a4, a5, a6⟩ := ih1 pre (k ++ x :: post) f n at' (by omega) ha n0 (by omega) (fun v hv' => hv v (by simp [fvT, hv']))
    obtain ⟨R2, b1, b2, b3, b4, b5, b6⟩ := ih2 (pre ++ g) (x :: post) f (apT t f n).2 at' (by simp; omega) ha (by omega) (by omega) (fun v hv' => hv v (by simp [fvT, hv']))
    rw [apT_bin]
    refine ⟨R1 ++ R2 ++ [x], .bin a1 b1, ?_, by simp only; omega, by simp only; omega, by simp; omega, fun hf hle => .bin h h2 (a6 hf (by simp only at hle; omega)) (b6 hf hle)⟩
    have e3 := p_l14First hk (pre ++ g) (x :: post) (by simp; omega)
    have n5 : (x.1 == 5) = false := by simp; omega
    have n6 : (x.1 == 6) = false := by simp; omega
    have n1' : (x.1 == 1) = false := by simp; omega
    have n2 : (x.1 == 2) = false := by simp; omega
    apply e_spec_l14Apart
    rw [show (pre.length : Int) + ((g.length + k.length + (0 + 1) : Nat) : Int) - 1 = (((pre ++ g) ++ k).length : Int) by simp; omega, show pre ++ (g ++ k ++ [x] ++ post) = ((pre ++ g) ++ k) ++ x :: post by simp]
    simp only [q_spec_l14Apart, idx_mid, Option.bind_some, form_eta, p_ownNode x hx, n1', n2, n5, n6, Bool.false_eq_true, ↓reduceIte, Sum.elim_inl]
    rw [w64 (by omega) (by simp; omega), show (((pre ++ g) ++ k).length : Int) - 1 = ((pre ++ g).length : Int) + k.length - 1 by simp; omega, show (((pre ++ g) ++ k).length : Int) = ((pre ++ g).length : Int) + k.length by simp; omega, List.append_assoc (pre ++ g) k, e3]
    simp only [Option.bind_some]
    rw [show ((pre ++ g).length : Int) - 1 = (pre.length : Int) + g.length - 1 by simp]
    rw [show (pre ++ g) ++ (k ++ x :: post) = pre ++ (g ++ (k ++ x :: post)) by simp, a2]
    simp only [Option.bind_some]
    rw [show pre ++ (g ++ (k ++ x :: post)) = (pre ++ g) ++ (k ++ x :: post) by simp, b2]
    simp only [Option.bind_some]
    rw [if_pos (by omega), if_pos (by simp; omega)]
end Go.Proofs.YtpmjpijpjmphnaaGreatCf.Ev

/- Plain laws: a formula set apart, by the reference. No condition but sizes. -/
namespace Go.Proofs.YtpmjpijpjmphnaaGreatCf.Ev
open Go
set_option autoImplicit false
set_option linter.unusedVariables false
set_option linter.unusedSimpArgs false

theorem FT.fOK' {a : List Int} {h : List TForm} {t : Tree} (hf : FT a h t) (hl : h.length ≤ 15) : fOK a h = true := by
  have h1 := hf.gts' [] []
  rw [List.append_nil, List.nil_append] at h1
  have h2 := gT_gF a h []
  rw [h1] at h2
  simp only [gT, List.length_nil, List.length_cons] at h2
  simp only [fOK, Bool.and_eq_true, decide_eq_true_eq]
  exact ⟨hl, by rw [h2]; rfl⟩
theorem fv5 {a : List Int} {h : List TForm} {t : Tree} (hf : FT a h t) : ∀ v, fvT t v = true → v ≤ 5 := by
  induction hf with
  | @leaf x h h0 =>
    intro v hv
    have h1 := (leaf_op h h0).1
    unfold ndOK at h
    rw [if_pos h1] at h
    simp only [isB, Bool.and_eq_true, List.all_eq_true, decide_eq_true_eq] at h
    simp only [fvT, Bool.or_eq_true, decide_eq_true_eq] at hv
    rcases hv with hv | hv
    · have := h.2.1.2 _ hv; omega
    · have := h.2.2.2 _ hv; omega
  | @un x g t h h1 hg ih =>
    intro v hv
    simp only [fvT] at hv
    split at hv
    · exact ih v hv
    · simp only [Bool.and_eq_true] at hv; exact ih v hv.1
  | @bin x g k t u h h2 hg hk ih1 ih2 =>
    intro v hv
    simp only [fvT, Bool.or_eq_true] at hv
    rcases hv with hv | hv
    · exact ih1 v hv
    · exact ih2 v hv
theorem at0 : AtF (List.replicate (Int.toNat 6) (0 : Int)) (fun _ => 0) := by
  refine ⟨rfl, fun v v0 v5 => ?_, fun _ => ⟨by show (-1000000 : Int) ≤ 0; decide, by show (0 : Int) ≤ 1000000; decide⟩⟩
  rw [List.getElem?_replicate, if_pos (by simp; omega)]
/-- What the reference answers of a valid formula. -/
theorem p_spec_Apart (s : TSign) (hs : s.1.length ≤ 1048576) (f : List TForm) (hl : f.length ≤ 1048576) (hx : ∀ x ∈ f, smF x) (hb : (gS s.1 && fOK s.1 f) = true) {t : Tree} (hf : FT s.1 f t) :
    ∃ (L : List Int) (R : List TForm), c_impl_tree_freeIn M t = some ((L, ()), ()) ∧ LT R (apT t (fun _ => 0) 0).1 ∧ R.length ≤ 15 ∧ ((apT t (fun _ => 0) 0).2 ≤ 6 → FT s.1 R (apT t (fun _ => 0) 0).1) ∧
      c_spec_ApartForm M s f = some (if L.length = 0 ∧ (apT t (fun _ => 0) 0).2 ≤ 6 then ((R, true, ()), ()) else (([], false, ()), ())) := by
  have hb' := hb
  simp only [Bool.and_eq_true, fOK, decide_eq_true_eq] at hb'
  obtain ⟨hg, h15, _⟩ := hb'
  obtain ⟨L, u1, u2, u3, _, u5⟩ := p_freeX hf
  obtain ⟨L', v1, v2, v3, v4⟩ := p_freeIn hf (by omega)
  have e := u3 [] [] (by simpa using (by omega : f.length ≤ 100))
  simp only [List.nil_append, List.append_nil, List.length_nil, Int.natCast_zero, Int.zero_add] at e
  obtain rfl : L' = L := by
    rw [v3] at e
    simpa using e
  have h6 : ∀ v, fvT t v = true → L'.length = 0 → v ≤ 5 := by
    intro v hv h0
    by_cases hn : 0 ≤ v
    · have := (u5 v).2 ⟨hn, hv⟩
      rw [List.eq_nil_of_length_eq_zero h0] at this
      cases this
    · omega
  have hspec := p_spec_GoodForm s hs f hl hx
  rw [hb] at hspec
  by_cases hL : L'.length = 0
  · obtain ⟨R, i1, i2, i3, i4, i5, i6⟩ := p_l14Apart hf [] [] (fun _ => 0) 0 _ (by simp; omega) at0 (by omega) (by omega) (fun v hv => h6 v hv hL)
    simp only [List.nil_append, List.append_nil, List.length_nil, Int.natCast_zero, Int.zero_add] at i2
    refine ⟨L', R, v4, i1, by omega, i6 (fun _ => ⟨by show (0 : Int) ≤ 0; decide, by show (0 : Int) ≤ 5; decide⟩), e_spec_ApartForm _ _ ?_⟩
    simp only [q_spec_ApartForm, sign_eta', hspec, Option.bind_some]
    rw [if_neg (by simp), w64 (by omega) (by omega), v3]
    simp only [Option.bind_some]
    rw [if_neg (by rw [hL]; decide), if_pos (by decide), i2]
    simp only [Option.bind_some]
    by_cases h : (apT t (fun _ => 0) 0).2 ≤ 6
    · rw [if_neg (by simp; omega), if_pos ⟨hL, h⟩]
    · rw [if_pos (by simp; omega), if_neg (fun q => h q.2)]
  · obtain ⟨R, hR⟩ : ∃ R, LT R (apT t (fun _ => 0) 0).1 ∧ R.length ≤ 15 ∧ ((apT t (fun _ => 0) 0).2 ≤ 6 → FT s.1 R (apT t (fun _ => 0) 0).1) := by
      obtain ⟨R, i1, i2, i3, i4, i5, i6⟩ := p_l14Apart hf [] [] (fun _ => 0) 0 _ (by simp; omega) at0 (by omega) (by omega) (fv5 hf)
      exact ⟨R, i1, by omega, i6 (fun _ => ⟨by show (0 : Int) ≤ 0; decide, by show (0 : Int) ≤ 5; decide⟩)⟩
    refine ⟨L', R, v4, hR.1, hR.2.1, hR.2.2, e_spec_ApartForm _ _ ?_⟩
    simp only [q_spec_ApartForm, sign_eta', hspec, Option.bind_some]
    rw [if_neg (by simp), w64 (by omega) (by omega), v3]
    simp only [Option.bind_some]
    rw [if_pos (decide_eq_true (by omega)), if_neg (fun q => hL q.1)]
end Go.Proofs.YtpmjpijpjmphnaaGreatCf.Ev

/- Plain laws: numbering bound variables apart, by the program: maps are copied, whatever the order. No condition but sizes. -/
namespace Go.Proofs.YtpmjpijpjmphnaaGreatCf.Ev
open Go
set_option autoImplicit false
set_option linter.unusedVariables false
set_option linter.unusedSimpArgs false

theorem mins_comm {α : Type} (p q : Int × α) (h : p.1 ≠ q.1) : ∀ L : List (Int × α), mins p (mins q L) = mins q (mins p L)
  | [] => by
    simp only [mins]
    by_cases h1 : p.1 ≤ q.1
    · rw [if_pos h1, if_neg (by omega)]
    · rw [if_neg h1, if_pos (by omega)]
  | r :: t => by
    simp only [mins]
    by_cases h1 : p.1 ≤ r.1
    · by_cases h2 : q.1 ≤ r.1
      · rw [if_pos h1, if_pos h2]
        simp only [mins]
        by_cases h3 : p.1 ≤ q.1
        · rw [if_pos h3, if_neg (by omega), if_pos h2]
        · rw [if_neg h3, if_pos h1, if_pos (by omega)]
      · rw [if_pos h1, if_neg h2]
        simp only [mins]
        rw [if_pos h1, if_neg (by omega), if_neg h2]
    · by_cases h2 : q.1 ≤ r.1
      · rw [if_neg h1, if_pos h2]
        simp only [mins]
        rw [if_neg (by omega), if_neg h1, if_pos h2]
      · rw [if_neg h1, if_neg h2]
        simp only [mins]
        rw [if_neg h1, if_neg h2, mins_comm p q h t]
theorem msort_eq {α : Type} {xs ys : List (Int × α)} (h : List.Perm xs ys) : (xs.map Prod.fst).Nodup → msort xs = msort ys := by
  induction h with
  | nil => intro _; rfl
  | cons p _ ih =>
    intro hn
    simp only [List.map_cons, List.nodup_cons] at hn
    simp only [msort, ih hn.2]
  | swap p q l =>
    intro hn
    simp only [List.map_cons, List.nodup_cons, List.mem_cons, not_or] at hn
    simp only [msort]
    exact mins_comm q p hn.1.1 _
  | trans h1 h2 ih1 ih2 =>
    intro hn
    exact (ih1 hn).trans (ih2 (((h1.map Prod.fst).nodup_iff).1 hn))

theorem mput_new {α : Type} : ∀ (xs : List (Int × α)) (k : Int) (y : α), k ∉ xs.map Prod.fst → mput xs k y = xs ++ [(k, y)]
  | [], _, _, _ => rfl
  | (a, b) :: r, k, y, h => by
    simp only [List.map_cons, List.mem_cons, not_or] at h
    simp only [mput]
    rw [if_neg (fun e => h.1 e.symm), mput_new r k y h.2]; rfl
/-- Entries but one key's. -/
def bar {α : Type} (xs : List (Int × α)) (n : Int) : List (Int × α) := xs.filter fun q => !decide (q.1 = n)
theorem bar_leave {α : Type} (xs : List (Int × α)) (n : Int) : bar (leave xs n) n = bar xs n := by
  unfold bar leave
  rw [List.filter_filter]
  refine List.filter_congr fun x _ => ?_
  cases decide (x.1 = n) <;> rfl
theorem leave_perm {α : Type} : ∀ (xs : List (Int × α)) (p : Int × α), p ∈ xs → (xs.map Prod.fst).Nodup → List.Perm xs (p :: leave xs p.1)
  | q :: r, p, hp, hn => by
    simp only [List.map_cons, List.nodup_cons] at hn
    rcases List.mem_cons.1 hp with rfl | hp
    · have : leave (p :: r) p.1 = r := by
        unfold leave
        rw [List.filter_cons, if_neg (by simp)]
        refine List.filter_eq_self.2 fun x hx => ?_
        simp only [Bool.not_eq_true', decide_eq_false_iff_not]
        exact fun e => hn.1 (by rw [← e]; exact List.mem_map.2 ⟨x, hx, rfl⟩)
      rw [this]
    · have hne : ¬ q.1 = p.1 := fun e => hn.1 (by rw [e]; exact List.mem_map.2 ⟨p, hp, rfl⟩)
      have : leave (q :: r) p.1 = q :: leave r p.1 := by
        unfold leave
        rw [List.filter_cons, if_pos (by simp [hne])]
      rw [this]
      exact ((leave_perm r p hp hn.2).cons q).trans (List.Perm.swap p q _)
theorem leave_len {α : Type} (xs : List (Int × α)) (p : Int × α) (hp : p ∈ xs) (hn : (xs.map Prod.fst).Nodup) : (leave xs p.1).length + 1 = xs.length := by
  have := (leave_perm xs p hp hn).length_eq
  simp at this; omega
theorem leave_nodup {α : Type} {xs : List (Int × α)} (n : Int) (hn : (xs.map Prod.fst).Nodup) : ((leave xs n).map Prod.fst).Nodup := hn.sublist (List.filter_sublist.map _)
theorem bar_mem {α : Type} {xs : List (Int × α)} {n : Int} {q : Int × α} : q ∈ bar xs n ↔ q ∈ xs ∧ q.1 ≠ n := by
  unfold bar
  rw [List.mem_filter]; simp

/-- The loop that copies a map, but for one key. -/
theorem p_copy (T : Tree) (x : Int) (n : Int × Int × List Int × List Int × Unit) (o : Int × Int × List Int × List Int × List Tree × Unit) :
    ∀ (k : Nat) (left m : List (Int × Int)) (c : Option (Int × Int)), left.length = k → ((m ++ bar left n.2.1).map Prod.fst).Nodup → (left.map Prod.fst).Nodup → l_impl_tree_apart_1962 M T x n o m (c, left) = some (.inl (T, x, o, msort (m ++ bar left n.2.1), ())) := by
  intro k
  induction k with
  | zero =>
    intro left m c hl hm hn
    obtain rfl : left = [] := List.length_eq_zero_iff.1 hl
    apply el_impl_tree_apart_1962
    simp only [ql_impl_tree_apart_1962]
    refine pickL_to (fun _ => ?_) (by simp)
    simp [bar]
  | succ k ih =>
    intro left m c hl hm hn
    apply el_impl_tree_apart_1962
    simp only [ql_impl_tree_apart_1962]
    refine pickL_to (fun h => by rw [h] at hl; simp at hl) (fun p hp => ?_)
    have hlen := leave_len left p hp hn
    by_cases hpn : p.1 = n.2.1
    · rw [if_neg (by simp [hpn])]
      have := ih (leave left p.1) m (some p) (by omega) (by rw [hpn, bar_leave]; exact hm) (leave_nodup _ hn)
      rw [hpn, bar_leave] at this
      rw [hpn]
      exact this
    · rw [if_pos (by simp [hpn])]
      have hp2 : p ∈ bar left n.2.1 := bar_mem.2 ⟨hp, hpn⟩
      have hnm : p.1 ∉ m.map Prod.fst := by
        intro h
        rw [List.map_append, List.nodup_append] at hm
        exact hm.2.2 p.1 h p.1 (List.mem_map.2 ⟨p, hp2, rfl⟩) rfl
      have hbl : bar (leave left p.1) n.2.1 = leave (bar left n.2.1) p.1 := by
        unfold bar leave
        rw [List.filter_filter, List.filter_filter]
        refine List.filter_congr fun x _ => ?_
        rw [Bool.and_comm]
      have hbn : ((bar left n.2.1).map Prod.fst).Nodup := hn.sublist (List.filter_sublist.map _)
      have hperm : List.Perm (m ++ bar left n.2.1) (mput m p.1 p.2 ++ bar (leave left p.1) n.2.1) := by
        rw [mput_new m p.1 p.2 hnm, hbl, List.append_assoc]
        exact (leave_perm _ p hp2 hbn).append_left m
      have := ih (leave left p.1) (mput m p.1 p.2) (some p) (by omega) (((hperm.map Prod.fst).nodup_iff).1 hm) (leave_nodup _ hn)
      rw [← msort_eq hperm hm] at this
      exact this

theorem mget_bar {α : Type} (z : α) (n u : Int) (h : u ≠ n) : ∀ xs : List (Int × α), mget (bar xs n) u z = mget xs u z
  | [] => rfl
  | (a, b) :: r => by
    unfold bar
    rw [List.filter_cons]
    by_cases hb : a = n
    · rw [if_neg (by simp [hb])]
      simp only [mget]
      rw [if_neg (by rw [hb]; exact fun e => h e.symm)]
      exact mget_bar z n u h r
    · rw [if_pos (by simp [hb])]
      simp only [mget]
      split
      · rfl
      · exact mget_bar z n u h r
/-- What a map tells. -/
def Tells (to : List (Int × Int)) (f : Int → Int) : Prop := (to.map Prod.fst).Nodup ∧ (∀ v, mget to v 0 = f v) ∧ ∀ v, -1000000 ≤ f v ∧ f v ≤ 1000000
theorem Tells.upd {to : List (Int × Int)} {f : Int → Int} (h : Tells to f) (v n : Int) (n0 : 0 ≤ n) (n1 : n ≤ 1000000) : Tells (msort (mput [] v n ++ bar to v)) (updF f v n) ∧ ((mput [] v n ++ bar to v).map Prod.fst).Nodup := by
  obtain ⟨h1, h2, h3⟩ := h
  have hnd : ((mput [] v n ++ bar to v).map Prod.fst).Nodup := by
    simp only [mput, List.cons_append, List.nil_append, List.map_cons, List.nodup_cons]
    refine ⟨fun h => ?_, h1.sublist (List.filter_sublist.map _)⟩
    obtain ⟨q, hq, e⟩ := List.mem_map.1 h
    exact (bar_mem.1 hq).2 e
  have hsn : ((msort (mput [] v n ++ bar to v)).map Prod.fst).Nodup := (((msort_perm (mput [] v n ++ bar to v)).map Prod.fst).nodup_iff).2 hnd
  refine ⟨⟨hsn, fun u => ?_, fun u => ?_⟩, hnd⟩
  · rw [(mget_perm u 0 (msort_perm _) hsn).1]
    simp only [mput, List.cons_append, List.nil_append, mget]
    unfold updF
    by_cases e : u = v
    · rw [if_pos e.symm, if_pos e]
    · rw [if_neg (fun h => e h.symm), if_neg e, mget_bar 0 v u e, h2]
  · unfold updF
    split
    · omega
    · exact h3 u

theorem p_numbered_loop (to : List (Int × Int)) (f : Int → Int) (ht : Tells to f) (T : List Int) (hT : T.length ≤ 1000) (hv : ∀ m ∈ T, m < 0 → -1000000 ≤ m) : ∀ k i : Nat, i + k = T.length → l_impl_numbered_58 M to ((T.take i).map (nbr f) ++ T.drop i) T.length i = some (.inl (T.map (nbr f), ())) := by
  obtain ⟨_, a2, a3⟩ := ht
  intro k
  induction k with
  | zero =>
    intro i hi
    obtain rfl : i = T.length := by omega
    apply el_impl_numbered_58
    simp only [ql_impl_numbered_58]
    rw [if_neg (by simp)]
    simp
  | succ k ih =>
    intro i hi
    have h1 : i < T.length := by omega
    have hlen : ((T.take i).map (nbr f) ++ T.drop i).length = T.length := by simp; omega
    apply el_impl_numbered_58
    simp only [ql_impl_numbered_58]
    rw [if_pos (by simpa using h1), if_pos (by rw [hlen]; omega), Int.toNat_natCast, get_map _ _ _ h1]
    simp only [Option.bind_some]
    by_cases hn : T[i] < 0
    · have hm := hv _ (List.getElem_mem h1) hn
      have hb := a3 (-1 - T[i])
      rw [if_pos (by simpa using hn), w64 (x := -1 - T[i]) (by omega) (by omega), a2, if_pos (by rw [hlen]; omega)]
      simp only [Option.bind_some, Sum.elim_inl]
      rw [w64 (x := -1 - f (-1 - T[i])) (by omega) (by omega), inc_nat (by omega), upd_map (nbr f) T i h1 _ (by unfold nbr; rw [if_pos hn])]
      exact ih (i + 1) (by omega)
    · rw [if_neg (by simpa using hn)]
      simp only [Option.bind_some, Sum.elim_inl]
      rw [inc_nat (by omega)]
      have := ih (i + 1) (by omega)
      rw [← upd_map (nbr f) T i h1 T[i] (by unfold nbr; rw [if_neg hn])] at this
      have hs : ((T.take i).map (nbr f) ++ T.drop i).set i T[i] = (T.take i).map (nbr f) ++ T.drop i := by
        obtain ⟨q1, q2⟩ := List.getElem?_eq_some_iff.1 (get_map (nbr f) T i h1)
        conv => lhs; rw [← q2]
        exact List.set_getElem_self q1
      rw [hs] at this
      exact this
theorem p_numbered (to : List (Int × Int)) (f : Int → Int) (ht : Tells to f) (T : List Int) (hT : T.length ≤ 1000) (hv : ∀ m ∈ T, m < 0 → -1000000 ≤ m) : c_impl_numbered M T to = some ((T.map (nbr f), ()), ()) := by
  apply e_impl_numbered
  have := p_numbered_loop to f ht T hT hv T.length 0 (by omega)
  rw [show ((0 : Nat) : Int) = 0 from rfl, List.drop_zero, List.take_zero, List.map_nil, List.nil_append] at this
  simp only [q_impl_numbered]
  rw [if_pos (by omega), this]
  rfl

abbrev ANode := Int × Int × List Int × List Int × List Tree × Unit
def mkA (x : ANode) : Tree := Tree.mk x.1 x.2.1 x.2.2.1 x.2.2.2.1 x.2.2.2.2.1
theorem p_apart_end (to : List (Int × Int)) (n : Int) (o : ANode) (ts : List Tree) : l_impl_tree_apart_250 M to n o ts ts.length ts.length = some (.inl (n, o, ())) := by
  apply el_impl_tree_apart_250
  simp [ql_impl_tree_apart_250]
theorem p_apart_step (to : List (Int × Int)) (n n' : Int) (o : ANode) (ts : List Tree) (i : Nat) (hi : i < ts.length) (hl : ts.length ≤ 1000) (ho : o.2.2.2.2.1.length ≤ 1000) {y : ANode} (h : c_impl_tree_apart M ts[i] to n = some ((y, n', ()), ()))
    {r : (Int × ANode × Unit) ⊕ ((ANode × Int × Unit) × Unit)} (hr : l_impl_tree_apart_250 M to n' (o.1, o.2.1, o.2.2.1, o.2.2.2.1, o.2.2.2.2.1 ++ [mkA y], ()) ts ts.length ((i + 1 : Nat) : Int) = some r) : l_impl_tree_apart_250 M to n o ts ts.length (i : Int) = some r := by
  apply el_impl_tree_apart_250
  simp only [ql_impl_tree_apart_250]
  rw [if_pos (by simpa using hi), idx_lt hi]
  simp only [Option.bind_some, h]
  rw [if_pos (by simp; omega), inc_nat (by omega)]
  exact hr

theorem nil_nbr (f : Int → Int) : ([] : List Int).map (nbr f) = [] := rfl
/-- The program's numbering. -/
theorem p_apart {a : List Int} {h : List TForm} {t : Tree} (hf : FT a h t) : ∀ (to : List (Int × Int)) (f : Int → Int) (n : Int), Tells to f → 0 ≤ n → n + h.length ≤ 1000 →
    ∃ y : ANode, c_impl_tree_apart M t to n = some ((y, (apT t f n).2, ()), ()) ∧ mkA y = (apT t f n).1 ∧ n ≤ (apT t f n).2 ∧ (apT t f n).2 ≤ n + h.length := by
  induction hf with
  | @leaf x h h0 =>
    intro to f n ht n0 n1
    obtain ⟨ho, tl, tr⟩ := leaf_op h h0
    obtain ⟨l1, l2⟩ := isT_ge tl
    obtain ⟨r1, r2⟩ := isT_ge tr
    have e1 := p_numbered to f ht x.2.2.1 (by omega) (fun m hm _ => by have := l2 m hm; omega)
    have e2 := p_numbered to f ht x.2.2.2.1 (by omega) (fun m hm _ => by have := r2 m hm; omega)
    have n5 : (x.1 == 5) = false := by simp; omega
    have n6 : (x.1 == 6) = false := by simp; omega
    refine ⟨(x.1, x.2.1, x.2.2.1.map (nbr f), x.2.2.2.1.map (nbr f), [], ()), ?_, by rw [apT_leaf]; rfl, by rw [apT_leaf]; simp only; omega, by rw [apT_leaf]; simp only; omega⟩
    rw [apT_leaf]
    apply e_impl_tree_apart
    simp only [q_impl_tree_apart, treeK, e1, e2, Option.bind_some, n5, n6, Bool.false_eq_true, ↓reduceIte, Sum.elim_inl]
    have : l_impl_tree_apart_250 M to n (x.1, x.2.1, x.2.2.1.map (nbr f), x.2.2.2.1.map (nbr f), [], ()) [] (([] : List Tree).length : Int) 0 = some (.inl (n, (x.1, x.2.1, x.2.2.1.map (nbr f), x.2.2.2.1.map (nbr f), [], ()), ())) := p_apart_end to n (x.1, x.2.1, x.2.2.1.map (nbr f), x.2.2.2.1.map (nbr f), [], ()) []
    rw [this]
    rfl
  | @un x g t h h1 hg ih =>
    intro to f n ht n0 n1
    obtain ⟨h256, v0, v5⟩ := un_op h h1
    have hfl := nd_flat h (by omega)
    simp only [List.length_append, List.length_cons, List.length_nil] at n1 ⊢
    have e1 := p_numbered to f ht x.2.2.1 (by rw [hfl.1]; simp) (by rw [hfl.1]; simp)
    have e2 := p_numbered to f ht x.2.2.2.1 (by rw [hfl.2]; simp) (by rw [hfl.2]; simp)
    rw [hfl.1, nil_nbr] at e1
    rw [hfl.2, nil_nbr] at e2
    by_cases h2 : x.1 = 2
    · obtain ⟨y, i1, i2, i3, i4⟩ := ih to f n ht n0 (by omega)
      have n5 : (x.1 == 5) = false := by simp; omega
      have n6 : (x.1 == 6) = false := by simp; omega
      rw [apT_not x t f n h2]
      refine ⟨(x.1, x.2.1, [], [], [mkA y], ()), ?_, by rw [← i2]; simp only [mkA, mkT, hfl.1, hfl.2], i3, by simp only; omega⟩
      apply e_impl_tree_apart
      simp only [q_impl_tree_apart, treeK, hfl.1, hfl.2, e1, e2, Option.bind_some, n5, n6, Bool.false_eq_true, ↓reduceIte, Sum.elim_inl]
      have := p_apart_step to n _ (x.1, x.2.1, [], [], [], ()) [t] 0 (by simp) (by simp) (by simp) i1 (p_apart_end to _ _ [t])
      rw [show ((0 : Nat) : Int) = 0 from rfl] at this
      rw [this]
      rfl
    · have h56 : x.1 = 5 ∨ x.1 = 6 := by omega
      obtain ⟨ht', hnd⟩ := ht.upd x.2.1 n n0 (by omega)
      obtain ⟨y, i1, i2, i3, i4⟩ := ih (msort (mput [] x.2.1 n ++ bar to x.2.1)) (updF f x.2.1 n) (n + 1) ht' (by omega) (by omega)
      have hc := p_copy (mkT x [t]) n (x.1, x.2.1, [], [], ()) (x.1, x.2.1, [], [], [], ()) to.length to (mput [] x.2.1 n) none rfl hnd ht.1
      rw [apT_quant x t f n h2]
      refine ⟨(x.1, n, [], [], [mkA y], ()), ?_, by rw [← i2]; simp only [mkA, mkT, hfl.1, hfl.2], by simp only; omega, by simp only; omega⟩
      have hs := p_apart_step _ (n + 1) _ (x.1, n, [], [], [], ()) [t] 0 (by simp) (by simp) (by simp) i1 (p_apart_end _ _ _ [t])
      rw [show ((0 : Nat) : Int) = 0 from rfl] at hs
      apply e_impl_tree_apart
      rcases h56 with h5 | h6
      · simp only [q_impl_tree_apart, treeK, hfl.1, hfl.2, e1, e2, Option.bind_some, h5, Int.reduceBEq, Bool.false_eq_true, ↓reduceIte, Sum.elim_inl]
        rw [h5] at hc hs
        rw [hc]
        simp only [Option.bind_some, Sum.elim_inl, treeK]
        rw [w64 (x := n + 1) (by omega) (by omega), hs]
        rfl
      · simp only [q_impl_tree_apart, treeK, hfl.1, hfl.2, e1, e2, Option.bind_some, h6, Int.reduceBEq, Bool.false_eq_true, ↓reduceIte, Sum.elim_inl]
        rw [h6] at hc hs
        rw [hc]
        simp only [Option.bind_some, Sum.elim_inl, treeK]
        rw [w64 (x := n + 1) (by omega) (by omega), hs]
        rfl
  | @bin x g k t u h h2 hg hk ih1 ih2 =>
    intro to f n ht n0 n1
    have h34 := bin_op h h2
    have hfl := nd_flat h (by omega)
    simp only [List.length_append, List.length_cons, List.length_nil] at n1 ⊢
    have e1 := p_numbered to f ht x.2.2.1 (by rw [hfl.1]; simp) (by rw [hfl.1]; simp)
    have e2 := p_numbered to f ht x.2.2.2.1 (by rw [hfl.2]; simp) (by rw [hfl.2]; simp)
    rw [hfl.1, nil_nbr] at e1
    rw [hfl.2, nil_nbr] at e2
    have n5 : (x.1 == 5) = false := by simp; omega
    have n6 : (x.1 == 6) = false := by simp; omega
    obtain ⟨y, i1, i2, i3, i4⟩ := ih1 to f n ht n0 (by omega)
    obtain ⟨z, j1, j2, j3, j4⟩ := ih2 to f (apT t f n).2 ht (by omega) (by omega)
    rw [apT_bin x t u f n]
    refine ⟨(x.1, x.2.1, [], [], [mkA y, mkA z], ()), ?_, by rw [← i2, ← j2]; simp only [mkA, mkT, hfl.1, hfl.2], by simp only; omega, by simp only; omega⟩
    apply e_impl_tree_apart
    simp only [q_impl_tree_apart, treeK, hfl.1, hfl.2, e1, e2, Option.bind_some, n5, n6, Bool.false_eq_true, ↓reduceIte, Sum.elim_inl]
    have := p_apart_step to n _ (x.1, x.2.1, [], [], [], ()) [t, u] 0 (by simp) (by simp) (by simp) i1 (p_apart_step to _ _ (x.1, x.2.1, [], [], [mkA y], ()) [t, u] 1 (by simp) (by simp) (by simp) j1 (p_apart_end to _ _ [t, u]))
    rw [show ((0 : Nat) : Int) = 0 from rfl] at this
    rw [this]
    rfl
theorem p_apart0 {a : List Int} {h : List TForm} {t : Tree} (hf : FT a h t) (hl : h.length ≤ 100) : ∃ y : ANode, c_impl_tree_apart M t (msort ([] : List (Int × Int))) 0 = some ((y, (apT t (fun _ => 0) 0).2, ()), ()) ∧ mkA y = (apT t (fun _ => 0) 0).1 := by
  obtain ⟨y, h1, h2, _⟩ := p_apart hf [] (fun _ => 0) 0 ⟨by simp, fun _ => rfl, fun _ => ⟨by show (-1000000 : Int) ≤ 0; decide, by show (0 : Int) ≤ 1000000; decide⟩⟩ (by omega) (by omega)
  exact ⟨y, h1, h2⟩
end Go.Proofs.YtpmjpijpjmphnaaGreatCf.Ev

/- Plain laws: the program's tree set apart, and what the reference answers. No condition but sizes. -/
namespace Go.Proofs.YtpmjpijpjmphnaaGreatCf.Ev
open Go
set_option autoImplicit false
set_option linter.unusedVariables false
set_option linter.unusedSimpArgs false

theorem p_apartFormT (s : TSign) (hs : s.1.length ≤ 1048576) (f : List TForm) (hl : f.length ≤ 1048576) (hx : ∀ x ∈ f, smF x) (hb : (gS s.1 && fOK s.1 f) = true) {t : Tree} (hft : FT s.1 f t) :
    ∃ (L : List Int) (R : List TForm), c_impl_tree_freeIn M t = some ((L, ()), ()) ∧ LT R (apT t (fun _ => 0) 0).1 ∧ R.length ≤ 15 ∧ ((apT t (fun _ => 0) 0).2 ≤ 6 → FT s.1 R (apT t (fun _ => 0) 0).1) ∧
      c_spec_ApartForm M s f = some (if L.length = 0 ∧ (apT t (fun _ => 0) 0).2 ≤ 6 then ((R, true, ()), ()) else (([], false, ()), ())) ∧
      c_impl_tree_apartForm M t = some (if L.length = 0 then (((apT t (fun _ => 0) 0).1, decide ((apT t (fun _ => 0) 0).2 ≤ 6), ()), ()) else ((Tree.nil, false, ()), ())) := by
  have h15 : f.length ≤ 15 := by simp only [Bool.and_eq_true, fOK, decide_eq_true_eq] at hb; exact hb.2.1
  obtain ⟨L, R, f1, f2, f3, f4, f5⟩ := p_spec_Apart s hs f hl hx hb hft
  obtain ⟨y, g1, g2⟩ := p_apart0 hft (by omega)
  refine ⟨L, R, f1, f2, f3, f4, f5, ?_⟩
  apply e_impl_tree_apartForm
  simp only [q_impl_tree_apartForm, f1, Option.bind_some]
  by_cases h : L.length = 0
  · rw [if_neg (by simp [h]), if_pos h, g1, ← g2]
    simp only [Option.bind_some]
    rfl
  · rw [if_pos (by simp; omega), if_neg h]
end Go.Proofs.YtpmjpijpjmphnaaGreatCf.Ev

/- Plain laws: pushing negations inwards: both programs do the same; FnExactPushNot. No condition but sizes. -/
namespace Go.Proofs.YtpmjpijpjmphnaaGreatCf.Ev
open Go
set_option autoImplicit false
set_option linter.unusedVariables false
set_option linter.unusedSimpArgs false

def xop (op : Int) : Int := if op = 3 then 4 else if op = 4 then 3 else if op = 5 then 6 else 5
theorem p_exchanged (op : Int) : c_impl_exchanged M op = some ((xop op, ()), ()) := by
  apply e_impl_exchanged
  simp only [q_impl_exchanged, xop, beq_iff_eq]
  by_cases h3 : op = 3
  · simp [h3]
  · by_cases h4 : op = 4
    · simp [h4]
    · by_cases h5 : op = 5
      · simp [h5]
      · simp [h3, h4, h5]
/-- A node as it stands behind a pushed negation. -/
def xnd (n : Bool) (x : TForm) : TForm := (if n = true then xop x.1 else x.1, x.2.1, x.2.2.1, x.2.2.2.1, ())

abbrev TNode := Int × Int × List Int × List Int × List Tree × Unit
theorem p_push_end (n : Bool) (nd : TNode) (ts : List Tree) : l_impl_tree_push_250 M n nd ts ts.length ts.length = some (.inl (nd, ())) := by
  apply el_impl_tree_push_250
  simp [ql_impl_tree_push_250]
theorem p_push_step (n : Bool) (nd : TNode) (ts : List Tree) (u : Tree) (i : Nat) (hi : i < ts.length) (hl : ts.length ≤ 1000) (hn : nd.2.2.2.2.1.length ≤ 1000) (h : c_impl_tree_push M ts[i] n = some ((u, ()), ())) {r : (TNode × Unit) ⊕ ((Tree × Unit) × Unit)}
    (hr : l_impl_tree_push_250 M n (nd.1, nd.2.1, nd.2.2.1, nd.2.2.2.1, nd.2.2.2.2.1 ++ [u], ()) ts ts.length ((i + 1 : Nat) : Int) = some r) : l_impl_tree_push_250 M n nd ts ts.length (i : Int) = some r := by
  apply el_impl_tree_push_250
  simp only [ql_impl_tree_push_250]
  rw [if_pos (by simpa using hi), idx_lt hi]
  simp only [Option.bind_some, h]
  rw [if_pos (by simp; omega), inc_nat (by omega)]
  exact hr

/-- A node that is neither a negation nor an equation: its kids are pushed. -/
theorem p_push_node (x : TForm) (ts us : List Tree) (n : Bool) (h2 : x.1 ≠ 2) (h1 : x.1 ≠ 1) (h : l_impl_tree_push_250 M n ((xnd n x).1, x.2.1, x.2.2.1, x.2.2.2.1, [], ()) ts ts.length 0 = some (.inl (((xnd n x).1, x.2.1, x.2.2.1, x.2.2.2.1, us, ()), ()))) :
    c_impl_tree_push M (mkT x ts) n = some ((mkT (xnd n x) us, ()), ()) := by
  apply e_impl_tree_push
  have e2 : (x.1 == 2) = false := by simpa using h2
  have e1 : (x.1 == 1) = false := by simpa using h1
  simp only [q_impl_tree_push, treeK, e1, e2, Bool.false_eq_true, ↓reduceIte]
  cases n with
  | true =>
    simp only [xnd, ↓reduceIte] at h ⊢
    simp only [p_exchanged, Option.bind_some, Sum.elim_inl, treeK, h]
  | false =>
    simp only [xnd, ↓reduceIte, Bool.false_eq_true] at h ⊢
    simp only [p_exchanged, Option.bind_some, Sum.elim_inl, treeK, h]

theorem xnd_eta (n : Bool) (x : TForm) : xnd n x = ((xnd n x).1, x.2.1, x.2.2.1, x.2.2.2.1, ()) := rfl
theorem p_spush_node (f : List TForm) (k : Int) (x : TForm) (n : Bool) (hx : smF x) (hi : idx f k = some x) (h2 : x.1 ≠ 2) (h1 : x.1 ≠ 1) (hk : 0 ≤ k) (hk' : k ≤ 1000) (L L' : List TForm) (hL : L.length ≤ 1000) (hL' : L'.length ≤ 1000) (h : c_spec_l14Push M f (k - 1) n = some ((L, ()), ()))
    (h' : (opn (xnd n x).1 = 2 ∧ ∃ (j : Int) (L2 : List TForm), c_spec_l14First M f k = some ((j, ()), ()) ∧ c_spec_l14Push M f j n = some ((L2, ()), ()) ∧ L' = L2 ++ L) ∨ (opn (xnd n x).1 ≠ 2 ∧ L' = L)) :
    c_spec_l14Push M f k n = some ((L' ++ [xnd n x], ()), ()) := by
  apply e_spec_l14Push
  have e2 : (x.1 == 2) = false := by simpa using h2
  have e1 : (x.1 == 1) = false := by simpa using h1
  simp only [q_spec_l14Push, hi, Option.bind_some, form_eta, p_ownNode x hx, e1, e2, Bool.false_eq_true, ↓reduceIte]
  have go : ∀ (y : TForm), y = xnd n x → (((c_spec_l14Push M f (IntKind.i64.wrap (k - (1 : Int))) n).bind fun r5 => ((((c_spec_l14Arity M y.1).bind fun r7 => (if (r7.1.1 == (2 : Int)) = true then ((c_spec_l14First M f k).bind fun r8 => ((c_spec_l14Push M f r8.1.1 n).bind fun r9 => (if (List.length r9.1.1 + List.length r5.1.1) * 64 ≤ 140737488355328 then (some (.inl ((y.1, y.2.1, y.2.2.1, y.2.2.2.1, ()), (r9.1.1 ++ r5.1.1), ()))) else none))) else (some (.inl ((y.1, y.2.1, y.2.2.1, y.2.2.2.1, ()), r5.1.1, ()))))) : Option (((Int × Int × (List Int) × (List Int) × Unit) × (List (Int × Int × (List Int) × (List Int) × Unit)) × Unit) ⊕ ((List (Int × Int × (List Int) × (List Int) × Unit)) × Unit) × (Unit))).bind (Sum.elim (fun q6 => (if (List.length q6.2.1 + List.length ([(q6.1.1, q6.1.2.1, q6.1.2.2.1, q6.1.2.2.2.1, ())] : List (Int × Int × (List Int) × (List Int) × Unit))) * 64 ≤ 140737488355328 then (some (((q6.2.1 ++ ([(q6.1.1, q6.1.2.1, q6.1.2.2.1, q6.1.2.2.2.1, ())] : List (Int × Int × (List Int) × (List Int) × Unit))), ()), ())) else none)) (fun r => some r)))) : Option ((List TForm × Unit) × Unit)) = some ((L' ++ [xnd n x], ()), ()) := by
    intro y hy
    subst hy
    rw [w64 (by omega) (by omega), h]
    simp only [Option.bind_some, p_l14Arity, form_eta]
    rcases h' with ⟨ho, j, L2, f1, f2, rfl⟩ | ⟨ho, rfl⟩
    · rw [if_pos (by simpa using ho), f1]
      simp only [Option.bind_some, f2]
      rw [List.length_append] at hL'
      rw [if_pos (by omega)]
      simp only [Option.bind_some, Sum.elim_inl]
      rw [if_pos (by simp; omega)]
    · rw [if_neg (by simpa using ho)]
      simp only [Option.bind_some, Sum.elim_inl]
      rw [if_pos (by simp; omega)]
  cases n with
  | false =>
    simp only [Bool.false_eq_true, ↓reduceIte, Option.bind_some, Sum.elim_inl]
    exact go x rfl
  | true =>
    simp only [↓reduceIte]
    by_cases h3 : x.1 = 3
    · rw [if_pos (by simpa using h3)]
      simp only [Option.bind_some, Sum.elim_inl]
      exact go (4, x.2) (by simp [xnd, xop, h3])
    · rw [if_neg (by simpa using h3)]
      by_cases h4 : x.1 = 4
      · rw [if_pos (by simpa using h4)]
        simp only [Option.bind_some, Sum.elim_inl]
        exact go (3, x.2) (by simp [xnd, xop, h4])
      · rw [if_neg (by simpa using h4)]
        by_cases h5 : x.1 = 5
        · rw [if_pos (by simpa using h5)]
          simp only [Option.bind_some, Sum.elim_inl]
          exact go (6, x.2) (by simp [xnd, xop, h5])
        · rw [if_neg (by simpa using h5)]
          simp only [Option.bind_some, Sum.elim_inl]
          exact go (5, x.2) (by simp [xnd, xop, h3, h4, h5])

/-- Negations stand behind equations alone. -/
def psh : Int → List TForm → Prop
  | _, [] => True
  | p, x :: r => (x.1 = 2 → p = 1) ∧ psh x.1 r
def lop : Int → List TForm → Int
  | p, [] => p
  | _, x :: r => lop x.1 r
theorem psh_app : ∀ (L K : List TForm) (p : Int), psh p L → psh (lop p L) K → psh p (L ++ K)
  | [], _, _, _, h => h
  | x :: r, K, _, h, k => ⟨h.1, psh_app r K x.1 h.2 k⟩
theorem psh_any {L : List TForm} (q : Int) (h : psh 0 L) : psh q L := by
  cases L with
  | nil => trivial
  | cons x r => exact ⟨fun h2 => absurd (h.1 h2) (by decide), h.2⟩
theorem xnd_ne2 {x : TForm} (n : Bool) (h : x.1 ≠ 2) : (xnd n x).1 ≠ 2 := by
  unfold xnd xop
  cases n <;> simp only [Bool.false_eq_true, if_false, if_true]
  · exact h
  · split <;> (try split) <;> (try split) <;> omega
/-- A tree in which negation stands before equations alone. -/
def puT : Tree → Bool → Tree
  | .nil, _ => .nil
  | .mk op v l r [], n => if n = true then mkT (2, 0, [], [], ()) [.mk op v l r []] else .mk op v l r []
  | .mk op v l r [t], n => if op = 2 then puT t (!n) else .mk (if n = true then xop op else op) v l r [puT t n]
  | .mk op v l r (t :: u :: _), n => .mk (if n = true then xop op else op) v l r [puT t n, puT u n]
theorem opn_xnd {x : TForm} (n : Bool) (h : x.1 = 3 ∨ x.1 = 4 ∨ x.1 = 5 ∨ x.1 = 6) : opn (xnd n x).1 = opn x.1 := by
  rcases h with h | h | h | h <;> cases n <;> simp [xnd, xop, h, opn]
theorem p_pushX {a : List Int} {h : List TForm} {t : Tree} (hf : FT a h t) : ∀ n : Bool, ∃ (L : List TForm) (u : Tree), LT L u ∧ L.length ≤ 2 * h.length ∧ (∀ x ∈ L, smF x ∧ x.2.2.1.length ≤ 40 ∧ x.2.2.2.1.length ≤ 40) ∧ c_impl_tree_push M t n = some ((u, ()), ()) ∧
    (∀ pre post : List TForm, pre.length + h.length ≤ 100 → c_spec_l14Push M (pre ++ (h ++ post)) ((pre.length : Int) + h.length - 1) n = some ((L, ()), ())) ∧ u = puT t n ∧ psh 0 L ∧ FP L u := by
  induction hf with
  | @leaf x h h0 =>
    intro n
    obtain ⟨ho, _⟩ := leaf_op h h0
    have hx := ndOK_smF h
    have hx' := ndOK_sm h
    have hsp : ∀ pre post : List TForm, pre.length ≤ 100 → c_spec_l14Push M (pre ++ x :: post) (pre.length : Int) n = some ((if n = true then [x, (2, 0, [], [], ())] else [x], ()), ()) := by
      intro pre post hp
      apply e_spec_l14Push
      simp only [q_spec_l14Push, idx_mid, Option.bind_some, form_eta, p_ownNode x hx, ho, Int.reduceBEq, Bool.false_eq_true, ↓reduceIte]
      cases n <;> simp [← ho]
    cases n with
    | true =>
      refine ⟨[x, (2, 0, [], [], ())], mkT (2, 0, [], [], ()) [mkT x []], .un (x := (2, 0, [], [], ())) (.leaf (x := x)), by simp, ?_, ?_, ?_, rfl, by simp [psh, ho], .un (x := (2, 0, [], [], ())) (by show opn 2 = 1; decide) (.leaf h0)⟩
      · intro y hy
        simp only [List.mem_cons, List.not_mem_nil, or_false] at hy
        rcases hy with rfl | rfl
        · exact ⟨hx, hx'⟩
        · simp [smF]
      · apply e_impl_tree_push
        simp only [q_impl_tree_push, treeK, ho, Int.reduceBEq, Bool.false_eq_true, ↓reduceIte]
      · intro pre post hp
        simp only [List.length_cons, List.length_nil] at hp
        have := hsp pre post (by omega)
        simp only [if_pos] at this
        simpa using this
    | false =>
      refine ⟨[x], mkT x [], .leaf, by simp, ?_, ?_, ?_, rfl, by simp [psh, ho], .leaf h0⟩
      · intro y hy
        simp only [List.mem_cons, List.not_mem_nil, or_false] at hy
        subst hy
        exact ⟨hx, hx'⟩
      · apply e_impl_tree_push
        simp only [q_impl_tree_push, treeK, ho, Int.reduceBEq, Bool.false_eq_true, ↓reduceIte]
      · intro pre post hp
        simp only [List.length_cons, List.length_nil] at hp
        have := hsp pre post (by omega)
        simp only [Bool.false_eq_true, if_false] at this
        simpa using this
  | @un x g t h h1 hg ih =>
    intro n
    have hx := ndOK_smF h
    have hx' := ndOK_sm h
    obtain ⟨h256, _⟩ := un_op h h1
    by_cases h2 : x.1 = 2
    · obtain ⟨L, u, l1, l2, l3, l4, l5, l6, l7, l8⟩ := ih (!n)
      refine ⟨L, u, l1, by simp; omega, l3, ?_, fun pre post hp => ?_, by rw [l6]; simp [puT, h2], l7, l8⟩
      · apply e_impl_tree_push
        simp only [q_impl_tree_push, treeK, h2, Int.reduceBEq, ↓reduceIte]
        rw [show idx [t] (0 : Int) = some t from rfl]
        simp only [Option.bind_some, l4]
      · simp only [List.length_append, List.length_cons, List.length_nil] at hp ⊢
        apply e_spec_l14Push
        rw [show (pre.length : Int) + ((g.length + (0 + 1) : Nat) : Int) - 1 = ((pre ++ g).length : Int) by simp; omega, show pre ++ (g ++ [x] ++ post) = (pre ++ g) ++ x :: post by simp]
        simp only [q_spec_l14Push, idx_mid, Option.bind_some, form_eta, p_ownNode x hx, h2, Int.reduceBEq, ↓reduceIte]
        rw [w64 (by simp; omega) (by simp; omega)]
        have := l5 pre (x :: post) (by omega)
        rw [show ((pre ++ g).length : Int) - 1 = (pre.length : Int) + g.length - 1 by simp, List.append_assoc, this]
        rfl
    · obtain ⟨L, u, l1, l2, l3, l4, l5, l6, l7, l8⟩ := ih n
      have hn1 : x.1 ≠ 1 := by omega
      refine ⟨L ++ [xnd n x], mkT (xnd n x) [u], .un l1, by simp; omega, ?_, ?_, fun pre post hp => ?_, by rw [l6]; simp [puT, h2, xnd], psh_app _ _ _ l7 ⟨fun hh => absurd hh (xnd_ne2 n h2), trivial⟩, .un (by rw [opn_xnd n (by omega)]; exact h1) l8⟩
      · intro y hy
        rw [List.mem_append] at hy
        rcases hy with hy | hy
        · exact l3 y hy
        · simp at hy; subst hy; exact ⟨hx, hx'⟩
      · refine p_push_node x [t] [u] n h2 hn1 ?_
        exact p_push_step n _ [t] u 0 (by simp) (by simp) (by simp) l4 (p_push_end n _ [t])
      · simp only [List.length_append, List.length_cons, List.length_nil] at hp ⊢
        rw [show (pre.length : Int) + ((g.length + (0 + 1) : Nat) : Int) - 1 = ((pre ++ g).length : Int) by simp; omega, show pre ++ (g ++ [x] ++ post) = (pre ++ g) ++ x :: post by simp]
        have := l5 pre (x :: post) (by omega)
        refine p_spush_node _ _ x n hx (idx_mid _ _ _) h2 hn1 (by omega) (by simp; omega) L L (by omega) (by omega) ?_ (.inr ⟨?_, rfl⟩)
        · rw [show ((pre ++ g).length : Int) - 1 = (pre.length : Int) + g.length - 1 by simp, List.append_assoc, this]
        · have : x.1 = 5 ∨ x.1 = 6 := by omega
          rcases this with h5 | h5 <;> cases n <;> simp [xnd, xop, h5, opn]
  | @bin x g k t u h h2 hg hk ih1 ih2 =>
    intro n
    have hx := ndOK_smF h
    have hx' := ndOK_sm h
    have h34 := bin_op h h2
    obtain ⟨L1, u1, a1, a2, a3, a4, a5, a6, a7, a8⟩ := ih1 n
    obtain ⟨L2, u2, b1, b2, b3, b4, b5, b6, b7, b8⟩ := ih2 n
    refine ⟨L1 ++ L2 ++ [xnd n x], mkT (xnd n x) [u1, u2], .bin a1 b1, by simp; omega, ?_, ?_, fun pre post hp => ?_, by rw [a6, b6]; simp [puT, xnd], psh_app _ _ _ (psh_app _ _ _ a7 (psh_any _ b7)) ⟨fun hh => absurd hh (xnd_ne2 n (by omega)), trivial⟩, .bin (by rw [opn_xnd n (by omega)]; exact h2) a8 b8⟩
    · intro y hy
      rw [List.mem_append, List.mem_append] at hy
      rcases hy with (hy | hy) | hy
      · exact a3 y hy
      · exact b3 y hy
      · simp at hy; subst hy; exact ⟨hx, hx'⟩
    · refine p_push_node x [t, u] [u1, u2] n (by omega) (by omega) ?_
      refine p_push_step n _ [t, u] u1 0 (by simp) (by simp) (by simp) a4 ?_
      exact p_push_step n _ [t, u] u2 1 (by simp) (by simp) (by simp) b4 (p_push_end n _ [t, u])
    · simp only [List.length_append, List.length_cons, List.length_nil] at hp ⊢
      rw [show (pre.length : Int) + ((g.length + k.length + (0 + 1) : Nat) : Int) - 1 = (((pre ++ g) ++ k).length : Int) by simp; omega, show pre ++ (g ++ k ++ [x] ++ post) = ((pre ++ g) ++ k) ++ x :: post by simp]
      have e1 := a5 pre (k ++ x :: post) (by omega)
      have e2 := b5 (pre ++ g) (x :: post) (by simp; omega)
      have e3 := p_l14First hk (pre ++ g) (x :: post) (by simp; omega)
      refine p_spush_node _ _ x n hx (idx_mid _ _ _) (by omega) (by omega) (by omega) (by simp; omega) L2 (L1 ++ L2) (by omega) (by simp; omega) ?_ (.inl ⟨?_, ((pre ++ g).length : Int) - 1, L1, ?_, ?_, rfl⟩)
      · rw [show (((pre ++ g) ++ k).length : Int) - 1 = ((pre ++ g).length : Int) + k.length - 1 by simp; omega, List.append_assoc (pre ++ g) k, e2]
      · rcases h34 with h5 | h5 <;> cases n <;> simp [xnd, xop, h5, opn]
      · rw [show (((pre ++ g) ++ k).length : Int) = ((pre ++ g).length : Int) + k.length by simp; omega, List.append_assoc (pre ++ g) k, e3]
      · rw [show ((pre ++ g).length : Int) - 1 = (pre.length : Int) + g.length - 1 by simp, List.append_assoc (pre ++ g) k, List.append_assoc pre g, e1]
theorem p_push {a : List Int} {h : List TForm} {t : Tree} (hf : FT a h t) : ∀ n : Bool, ∃ (L : List TForm) (u : Tree), LT L u ∧ L.length ≤ 2 * h.length ∧ (∀ x ∈ L, smF x ∧ x.2.2.1.length ≤ 40 ∧ x.2.2.2.1.length ≤ 40) ∧ c_impl_tree_push M t n = some ((u, ()), ()) ∧
    ∀ pre post : List TForm, pre.length + h.length ≤ 100 → c_spec_l14Push M (pre ++ (h ++ post)) ((pre.length : Int) + h.length - 1) n = some ((L, ()), ()) := by
  intro n
  obtain ⟨L, u, a1, a2, a3, a4, a5, _⟩ := p_pushX hf n
  exact ⟨L, u, a1, a2, a3, a4, a5⟩
end Go.Proofs.YtpmjpijpjmphnaaGreatCf.Ev

/- Plain laws: a valid formula has a tree. No condition. -/
namespace Go.Proofs.YtpmjpijpjmphnaaGreatCf.Ev
open Go
set_option autoImplicit false
set_option linter.unusedVariables false
set_option linter.unusedSimpArgs false

theorem fOK_gT {a : List Int} {L : List TForm} (h : fOK a L = true) : ∃ T, gT a [] L = some [T] := by
  simp only [fOK, Bool.and_eq_true, decide_eq_true_eq] at h
  have e := gT_gF a L []
  rw [show ([] : List Tree).length = 0 from rfl, h.2] at e
  cases hg : gT a [] L with
  | none => rw [hg] at e; cases e
  | some st =>
    rw [hg] at e
    match st, e with
    | [T], _ => exact ⟨T, rfl⟩
    | [], e => simp at e
    | _ :: _ :: _, e => simp at e
end Go.Proofs.YtpmjpijpjmphnaaGreatCf.Ev

/- Plain laws: the form without existential quantifiers, by both programs. No condition but sizes. -/
namespace Go.Proofs.YtpmjpijpjmphnaaGreatCf.Ev
open Go
set_option autoImplicit false
set_option linter.unusedVariables false
set_option linter.unusedSimpArgs false

/-- What is pushed, by the reference and by the program's tree. -/
theorem p_pushed (s : TSign) (hs : s.1.length ≤ 1048576) (f : List TForm) (hl : f.length ≤ 1048576) (hx : ∀ x ∈ f, smF x) (hb : (gS s.1 && fOK s.1 f) = true) {t : Tree} (hf : FT s.1 f t) :
    ∃ L : List TForm, c_spec_PushNot M s f false = some (if fOK s.1 L = true then ((L, true, ()), ()) else (([], false, ()), ())) ∧ c_impl_tree_push M t false = some ((puT t false, ()), ()) ∧ c_impl_Sign_listed M s (puT t false) = some (if fOK s.1 L = true then ((L, true, ()), ()) else (([], false, ()), ())) ∧
      (∀ x ∈ L, smF x) ∧ (fOK s.1 L = true → FT s.1 L (puT t false)) := by
  have hspec := p_spec_GoodForm s hs f hl hx
  rw [hb] at hspec
  have hb' := hb
  simp only [Bool.and_eq_true, fOK, decide_eq_true_eq] at hb'
  obtain ⟨hg, h15, _⟩ := hb'
  obtain ⟨L, u, a1, a2, a3, a4, a5, a6, a7, a8⟩ := p_pushX hf false
  subst a6
  have hL : ∀ x ∈ L, smF x := fun x hx => (a3 x hx).1
  have e5 := a5 [] [] (by simp; omega)
  simp only [List.nil_append, List.append_nil, List.length_nil, Int.natCast_zero, Int.zero_add] at e5
  have hpos := hf.pos
  have hform := p_l14Form s hg L (by omega) hL
  refine ⟨L, e_spec_PushNot _ _ _ ?_, a4, p_listed s hg a1 hL (by omega), hL, fun h => ?_⟩
  · simp only [q_spec_PushNot, sign_eta', hspec, Option.bind_some]
    rw [if_neg (by simp), w64 (by omega) (by omega), e5]
    simp only [Option.bind_some, hform]
    cases fOK s.1 L <;> rfl
  · obtain ⟨T, hT⟩ := fOK_gT h
    obtain rfl := a8.uniq hT
    exact gT_FT hT
theorem sub0 : SubF (List.replicate (Int.toNat 12) ([] : List Int)) (fun _ => []) := by
  refine ⟨rfl, fun v v0 v1 => ?_⟩
  rw [List.getElem?_replicate, if_pos (by simp; omega)]
theorem gS_le {a : List Int} (h : gS a = true) : a.length ≤ 10 := by
  simp only [gS, Bool.and_eq_true, decide_eq_true_eq] at h
  exact h.2.1
theorem p_skolemForms (s : TSign) (hs : s.1.length ≤ 1048576) (f : List TForm) (hl : f.length ≤ 1048576) (hx : ∀ x ∈ f, smF x) : ∃ r : (TSign × List TForm × Bool × Unit) × Unit, c_spec_SkolemForm M s f = some r ∧ c_impl_skolemForm M s f = some r ∧ r.1.1.1.length ≤ 1048576 ∧ r.1.2.1.length ≤ 1000 ∧ ∀ x ∈ r.1.2.1, smF x := by
  have bad : c_spec_l15Ready M s f = some (([], false, ()), ()) → c_impl_pushedApart M s f = some ((Tree.nil, false, ()), ()) ∨ (∃ t, c_impl_pushedApart M s f = some ((t, false, ()), ())) → ∃ r : (TSign × List TForm × Bool × Unit) × Unit, c_spec_SkolemForm M s f = some r ∧ c_impl_skolemForm M s f = some r ∧ r.1.1.1.length ≤ 1048576 ∧ r.1.2.1.length ≤ 1000 ∧ ∀ x ∈ r.1.2.1, smF x := by
    intro h1 h2
    obtain ⟨t, h2⟩ : ∃ t, c_impl_pushedApart M s f = some ((t, false, ()), ()) := by
      rcases h2 with h | h
      · exact ⟨_, h⟩
      · exact h
    refine ⟨((([], ()), [], false, ()), ()), ?_, e_impl_skolemForm _ _ ?_, by simp, by simp, by simp⟩
    · have : c_spec_l15Skolem M s f = some ((none, [], false, ()), ()) := by
        apply e_spec_l15Skolem
        simp only [q_spec_l15Skolem, sign_eta', h1, Option.bind_some]
        rfl
      apply e_spec_SkolemForm
      simp only [q_spec_SkolemForm, sign_eta', this, Option.bind_some]
      rfl
    · simp only [q_impl_skolemForm, sign_eta', h2, Option.bind_some]
      rfl
  obtain ⟨t, ht, hgt⟩ := p_formula s hs f
  have hspec := p_spec_GoodForm s hs f hl hx
  cases hb : (gS s.1 && fOK s.1 f) with
  | false =>
    rw [hb] at ht hspec
    refine bad ?_ (.inl ?_)
    · have : c_spec_PushNot M s f false = some (([], false, ()), ()) := by
        apply e_spec_PushNot
        simp only [q_spec_PushNot, sign_eta', hspec, Option.bind_some]; rfl
      apply e_spec_l15Ready
      simp only [q_spec_l15Ready, sign_eta', this, Option.bind_some]; rfl
    · apply e_impl_pushedApart
      simp only [q_impl_pushedApart, sign_eta', ht, Option.bind_some]; rfl
  | true =>
    rw [hb] at ht
    have hft := gT_FT (hgt hb)
    obtain ⟨L, p1, p2, p3, p4, p5⟩ := p_pushed s hs f hl hx hb hft
    have hg : gS s.1 = true := by simp only [Bool.and_eq_true] at hb; exact hb.1
    have hs10 := gS_le hg
    cases hL : fOK s.1 L with
    | false =>
      rw [hL] at p1 p3
      rw [if_neg (by simp)] at p1 p3
      refine bad ?_ (.inl ?_)
      · apply e_spec_l15Ready
        simp only [q_spec_l15Ready, sign_eta', p1, Option.bind_some]; rfl
      · apply e_impl_pushedApart
        simp only [q_impl_pushedApart, sign_eta', ht, p2, p3, Option.bind_some]; rfl
    | true =>
      rw [hL] at p1 p3
      rw [if_pos rfl] at p1 p3
      have hft2 := p5 hL
      have hbL : (gS s.1 && fOK s.1 L) = true := by rw [hg, hL]; rfl
      have hL15 : L.length ≤ 15 := by simp only [fOK, Bool.and_eq_true, decide_eq_true_eq] at hL; exact hL.1
      obtain ⟨F, R, f1, f2, f3, f4, f5, f6⟩ := p_apartFormT s hs L (by omega) p4 hbL hft2
      have ready : c_spec_l15Ready M s f = some (if F.length = 0 ∧ (apT (puT t false) (fun _ => 0) 0).2 ≤ 6 then ((R, true, ()), ()) else (([], false, ()), ())) := by
        apply e_spec_l15Ready
        simp only [q_spec_l15Ready, sign_eta', p1, Option.bind_some, Bool.not_true, Bool.false_eq_true, if_false, f5]
      have papart : c_impl_pushedApart M s f = some (if F.length = 0 then (((apT (puT t false) (fun _ => 0) 0).1, decide ((apT (puT t false) (fun _ => 0) 0).2 ≤ 6), ()), ()) else ((Tree.nil, false, ()), ())) := by
        apply e_impl_pushedApart
        simp only [q_impl_pushedApart, sign_eta', ht, p2, p3, Option.bind_some, Bool.not_true, Bool.false_eq_true, if_false, f6]
      by_cases hF : F.length = 0
      · by_cases h6 : (apT (puT t false) (fun _ => 0) 0).2 ≤ 6
        · rw [if_pos ⟨hF, h6⟩] at ready
          rw [if_pos hF, decide_eq_true h6] at papart
          have hR := f4 h6
          have hpos := hR.pos
          have stb : StB [] s.1 (fun _ => []) R.length := ⟨by simp; omega, by omega, fun _ => by simp, by simp⟩
          obtain ⟨tm', k1, _⟩ := p_remove hR [] s.1 (fun _ => []) [] stb (fun _ => rfl)
          obtain ⟨K, sub', so', ag', m1, m2, _, m4, m5, m6, m7⟩ := p_l15form hR [] s.1 (fun _ => []) (List.replicate (Int.toNat 12) []) [] [] [] [] stb sub0 (by simp; omega) (by simp; omega) (by simp; omega)
          simp only [List.nil_append, List.append_nil, List.length_nil, Int.natCast_zero, Int.zero_add] at m1
          have st := skT_st hR [] s.1 (fun _ => []) 0 stb
          have har := st.2.1
          have gform := p_spec_GoodForm ((skT (apT (puT t false) (fun _ => 0) 0).1 [] s.1 (fun _ => [])).2.1, ()) (by simp only; omega) K (by omega) m7
          have gsign := p_impl_GoodSign ((skT (apT (puT t false) (fun _ => 0) 0).1 [] s.1 (fun _ => [])).2.1, ()) (by simp only; omega)
          simp only at gform gsign
          refine ⟨if (gS (skT (apT (puT t false) (fun _ => 0) 0).1 [] s.1 (fun _ => [])).2.1 && fOK (skT (apT (puT t false) (fun _ => 0) 0).1 [] s.1 (fun _ => [])).2.1 K) = true then ((((skT (apT (puT t false) (fun _ => 0) 0).1 [] s.1 (fun _ => [])).2.1, ()), K, true, ()), ()) else ((([], ()), [], false, ()), ()), ?_, ?_, ?_, ?_, ?_⟩
          · have hsk : c_spec_l15Skolem M s f = some (if (gS (skT (apT (puT t false) (fun _ => 0) 0).1 [] s.1 (fun _ => [])).2.1 && fOK (skT (apT (puT t false) (fun _ => 0) 0).1 [] s.1 (fun _ => [])).2.1 K) = true then ((some ((skT (apT (puT t false) (fun _ => 0) 0).1 [] s.1 (fun _ => [])).2.1, sub', so', ag', ()), K, true, ()), ()) else ((none, [], false, ()), ())) := by
              apply e_spec_l15Skolem
              simp only [q_spec_l15Skolem, sign_eta', ready, Option.bind_some]
              rw [if_neg (by simp), if_pos (by decide), w64 (by omega) (by omega)]
              rw [sign_eta' s] at m1
              rw [m1]
              simp only [Option.bind_some, gform]
              cases (gS (skT (apT (puT t false) (fun _ => 0) 0).1 [] s.1 (fun _ => [])).2.1 && fOK (skT (apT (puT t false) (fun _ => 0) 0).1 [] s.1 (fun _ => [])).2.1 K) <;> rfl
            apply e_spec_SkolemForm
            simp only [q_spec_SkolemForm, sign_eta', hsk, Option.bind_some]
            cases (gS (skT (apT (puT t false) (fun _ => 0) 0).1 [] s.1 (fun _ => [])).2.1 && fOK (skT (apT (puT t false) (fun _ => 0) 0).1 [] s.1 (fun _ => [])).2.1 K) with
            | false => rfl
            | true =>
              simp only [if_true, Bool.not_true, Bool.false_eq_true, if_false, Option.bind_some, p_own' _ (show (skT (apT (puT t false) (fun _ => 0) 0).1 [] s.1 (fun _ => [])).2.1.length ≤ 1048576 by omega)]
          · apply e_impl_skolemForm
            simp only [q_impl_skolemForm, sign_eta', papart, Option.bind_some]
            rw [if_neg (by simp), if_pos (by omega)]
            rw [sign_eta' s] at k1
            rw [k1]
            simp only [Option.bind_some, gsign]
            cases hgs : gS (skT (apT (puT t false) (fun _ => 0) 0).1 [] s.1 (fun _ => [])).2.1 with
            | false => rfl
            | true =>
              have := p_listed ((skT (apT (puT t false) (fun _ => 0) 0).1 [] s.1 (fun _ => [])).2.1, ()) hgs m2 m7 (by omega)
              simp only [Bool.not_true, Bool.false_eq_true, if_false, this, Option.bind_some, Bool.true_and]
              cases fOK (skT (apT (puT t false) (fun _ => 0) 0).1 [] s.1 (fun _ => [])).2.1 K <;> rfl
          · split
            · simp only; omega
            · simp
          · split
            · simp only; omega
            · simp
          · split
            · exact m7
            · simp
        · rw [if_neg (fun q => h6 q.2)] at ready
          rw [if_pos hF, decide_eq_false h6] at papart
          exact bad ready (.inr ⟨_, papart⟩)
      · rw [if_neg (fun q => hF q.1)] at ready
        rw [if_neg hF] at papart
        exact bad ready (.inl papart)
end Go.Proofs.YtpmjpijpjmphnaaGreatCf.Ev

/- Plain laws: what the laws write into rows to tell whether they are shared, and read again. No condition but sizes. -/
namespace Go.Proofs.YtpmjpijpjmphnaaGreatCf.Ev
open Go
set_option autoImplicit false
set_option linter.unusedVariables false
set_option linter.unusedSimpArgs false

/-- Numbers from one on. -/
def mkS (k : Int) : Nat → List Int
  | 0 => []
  | n + 1 => k :: mkS (k + 1) n
theorem mkS_len : ∀ (n : Nat) (k : Int), (mkS k n).length = n
  | 0, _ => rfl
  | n + 1, k => by simp [mkS, mkS_len n]

theorem set_mid {α : Type} (P R : List α) (x y : α) : (P ++ x :: R).set P.length y = P ++ y :: R := by
  rw [List.set_append_right _ _ (Nat.le_refl _)]; simp
theorem get_mid {α : Type} (P R : List α) (x : α) : (P ++ x :: R)[P.length]? = some x := by simp
theorem idx_midQ {α : Type} (P R : List α) (x : α) : idx (P ++ x :: R) (P.length : Int) = some x := by rw [idx_nat]; simp

theorem p_markIntS_loop : ∀ (R P : List Int) (k : Int), 0 ≤ k → k + R.length ≤ 4611686018427387904 → P.length + R.length ≤ 4611686018427387904 → l_laws_markIntS_26 M (P ++ R) k P.length = some (.inl (P ++ mkS k R.length, k + R.length, ())) := by
  intro R
  induction R with
  | nil =>
    intro P k _ _ _
    apply el_laws_markIntS_26
    simp [ql_laws_markIntS_26, mkS]
  | cons x R ih =>
    intro P k h0 hk hp
    simp only [List.length_cons] at hk hp
    apply el_laws_markIntS_26
    simp only [ql_laws_markIntS_26]
    rw [if_pos (by simp; omega), if_pos (by simp; omega), Int.toNat_natCast, get_mid, set_mid, w64 (x := k + 1) (by omega) (by omega), inc_nat (by omega)]
    simp only [Option.bind_some]
    have := ih (P ++ [k]) (k + 1) (by omega) (by omega) (by simp; omega)
    rw [List.append_assoc, List.length_append] at this
    simp only [List.cons_append, List.nil_append, List.length_cons, List.length_nil, Nat.zero_add] at this
    rw [this]
    simp only [List.length_cons, mkS, List.append_assoc, List.cons_append, List.nil_append]
    rw [show k + 1 + (R.length : Int) = k + ((R.length + 1 : Nat) : Int) by omega]
theorem p_markIntS (a : List Int) (k : Int) (h0 : 0 ≤ k) (hk : k + a.length ≤ 4611686018427387904) : c_laws_markIntS M a k = some ((k + a.length, ()), (mkS k a.length, ())) := by
  apply e_laws_markIntS
  have := p_markIntS_loop a [] k h0 hk (by simp; omega)
  simp only [List.nil_append, List.length_nil] at this
  rw [show ((0 : Nat) : Int) = 0 from rfl] at this
  simp only [q_laws_markIntS, this, Option.bind_some, Sum.elim_inl]

theorem p_heldIntS_loop : ∀ (n : Nat) (P : List Int) (k : Int), 0 ≤ k → k + n ≤ 4611686018427387904 → P.length + n ≤ 4611686018427387904 → l_laws_heldIntS_26 M (P ++ mkS k n) k P.length = some (.inl (k + n, ())) := by
  intro n
  induction n with
  | zero =>
    intro P k _ _ _
    apply el_laws_heldIntS_26
    simp [ql_laws_heldIntS_26, mkS]
  | succ n ih =>
    intro P k h0 hk hp
    rw [show mkS k (n + 1) = k :: mkS (k + 1) n from rfl]
    apply el_laws_heldIntS_26
    simp only [ql_laws_heldIntS_26]
    rw [if_pos (by simp [mkS_len]; omega), idx_midQ, w64 (x := k + 1) (by omega) (by omega), inc_nat (by omega)]
    simp only [Option.bind_some]
    rw [if_neg (by simp)]
    have := ih (P ++ [k]) (k + 1) (by omega) (by omega) (by simp; omega)
    rw [List.append_assoc, List.length_append] at this
    simp only [List.cons_append, List.nil_append, List.length_cons, List.length_nil, Nat.zero_add] at this
    rw [this, show k + 1 + (n : Int) = k + ((n + 1 : Nat) : Int) by omega]
theorem p_heldIntS (k : Int) (n : Nat) (h0 : 0 ≤ k) (hk : k + n ≤ 4611686018427387904) : c_laws_heldIntS M (mkS k n) k = some ((k + n, ()), ()) := by
  apply e_laws_heldIntS
  have := p_heldIntS_loop n [] k h0 hk (by simp; omega)
  simp only [List.nil_append, List.length_nil] at this
  rw [show ((0 : Nat) : Int) = 0 from rfl] at this
  simp only [q_laws_heldIntS, this, Option.bind_some, Sum.elim_inl]

theorem p_markSign (s : TSign) (k : Int) (h0 : 0 ≤ k) (hk : k + s.1.length ≤ 4611686018427387904) : c_laws_markSign M s k = some ((k + s.1.length, ()), ((mkS k s.1.length, ()), ())) := by
  apply e_laws_markSign
  simp only [q_laws_markSign, p_markIntS s.1 k h0 hk, Option.bind_some]

end Go.Proofs.YtpmjpijpjmphnaaGreatCf.Ev

/- Plain laws: marks in a signature. No condition but sizes. -/
namespace Go.Proofs.YtpmjpijpjmphnaaGreatCf.Ev
open Go
set_option autoImplicit false
set_option linter.unusedVariables false
set_option linter.unusedSimpArgs false

theorem p_heldSign (k : Int) (s : TSign) (h0 : 0 ≤ k) (hk : k + s.1.length ≤ 4611686018427387904) : c_laws_heldSign M (mkS k s.1.length, ()) k = some ((k + s.1.length, ()), ()) := by
  apply e_laws_heldSign
  simp only [q_laws_heldSign, p_heldIntS k s.1.length h0 hk, Option.bind_some]
  rw [if_neg (by simp; omega)]
end Go.Proofs.YtpmjpijpjmphnaaGreatCf.Ev

/- Plain laws: formulas that can be clauses, by both programs. No condition but sizes. -/
namespace Go.Proofs.YtpmjpijpjmphnaaGreatCf.Ev
open Go
set_option autoImplicit false
set_option linter.unusedVariables false
set_option linter.unusedSimpArgs false

/-- Only equations are negated; 'p': the operator in front. -/
def psb : Int → List TForm → Bool
  | _, [] => true
  | p, x :: r => (!(x.1 == 2) || p == 1) && psb x.1 r
def lastop : Int → List TForm → Int
  | p, [] => p
  | _, x :: r => lastop x.1 r
theorem psb_app : ∀ (L K : List TForm) (p : Int), psb p (L ++ K) = (psb p L && psb (lastop p L) K)
  | [], _, _ => rfl
  | x :: L, K, p => by
    simp only [List.cons_append, psb, lastop, psb_app L K]
    rw [Bool.and_assoc]
theorem lastop_app : ∀ (L K : List TForm) (p : Int), lastop p (L ++ K) = lastop (lastop p L) K
  | [], _, _ => rfl
  | x :: L, K, p => by simp only [List.cons_append, lastop, lastop_app L K]
/-- The operator in front of a place. -/
def bef (f : List TForm) (i : Nat) : Int := if h : 0 < i ∧ i - 1 < f.length then (f[i - 1]'h.2).1 else 0
theorem p_psb_loops (a : List Int) (f : List TForm) (hl : f.length ≤ 15) : ∀ k i p : Nat, i + k = f.length → p ≤ i → gF a p (f.drop i) = true → ∀ q : Int, (0 < i → q = bef f i) →
    l_spec_l14Pushed_26 M f f f.length i = some (if psb q (f.drop i) = true then .inl () else .inr ((false, ()), ())) ∧ l_impl_isPushed_26 M f f f.length i = some (if psb q (f.drop i) = true then .inl () else .inr ((false, ()), ())) := by
  intro k
  induction k with
  | zero =>
    intro i p hi hp hg q hq
    obtain rfl : i = f.length := by omega
    exact ⟨el_spec_l14Pushed_26 _ _ _ _ (by simp [ql_spec_l14Pushed_26, psb]), el_impl_isPushed_26 _ _ _ _ (by simp [ql_impl_isPushed_26, psb])⟩
  | succ k ih =>
    intro i p hi hp hg q hq
    have h1 : i < f.length := by omega
    rw [List.drop_eq_getElem_cons h1] at hg ⊢
    simp only [gF, Bool.and_eq_true, decide_eq_true_eq] at hg
    obtain ⟨hn, ho, hr⟩ := hg
    have hop := ndOK_opn hn
    obtain ⟨g1, g2⟩ := ih (i + 1) (p - (opn f[i].1).toNat + 1) (by omega) (by omega) hr f[i].1 (fun _ => by unfold bef; rw [dif_pos ⟨by omega, by simpa using h1⟩]; rfl)
    by_cases h2 : f[i].1 = 2
    · have hop1 := hop.2.2 h2
      have hi1 : 1 ≤ i := by omega
      have hlt : i - 1 < f.length := by omega
      have ew : IntKind.i64.wrap ((i : Int) - 1) = ((i - 1 : Nat) : Int) := by rw [w64 (by omega) (by omega)]; omega
      have hq' := hq (by omega)
      unfold bef at hq'
      rw [dif_pos ⟨by omega, hlt⟩] at hq'
      by_cases h3 : f[i - 1].1 = 1
      · have e : psb q (f[i] :: f.drop (i + 1)) = psb f[i].1 (f.drop (i + 1)) := by simp [psb, hq', h3]
        rw [e]
        refine ⟨el_spec_l14Pushed_26 _ _ _ _ ?_, el_impl_isPushed_26 _ _ _ _ ?_⟩
        · simp only [ql_spec_l14Pushed_26]
          rw [if_pos (by simpa using h1), idx_lt h1]
          simp only [Option.bind_some]
          rw [if_pos (by simpa using h2), ew, idx_lt hlt, inc_nat (by omega)]
          simp only [Option.bind_some]
          rw [if_neg (by simpa using h3)]
          exact g1
        · simp only [ql_impl_isPushed_26]
          rw [if_pos (by simpa using h1), idx_lt h1]
          simp only [Option.bind_some]
          rw [if_pos (by simpa using h2), ew, idx_lt hlt, inc_nat (by omega)]
          simp only [Option.bind_some]
          rw [if_neg (by simpa using h3)]
          exact g2
      · have e : psb q (f[i] :: f.drop (i + 1)) = false := by simp [psb, hq', h3, h2]
        rw [e]
        refine ⟨el_spec_l14Pushed_26 _ _ _ _ ?_, el_impl_isPushed_26 _ _ _ _ ?_⟩
        · simp only [ql_spec_l14Pushed_26]
          rw [if_pos (by simpa using h1), idx_lt h1]
          simp only [Option.bind_some]
          rw [if_pos (by simpa using h2), ew, idx_lt hlt]
          simp only [Option.bind_some]
          rw [if_pos (by simpa using h3)]
          rfl
        · simp only [ql_impl_isPushed_26]
          rw [if_pos (by simpa using h1), idx_lt h1]
          simp only [Option.bind_some]
          rw [if_pos (by simpa using h2), ew, idx_lt hlt]
          simp only [Option.bind_some]
          rw [if_pos (by simpa using h3)]
          rfl
    · have e : psb q (f[i] :: f.drop (i + 1)) = psb f[i].1 (f.drop (i + 1)) := by simp [psb, h2]
      rw [e]
      refine ⟨el_spec_l14Pushed_26 _ _ _ _ ?_, el_impl_isPushed_26 _ _ _ _ ?_⟩
      · simp only [ql_spec_l14Pushed_26]
        rw [if_pos (by simpa using h1), idx_lt h1]
        simp only [Option.bind_some]
        rw [if_neg (by simpa using h2), inc_nat (by omega)]
        exact g1
      · simp only [ql_impl_isPushed_26]
        rw [if_pos (by simpa using h1), idx_lt h1]
        simp only [Option.bind_some]
        rw [if_neg (by simpa using h2), inc_nat (by omega)]
        exact g2
theorem p_psb {a : List Int} {f : List TForm} (hf : fOK a f = true) : c_spec_l14Pushed M f = some ((psb 0 f, ()), ()) ∧ c_impl_isPushed M f = some ((psb 0 f, ()), ()) := by
  simp only [fOK, Bool.and_eq_true, decide_eq_true_eq] at hf
  obtain ⟨g1, g2⟩ := p_psb_loops a f hf.1 f.length 0 0 (by omega) (by omega) hf.2 0 (fun h => by omega)
  rw [show ((0 : Nat) : Int) = 0 from rfl, List.drop_zero] at g1 g2
  constructor
  · apply e_spec_l14Pushed
    simp only [q_spec_l14Pushed, g1, Option.bind_some]
    cases psb 0 f <;> rfl
  · apply e_impl_isPushed
    simp only [q_impl_isPushed, g2, Option.bind_some]
    cases psb 0 f <;> rfl

/-- No existential quantifiers, and universal ones for different variables. -/
def clz (seen : List Int) : List TForm → Bool
  | [] => true
  | x :: r => if x.1 = 6 then false else if x.1 = 5 then (if x.2.1 ∈ seen then false else clz (seen ++ [x.2.1]) r) else clz seen r
theorem clz6 {all : List Int} {x : TForm} {r : List TForm} (h : x.1 = 6) : clz all (x :: r) = false := by simp [clz, h]
theorem clz5m {all : List Int} {x : TForm} {r : List TForm} (h : x.1 = 5) (hm : x.2.1 ∈ all) : clz all (x :: r) = false := by simp [clz, h, hm]
theorem clz5n {all : List Int} {x : TForm} {r : List TForm} (h : x.1 = 5) (hm : x.2.1 ∉ all) : clz all (x :: r) = clz (all ++ [x.2.1]) r := by simp [clz, h, hm]
theorem clzo {all : List Int} {x : TForm} {r : List TForm} (h6 : x.1 ≠ 6) (h5 : x.1 ≠ 5) : clz all (x :: r) = clz all r := by simp [clz, h6, h5]
theorem p_l1Has_loop (v : Int) (a : List Int) (ha : a.length ≤ 1000) : ∀ k i : Nat, i + k = a.length → l_spec_l1Has_26 M v a a.length i = some (if v ∈ a.drop i then .inr ((true, ()), ()) else .inl ()) := by
  intro k
  induction k with
  | zero =>
    intro i hi
    obtain rfl : i = a.length := by omega
    exact el_spec_l1Has_26 _ _ _ _ (by simp [ql_spec_l1Has_26])
  | succ k ih =>
    intro i hi
    have h1 : i < a.length := by omega
    rw [List.drop_eq_getElem_cons h1]
    apply el_spec_l1Has_26
    simp only [ql_spec_l1Has_26]
    rw [if_pos (by simpa using h1), idx_lt h1, inc_nat (by omega)]
    simp only [Option.bind_some]
    by_cases h : a[i] = v
    · rw [if_pos (by simpa using h), if_pos (by rw [h]; exact List.mem_cons_self ..)]
    · rw [if_neg (by simpa using h), ih (i + 1) (by omega)]
      by_cases h2 : v ∈ a.drop (i + 1)
      · rw [if_pos h2, if_pos (List.mem_cons_of_mem _ h2)]
      · rw [if_neg h2, if_neg (fun h3 => by rcases List.mem_cons.1 h3 with e | e; exact h e.symm; exact h2 e)]
theorem p_l1Has (a : List Int) (v : Int) (ha : a.length ≤ 1000) : c_spec_l1Has M a v = some ((decide (v ∈ a), ()), ()) := by
  apply e_spec_l1Has
  have := p_l1Has_loop v a ha a.length 0 (by omega)
  rw [show ((0 : Nat) : Int) = 0 from rfl, List.drop_zero] at this
  simp only [q_spec_l1Has, this, Option.bind_some]
  by_cases h : v ∈ a
  · rw [if_pos h, decide_eq_true h]; rfl
  · rw [if_neg h, decide_eq_false h]; rfl
theorem p_clz_spec (s : TSign) (f : List TForm) (hl : f.length ≤ 100) : ∀ k i : Nat, i + k = f.length → ∀ all : List Int, all.length ≤ i → l_spec_ClausesOf_122 M f s all f f.length i = some (if clz all (f.drop i) = true then .inl (f, s, ()) else .inr (([], false, ()), ())) := by
  intro k
  induction k with
  | zero =>
    intro i hi all ha
    obtain rfl : i = f.length := by omega
    exact el_spec_ClausesOf_122 _ _ _ _ _ _ (by simp [ql_spec_ClausesOf_122, clz])
  | succ k ih =>
    intro i hi all ha
    have h1 : i < f.length := by omega
    rw [List.drop_eq_getElem_cons h1]
    apply el_spec_ClausesOf_122
    simp only [ql_spec_ClausesOf_122]
    rw [if_pos (by simpa using h1), idx_lt h1]
    simp only [Option.bind_some]
    by_cases h6 : f[i].1 = 6
    · rw [if_pos (by simpa using h6), clz6 h6]
      rfl
    · rw [if_neg (by simpa using h6)]
      by_cases h5 : f[i].1 = 5
      · rw [if_pos (by simpa using h5), p_l1Has all _ (by omega)]
        simp only [Option.bind_some]
        by_cases hm : f[i].2.1 ∈ all
        · rw [if_pos (by simpa using hm), clz5m h5 hm]
          rfl
        · rw [if_neg (by simpa using hm), clz5n h5 hm, if_pos (by simpa using h5), if_pos (by simp; omega)]
          simp only [Option.bind_some, Sum.elim_inl]
          rw [inc_nat (by omega)]
          exact ih (i + 1) (by omega) _ (by simp; omega)
      · rw [if_neg (by simpa using h5), clzo h6 h5, if_neg (by simpa using h5)]
        simp only [Option.bind_some, Sum.elim_inl]
        rw [inc_nat (by omega)]
        exact ih (i + 1) (by omega) _ (by omega)
/-- What the program keeps of the variables that were met. -/
def seenT (all : List Int) : Bool × Bool × Bool × Bool × Bool × Bool × Unit := (decide (0 ∈ all), decide (1 ∈ all), decide (2 ∈ all), decide (3 ∈ all), decide (4 ∈ all), decide (5 ∈ all), ())
theorem mem_snoc (v u : Int) (all : List Int) : decide (v ∈ all ++ [u]) = (decide (v ∈ all) || decide (v = u)) := by
  rw [Bool.eq_iff_iff]; simp
theorem p_clz_impl {a : List Int} (f : List TForm) (hl : f.length ≤ 100) (hnd : ∀ x ∈ f, ndOK a x = true) : ∀ k i : Nat, i + k = f.length → ∀ all : List Int, l_impl_isClausal_58 M f (seenT all) f f.length i = some (if clz all (f.drop i) = true then .inl (f, ()) else .inr ((false, ()), ())) := by
  intro k
  induction k with
  | zero =>
    intro i hi all
    obtain rfl : i = f.length := by omega
    apply el_impl_isClausal_58
    simp only [ql_impl_isClausal_58]
    rw [if_neg (by simp)]
    simp [clz]
  | succ k ih =>
    intro i hi all
    have h1 : i < f.length := by omega
    have hn := hnd _ (List.getElem_mem h1)
    rw [List.drop_eq_getElem_cons h1]
    apply el_impl_isClausal_58
    simp only [ql_impl_isClausal_58]
    rw [if_pos (by simpa using h1), idx_lt h1]
    simp only [Option.bind_some]
    by_cases h6 : f[i].1 = 6
    · rw [if_pos (by simpa using h6), clz6 h6]
      rfl
    · rw [if_neg (by simpa using h6)]
      by_cases h5 : f[i].1 = 5
      · have hv : 0 ≤ f[i].2.1 ∧ f[i].2.1 ≤ 5 := (un_op hn (by rw [h5]; rfl)).2
        have n5 : (f[i].1 == 5) = true := by simpa using h5
        have hw : IntKind.i64.wrap ((i : Int) + 1) = (i : Int) + 1 := w64 (by omega) (by omega)
        have go : ∀ (u : Int), f[i].2.1 = u → ∀ all' : List Int, all' = all ++ [u] → l_impl_isClausal_58 M f (seenT all') f f.length ((i + 1 : Nat) : Int) = some (if clz (all ++ [f[i].2.1]) (f.drop (i + 1)) = true then .inl (f, ()) else .inr ((false, ()), ())) := by
          intro u hu all' ha
          subst ha; subst hu
          exact ih (i + 1) (by omega) _
        rw [if_pos n5]
        have hcase : f[i].2.1 = 0 ∨ f[i].2.1 = 1 ∨ f[i].2.1 = 2 ∨ f[i].2.1 = 3 ∨ f[i].2.1 = 4 ∨ f[i].2.1 = 5 := by omega
        rcases hcase with hu | hu | hu | hu | hu | hu <;>
        · have hgo := go _ hu _ rfl
          simp only [seenT, mem_snoc] at hgo
          simp only [seenT]
          by_cases hm : f[i].2.1 ∈ all
          · rw [clz5m h5 hm]
            rw [hu] at hm
            simp [hm, hu]
          · rw [clz5n h5 hm]
            rw [hu] at hm hgo ⊢
            simp only [hm, n5, decide_false, Bool.false_or, Bool.or_false, Bool.false_eq_true, if_false, if_true, Int.reduceEq, Int.natCast_zero, Int.natCast_one, Option.bind_some, Sum.elim_inl, decide_true, Bool.or_true] at hgo ⊢
            simpa [hw] using hgo
      · rw [if_neg (by simpa using h5), clzo h6 h5, if_neg (by simpa using h5)]
        simp only [Option.bind_some, Sum.elim_inl]
        rw [inc_nat (by omega)]
        exact ih (i + 1) (by omega) _
end Go.Proofs.YtpmjpijpjmphnaaGreatCf.Ev

/- Plain laws: both programs tell the same clauses. No condition but sizes. -/
namespace Go.Proofs.YtpmjpijpjmphnaaGreatCf.Ev
open Go
set_option autoImplicit false
set_option linter.unusedVariables false
set_option linter.unusedSimpArgs false

def litOK (a : List Int) (x : TLit) : Bool := isT a x.2.1 && isT a x.2.2.1

def clOK (a : List Int) (c : List TLit) : Bool := decide (c.length ≤ 8) && c.all (litOK a)

theorem p_l4Lit (s : TSign) (hg : gS s.1 = true) (x : TLit) (h : smL x) : c_spec_l4Lit M s x = some ((litOK s.1 x, ()), ()) := by
  apply e_spec_l4Lit
  simp only [q_spec_l4Lit, sign_eta, p_l1Term s hg x.2.1 h.1, p_l1Term s hg x.2.2.1 h.2, Option.bind_some, litOK]
  cases isT s.1 x.2.1 <;> simp

theorem p_isLit (s : TSign) (hg : gS s.1 = true) (x : TLit) : c_impl_Sign_isLit M s x = some ((litOK s.1 x, ()), ()) := by
  apply e_impl_Sign_isLit
  simp only [q_impl_Sign_isLit, sign_eta, p_isTerm s hg x.2.1, p_isTerm s hg x.2.2.1, Option.bind_some, litOK]
  cases isT s.1 x.2.1 <;> simp

theorem p_l4Clause_loop (s : TSign) (hg : gS s.1 = true) (a : List TLit) (ha : a.length ≤ 1048576) (hx : ∀ x ∈ a, smL x) : ∀ k i : Nat, i + k = a.length → l_spec_l4Clause_26 M a s a a.length i = some (if (a.drop i).all (litOK s.1) = true then .inl (a, ()) else .inr ((false, ()), ())) := by
  intro k
  induction k with
  | zero =>
    intro i hi
    obtain rfl : i = a.length := by omega
    apply el_spec_l4Clause_26
    simp [ql_spec_l4Clause_26]
  | succ k ih =>
    intro i hi
    apply el_spec_l4Clause_26
    have h1 : i < a.length := by omega
    simp only [ql_spec_l4Clause_26]
    rw [if_pos (by simpa using h1), idx_lt h1, inc_nat (by omega)]
    simp only [Option.bind_some, sign_eta, lit_eta, p_l4Lit s hg a[i] (hx _ (List.getElem_mem h1)), ih (i + 1) (by omega)]
    rw [List.drop_eq_getElem_cons h1, List.all_cons]
    generalize litOK s.1 a[i] = b
    cases b <;> rfl

theorem p_l4Clause (s : TSign) (hg : gS s.1 = true) (a : List TLit) (ha : a.length ≤ 1048576) (hx : ∀ x ∈ a, smL x) : c_spec_l4Clause M s a = some ((clOK s.1 a, ()), ()) := by
  apply e_spec_l4Clause
  simp only [q_spec_l4Clause, sign_eta]
  have := p_l4Clause_loop s hg a ha hx a.length 0 (by omega)
  rw [show ((0 : Nat) : Int) = 0 from rfl] at this
  rw [this, List.drop_zero, clOK]
  cases a.all (litOK s.1)
  · simp
  · simp; omega

theorem p_isClause1 (s : TSign) (hg : gS s.1 = true) (x : TLit) : c_impl_Sign_isClause_1 M x s = some ((!litOK s.1 x, ()), ()) := by
  apply e_impl_Sign_isClause_1
  simp only [q_impl_Sign_isClause_1, sign_eta, lit_eta, p_isLit s hg x, Option.bind_some]

theorem p_clIdx_loop (s : TSign) (hg : gS s.1 = true) (a : List TLit) (ha : a.length ≤ 1048576) : ∀ k i : Nat, i + k = a.length → ∃ r, l_slices_IndexFunc_impl_Lit_impl_Lit__impl_Sign_isClause_1_26 M a (s, ()) a.length i = some r ∧ (match r with | .inl _ => (a.drop i).all (litOK s.1) = true | .inr r => 0 ≤ r.1.1 ∧ (a.drop i).all (litOK s.1) = false) := by
  intro k
  induction k with
  | zero =>
    intro i hi
    obtain rfl : i = a.length := by omega
    refine ⟨.inl (), el_slices_IndexFunc_impl_Lit_impl_Lit__impl_Sign_isClause_1_26 _ _ _ _ (by simp [ql_slices_IndexFunc_impl_Lit_impl_Lit__impl_Sign_isClause_1_26]), by simp⟩
  | succ k ih =>
    intro i hi
    have h1 : i < a.length := by omega
    obtain ⟨r, hr, hm⟩ := ih (i + 1) (by omega)
    rw [List.drop_eq_getElem_cons h1, List.all_cons]
    by_cases hp : litOK s.1 a[i] = true
    · refine ⟨r, el_slices_IndexFunc_impl_Lit_impl_Lit__impl_Sign_isClause_1_26 _ _ _ _ ?_, by rw [hp, Bool.true_and]; exact hm⟩
      simp only [ql_slices_IndexFunc_impl_Lit_impl_Lit__impl_Sign_isClause_1_26]
      rw [if_pos (by simpa using h1), idx_lt h1, inc_nat (by omega)]
      simp only [Option.bind_some, lit_eta, p_isClause1 s hg, hp, Bool.not_true, Bool.false_eq_true, if_false]
      exact hr
    · rw [Bool.not_eq_true] at hp
      refine ⟨.inr (((i : Int), ()), ()), el_slices_IndexFunc_impl_Lit_impl_Lit__impl_Sign_isClause_1_26 _ _ _ _ ?_, Int.natCast_nonneg i, by rw [hp, Bool.false_and]⟩
      simp only [ql_slices_IndexFunc_impl_Lit_impl_Lit__impl_Sign_isClause_1_26]
      rw [if_pos (by simpa using h1), idx_lt h1]
      simp only [Option.bind_some, lit_eta, p_isClause1 s hg, hp, Bool.not_false, if_true]

theorem p_clContains (s : TSign) (hg : gS s.1 = true) (a : List TLit) (ha : a.length ≤ 1048576) : c_slices_ContainsFunc_impl_Lit_impl_Lit__impl_Sign_isClause_1 M a (s, ()) = some ((!(a.all (litOK s.1)), ()), ()) := by
  apply e_slices_ContainsFunc_impl_Lit_impl_Lit__impl_Sign_isClause_1
  simp only [q_slices_ContainsFunc_impl_Lit_impl_Lit__impl_Sign_isClause_1]
  obtain ⟨r, hr, hm⟩ := p_clIdx_loop s hg a ha a.length 0 (by omega)
  rw [show ((0 : Nat) : Int) = 0 from rfl] at hr
  rw [List.drop_zero] at hm
  cases r with
  | inl r =>
    rw [e_slices_IndexFunc_impl_Lit_impl_Lit__impl_Sign_isClause_1 a (s, ()) (r := ((-1, ()), ())) (by simp only [q_slices_IndexFunc_impl_Lit_impl_Lit__impl_Sign_isClause_1, hr, Option.bind_some, Sum.elim_inl])]
    simp only at hm
    simp [hm]
  | inr r =>
    rw [e_slices_IndexFunc_impl_Lit_impl_Lit__impl_Sign_isClause_1 a (s, ()) (r := r) (by simp only [q_slices_IndexFunc_impl_Lit_impl_Lit__impl_Sign_isClause_1, hr, Option.bind_some, Sum.elim_inr])]
    simp only at hm
    simp [hm]

theorem p_isClause (s : TSign) (hg : gS s.1 = true) (a : List TLit) (ha : a.length ≤ 1048576) : c_impl_Sign_isClause M s a = some ((clOK s.1 a, ()), ()) := by
  apply e_impl_Sign_isClause
  simp only [q_impl_Sign_isClause, sign_eta, p_clContains s hg a ha, Option.bind_some, clOK]
  by_cases h : a.length ≤ 8
  · rw [if_pos (by simp; omega)]; simp [h]
  · rw [if_neg (by simp; omega)]; simp [h]

end Go.Proofs.YtpmjpijpjmphnaaGreatCf.Ev

/- Plain laws: rows of clauses: whether they can be inputs; joined; all pairs; copied. No condition but sizes. -/
namespace Go.Proofs.YtpmjpijpjmphnaaGreatCf.Ev
open Go
set_option autoImplicit false
set_option linter.unusedVariables false
set_option linter.unusedSimpArgs false

def inC (a : List Int) (o : List (List TLit)) : Bool := decide (o.length ≤ 12) && o.all (clOK a)
/-- Clauses that are not big. -/
def smK (c : List TLit) : Prop := c.length ≤ 16 ∧ ∀ x ∈ c, x.2.1.length ≤ 40 ∧ x.2.2.1.length ≤ 40
theorem smK.sm {c : List TLit} (h : smK c) : ∀ x ∈ c, smL x := fun x hx => ⟨by have := (h.2 x hx).1; omega, by have := (h.2 x hx).2; omega⟩

theorem p_in1 (s : TSign) (hg : gS s.1 = true) (c : List TLit) (hc : c.length ≤ 1048576) : c_impl_Sign_areInputs_1 M c s = some ((!clOK s.1 c, ()), ()) := by
  apply e_impl_Sign_areInputs_1
  simp only [q_impl_Sign_areInputs_1, sign_eta, p_isClause s hg c hc, Option.bind_some]
theorem p_inIdx_loop (s : TSign) (hg : gS s.1 = true) (o : List (List TLit)) (ho : o.length ≤ 1048576) (hx : ∀ c ∈ o, smK c) : ∀ k i : Nat, i + k = o.length → ∃ r, l_slices_IndexFunc_SS_impl_Lit_impl_Lit__impl_Sign_areInputs_1_26 M o (s, ()) o.length i = some r ∧ (match r with | .inl _ => (o.drop i).all (clOK s.1) = true | .inr r => 0 ≤ r.1.1 ∧ (o.drop i).all (clOK s.1) = false) := by
  intro k
  induction k with
  | zero =>
    intro i hi
    obtain rfl : i = o.length := by omega
    refine ⟨.inl (), el_slices_IndexFunc_SS_impl_Lit_impl_Lit__impl_Sign_areInputs_1_26 _ _ _ _ (by simp [ql_slices_IndexFunc_SS_impl_Lit_impl_Lit__impl_Sign_areInputs_1_26]), by simp⟩
  | succ k ih =>
    intro i hi
    have h1 : i < o.length := by omega
    have hc : o[i].length ≤ 1048576 := by have := (hx _ (List.getElem_mem h1)).1; omega
    obtain ⟨r, hr, hm⟩ := ih (i + 1) (by omega)
    rw [List.drop_eq_getElem_cons h1, List.all_cons]
    by_cases hp : clOK s.1 o[i] = true
    · refine ⟨r, el_slices_IndexFunc_SS_impl_Lit_impl_Lit__impl_Sign_areInputs_1_26 _ _ _ _ ?_, by rw [hp, Bool.true_and]; exact hm⟩
      simp only [ql_slices_IndexFunc_SS_impl_Lit_impl_Lit__impl_Sign_areInputs_1_26]
      rw [if_pos (by simpa using h1), idx_lt h1, inc_nat (by omega)]
      simp only [Option.bind_some, p_in1 s hg _ hc, hp, Bool.not_true, Bool.false_eq_true, if_false]
      exact hr
    · rw [Bool.not_eq_true] at hp
      refine ⟨.inr (((i : Int), ()), ()), el_slices_IndexFunc_SS_impl_Lit_impl_Lit__impl_Sign_areInputs_1_26 _ _ _ _ ?_, Int.natCast_nonneg i, by rw [hp, Bool.false_and]⟩
      simp only [ql_slices_IndexFunc_SS_impl_Lit_impl_Lit__impl_Sign_areInputs_1_26]
      rw [if_pos (by simpa using h1), idx_lt h1]
      simp only [Option.bind_some, p_in1 s hg _ hc, hp, Bool.not_false, if_true]
theorem p_inContains (s : TSign) (hg : gS s.1 = true) (o : List (List TLit)) (ho : o.length ≤ 1048576) (hx : ∀ c ∈ o, smK c) : c_slices_ContainsFunc_SS_impl_Lit_impl_Lit__impl_Sign_areInputs_1 M o (s, ()) = some ((!(o.all (clOK s.1)), ()), ()) := by
  apply e_slices_ContainsFunc_SS_impl_Lit_impl_Lit__impl_Sign_areInputs_1
  simp only [q_slices_ContainsFunc_SS_impl_Lit_impl_Lit__impl_Sign_areInputs_1]
  obtain ⟨r, hr, hm⟩ := p_inIdx_loop s hg o ho hx o.length 0 (by omega)
  rw [show ((0 : Nat) : Int) = 0 from rfl] at hr
  rw [List.drop_zero] at hm
  cases r with
  | inl r =>
    rw [e_slices_IndexFunc_SS_impl_Lit_impl_Lit__impl_Sign_areInputs_1 o (s, ()) (r := ((-1, ()), ())) (by simp only [q_slices_IndexFunc_SS_impl_Lit_impl_Lit__impl_Sign_areInputs_1, hr, Option.bind_some, Sum.elim_inl])]
    simp only at hm
    simp [hm]
  | inr r =>
    rw [e_slices_IndexFunc_SS_impl_Lit_impl_Lit__impl_Sign_areInputs_1 o (s, ()) (r := r) (by simp only [q_slices_IndexFunc_SS_impl_Lit_impl_Lit__impl_Sign_areInputs_1, hr, Option.bind_some, Sum.elim_inr])]
    simp only at hm
    simp [hm]
theorem p_areInputs (s : TSign) (hg : gS s.1 = true) (o : List (List TLit)) (ho : o.length ≤ 1048576) (hx : ∀ c ∈ o, smK c) : c_impl_Sign_areInputs M s o = some ((inC s.1 o, ()), ()) := by
  apply e_impl_Sign_areInputs
  simp only [q_impl_Sign_areInputs, sign_eta, p_inContains s hg o ho hx, Option.bind_some, inC]
  by_cases h : o.length ≤ 12
  · rw [if_pos (by simp; omega)]; simp [h]
  · rw [if_neg (by simp; omega)]; simp [h]
theorem p_l8Inputs_loop (s : TSign) (hg : gS s.1 = true) (o : List (List TLit)) (ho : o.length ≤ 1048576) (hx : ∀ c ∈ o, smK c) : ∀ k i : Nat, i + k = o.length → l_spec_l8Inputs_26 M o s o o.length i = some (if (o.drop i).all (clOK s.1) = true then .inl (o, s, ()) else .inr ((false, ()), ())) := by
  intro k
  induction k with
  | zero =>
    intro i hi
    obtain rfl : i = o.length := by omega
    apply el_spec_l8Inputs_26
    simp [ql_spec_l8Inputs_26]
  | succ k ih =>
    intro i hi
    apply el_spec_l8Inputs_26
    have h1 : i < o.length := by omega
    have hk := hx _ (List.getElem_mem h1)
    simp only [ql_spec_l8Inputs_26]
    rw [if_pos (by simpa using h1), idx_lt h1, inc_nat (by omega)]
    simp only [Option.bind_some, sign_eta, p_l4Clause s hg o[i] (by have := hk.1; omega) hk.sm, ih (i + 1) (by omega)]
    rw [List.drop_eq_getElem_cons h1, List.all_cons]
    generalize clOK s.1 o[i] = b
    cases b <;> rfl
theorem p_l8Inputs (s : TSign) (hs : s.1.length ≤ 17592186044416) (hg : gS s.1 = true) (o : List (List TLit)) (ho : o.length ≤ 1048576) (hx : ∀ c ∈ o, smK c) : c_spec_l8Inputs M s o = some ((inC s.1 o, ()), ()) := by
  apply e_spec_l8Inputs
  have := p_l8Inputs_loop s hg o ho hx o.length 0 (by omega)
  rw [show ((0 : Nat) : Int) = 0 from rfl, List.drop_zero] at this
  simp only [q_spec_l8Inputs, sign_eta, this, Option.bind_some, inC]
  cases o.all (clOK s.1) with
  | false => simp
  | true =>
    rw [if_pos rfl]
    simp only [Sum.elim_inl, sign_eta, p_spec_GoodSign s hs, hg, Option.bind_some, if_true]
    simp
    omega

theorem p_concatS (A B : List (List TLit)) (hA : A.length ≤ 100000) (hB : B.length ≤ 100000) : c_slices_Concat_SS_impl_Lit_impl_Lit M [A, B] = some ((A ++ B, ()), ()) := by
  have w1 : IntKind.i64.wrap ((0 : Int) + 1) = 1 := w64 (by omega) (by omega)
  have w2 : IntKind.i64.wrap ((1 : Int) + 1) = 2 := w64 (by omega) (by omega)
  have a2 : l_slices_Concat_SS_impl_Lit_impl_Lit_58 M [A, B] ((A.length : Int) + B.length) [A, B] (([A, B] : List (List (List TLit))).length : Int) 2 = some (.inl ([A, B], (A.length : Int) + B.length, ())) := el_slices_Concat_SS_impl_Lit_impl_Lit_58 _ _ _ _ _ (by simp [ql_slices_Concat_SS_impl_Lit_impl_Lit_58])
  have a1 : l_slices_Concat_SS_impl_Lit_impl_Lit_58 M [A, B] (A.length : Int) [A, B] (([A, B] : List (List (List TLit))).length : Int) 1 = some (.inl ([A, B], (A.length : Int) + B.length, ())) := el_slices_Concat_SS_impl_Lit_impl_Lit_58 _ _ _ _ _ (by
    simp only [ql_slices_Concat_SS_impl_Lit_impl_Lit_58]
    rw [if_pos (by simp), show idx [A, B] 1 = some B from rfl]
    simp only [Option.bind_some]
    rw [w64 (by omega) (by omega), if_neg (by simp; omega), w2]
    exact a2)
  have a0 : l_slices_Concat_SS_impl_Lit_impl_Lit_58 M [A, B] 0 [A, B] (([A, B] : List (List (List TLit))).length : Int) 0 = some (.inl ([A, B], (A.length : Int) + B.length, ())) := el_slices_Concat_SS_impl_Lit_impl_Lit_58 _ _ _ _ _ (by
    simp only [ql_slices_Concat_SS_impl_Lit_impl_Lit_58]
    rw [if_pos (by simp), show idx [A, B] 0 = some A from rfl]
    simp only [Option.bind_some]
    rw [Int.zero_add, w64 (by omega) (by omega), if_neg (by simp), w1]
    exact a1)
  have b2 : l_slices_Concat_SS_impl_Lit_impl_Lit_250 M (A ++ B) [A, B] (([A, B] : List (List (List TLit))).length : Int) 2 = some (.inl (A ++ B, ())) := el_slices_Concat_SS_impl_Lit_impl_Lit_250 _ _ _ _ (by simp [ql_slices_Concat_SS_impl_Lit_impl_Lit_250])
  have b1 : l_slices_Concat_SS_impl_Lit_impl_Lit_250 M A [A, B] (([A, B] : List (List (List TLit))).length : Int) 1 = some (.inl (A ++ B, ())) := el_slices_Concat_SS_impl_Lit_impl_Lit_250 _ _ _ _ (by
    simp only [ql_slices_Concat_SS_impl_Lit_impl_Lit_250]
    rw [if_pos (by simp), show idx [A, B] 1 = some B from rfl]
    simp only [Option.bind_some]
    rw [if_pos (by omega), w2]
    exact b2)
  have b0 : l_slices_Concat_SS_impl_Lit_impl_Lit_250 M [] [A, B] (([A, B] : List (List (List TLit))).length : Int) 0 = some (.inl (A ++ B, ())) := el_slices_Concat_SS_impl_Lit_impl_Lit_250 _ _ _ _ (by
    simp only [ql_slices_Concat_SS_impl_Lit_impl_Lit_250]
    rw [if_pos (by simp), show idx [A, B] 0 = some A from rfl]
    simp only [Option.bind_some]
    rw [if_pos (by simp; omega), w1, List.nil_append]
    exact b1)
  apply e_slices_Concat_SS_impl_Lit_impl_Lit
  simp only [q_slices_Concat_SS_impl_Lit_impl_Lit, a0, Option.bind_some, Sum.elim_inl]
  rw [if_pos (by omega), b0]
  rfl
theorem p_concatL (A B : List TLit) (hA : A.length ≤ 100000) (hB : B.length ≤ 100000) : c_slices_Concat_impl_Lit_impl_Lit M [A, B] = some ((A ++ B, ()), ()) := by
  have w1 : IntKind.i64.wrap ((0 : Int) + 1) = 1 := w64 (by omega) (by omega)
  have w2 : IntKind.i64.wrap ((1 : Int) + 1) = 2 := w64 (by omega) (by omega)
  have a2 : l_slices_Concat_impl_Lit_impl_Lit_58 M [A, B] ((A.length : Int) + B.length) [A, B] (([A, B] : List (List TLit)).length : Int) 2 = some (.inl ([A, B], (A.length : Int) + B.length, ())) := el_slices_Concat_impl_Lit_impl_Lit_58 _ _ _ _ _ (by simp [ql_slices_Concat_impl_Lit_impl_Lit_58])
  have a1 : l_slices_Concat_impl_Lit_impl_Lit_58 M [A, B] (A.length : Int) [A, B] (([A, B] : List (List TLit)).length : Int) 1 = some (.inl ([A, B], (A.length : Int) + B.length, ())) := el_slices_Concat_impl_Lit_impl_Lit_58 _ _ _ _ _ (by
    simp only [ql_slices_Concat_impl_Lit_impl_Lit_58]
    rw [if_pos (by simp), show idx [A, B] 1 = some B from rfl]
    simp only [Option.bind_some]
    rw [w64 (by omega) (by omega), if_neg (by simp; omega), w2]
    exact a2)
  have a0 : l_slices_Concat_impl_Lit_impl_Lit_58 M [A, B] 0 [A, B] (([A, B] : List (List TLit)).length : Int) 0 = some (.inl ([A, B], (A.length : Int) + B.length, ())) := el_slices_Concat_impl_Lit_impl_Lit_58 _ _ _ _ _ (by
    simp only [ql_slices_Concat_impl_Lit_impl_Lit_58]
    rw [if_pos (by simp), show idx [A, B] 0 = some A from rfl]
    simp only [Option.bind_some]
    rw [Int.zero_add, w64 (by omega) (by omega), if_neg (by simp), w1]
    exact a1)
  have b2 : l_slices_Concat_impl_Lit_impl_Lit_250 M (A ++ B) [A, B] (([A, B] : List (List TLit)).length : Int) 2 = some (.inl (A ++ B, ())) := el_slices_Concat_impl_Lit_impl_Lit_250 _ _ _ _ (by simp [ql_slices_Concat_impl_Lit_impl_Lit_250])
  have b1 : l_slices_Concat_impl_Lit_impl_Lit_250 M A [A, B] (([A, B] : List (List TLit)).length : Int) 1 = some (.inl (A ++ B, ())) := el_slices_Concat_impl_Lit_impl_Lit_250 _ _ _ _ (by
    simp only [ql_slices_Concat_impl_Lit_impl_Lit_250]
    rw [if_pos (by simp), show idx [A, B] 1 = some B from rfl]
    simp only [Option.bind_some]
    rw [if_pos (by omega), w2]
    exact b2)
  have b0 : l_slices_Concat_impl_Lit_impl_Lit_250 M [] [A, B] (([A, B] : List (List TLit)).length : Int) 0 = some (.inl (A ++ B, ())) := el_slices_Concat_impl_Lit_impl_Lit_250 _ _ _ _ (by
    simp only [ql_slices_Concat_impl_Lit_impl_Lit_250]
    rw [if_pos (by simp), show idx [A, B] 0 = some A from rfl]
    simp only [Option.bind_some]
    rw [if_pos (by simp; omega), w1, List.nil_append]
    exact b1)
  apply e_slices_Concat_impl_Lit_impl_Lit
  simp only [q_slices_Concat_impl_Lit_impl_Lit, a0, Option.bind_some, Sum.elim_inl]
  rw [if_pos (by omega), b0]
  rfl

theorem p_ownS (x : List Int) (h : x.length ≤ 1048576) : c_spec_l1Own M x = some ((x, ()), ()) := by
  apply e_spec_l1Own
  simp only [q_spec_l1Own]
  rw [if_pos (by simp; omega)]
  rfl
theorem p_l4Own_loop (c : List TLit) (hc : smK c) : ∀ k i : Nat, i + k = c.length → ∀ o : List TLit, o.length = i → l_spec_l4Own_58 M o c c.length i = some (.inl (o ++ c.drop i, ())) := by
  have h16 := hc.1
  intro k
  induction k with
  | zero =>
    intro i hi o ho
    obtain rfl : i = c.length := by omega
    apply el_spec_l4Own_58
    simp [ql_spec_l4Own_58]
  | succ k ih =>
    intro i hi o ho
    have h1 : i < c.length := by omega
    have hx := hc.2 _ (List.getElem_mem h1)
    apply el_spec_l4Own_58
    simp only [ql_spec_l4Own_58]
    rw [if_pos (by simpa using h1), idx_lt h1, inc_nat (by omega)]
    simp only [Option.bind_some, p_ownS c[i].2.1 (by omega), p_ownS c[i].2.2.1 (by omega)]
    rw [if_pos (by simp; omega), ih (i + 1) (by omega) _ (by simp [ho]), List.drop_eq_getElem_cons h1, List.append_assoc]
    rfl
theorem p_l4Own (c : List TLit) (hc : smK c) : c_spec_l4Own M c = some ((c, ()), ()) := by
  apply e_spec_l4Own
  have := p_l4Own_loop c hc c.length 0 (by omega) [] rfl
  rw [show ((0 : Nat) : Int) = 0 from rfl, List.drop_zero, List.nil_append] at this
  simp only [q_spec_l4Own, this, Option.bind_some, Sum.elim_inl]

/-- All pairs of clauses, joined. -/
def prodC (A B : List (List TLit)) : List (List TLit) := A.flatMap fun c => B.map fun d => c ++ d
section
variable (s : TSign) (A B : List (List TLit)) (hA : A.length ≤ 12) (hB : B.length ≤ 12) (cA : ∀ c ∈ A, c.length ≤ 8 ∧ smK c) (cB : ∀ c ∈ B, c.length ≤ 8 ∧ smK c)
include hA hB cA cB
omit hA cA in
theorem p_prod_in (c : List TLit) (hc : c.length ≤ 8) (i : Int) : ∀ k j : Nat, j + k = B.length → ∀ o : List (List TLit), o.length + k ≤ 1000 → l_impl_tree_clauses_128974438 M s o B c A A.length i B.length j = some (.inl (s, o ++ (B.drop j).map (fun d => c ++ d), B, A, (A.length : Int), i, ())) := by
  intro k
  induction k with
  | zero =>
    intro j hj o ho
    obtain rfl : j = B.length := by omega
    apply el_impl_tree_clauses_128974438
    simp only [ql_impl_tree_clauses_128974438, sign_eta]
    rw [if_neg (by simp)]
    simp
  | succ k ih =>
    intro j hj o ho
    have h1 : j < B.length := by omega
    have hd := (cB _ (List.getElem_mem h1)).1
    apply el_impl_tree_clauses_128974438
    simp only [ql_impl_tree_clauses_128974438, sign_eta]
    rw [if_pos (by simpa using h1), if_pos (by omega), Int.toNat_natCast, List.getElem?_eq_getElem h1]
    simp only [Option.bind_some, p_concatL c B[j] (by omega) (by omega)]
    rw [if_pos (by simp; omega), inc_nat (by omega), ih (j + 1) (by omega) _ (by simp; omega), List.drop_eq_getElem_cons h1, List.map_cons, List.append_assoc]
    rfl
theorem p_prod : ∀ k i : Nat, i + k = A.length → ∀ o : List (List TLit), o.length + 12 * k ≤ 900 → l_impl_tree_clauses_503806 M s o B A A.length i = some (.inl (s, o ++ prodC (A.drop i) B, ())) := by
  intro k
  induction k with
  | zero =>
    intro i hi o ho
    obtain rfl : i = A.length := by omega
    apply el_impl_tree_clauses_503806
    simp only [ql_impl_tree_clauses_503806, sign_eta]
    rw [if_neg (by simp)]
    simp [prodC]
  | succ k ih =>
    intro i hi o ho
    have h1 : i < A.length := by omega
    have hc := (cA _ (List.getElem_mem h1)).1
    apply el_impl_tree_clauses_503806
    simp only [ql_impl_tree_clauses_503806, sign_eta]
    rw [if_pos (by simpa using h1), if_pos (by omega), Int.toNat_natCast, List.getElem?_eq_getElem h1]
    have := p_prod_in s A B hB cB A[i] hc i B.length 0 (by omega) o (by omega)
    rw [show ((0 : Nat) : Int) = 0 from rfl, List.drop_zero] at this
    simp only [Option.bind_some, this, Sum.elim_inl, sign_eta]
    rw [inc_nat (by omega), ih (i + 1) (by omega) _ (by simp; omega), List.drop_eq_getElem_cons h1]
    simp only [prodC, List.flatMap_cons, List.append_assoc]
omit hA cA in
theorem p_sprod_in (c : List TLit) (hc : c.length ≤ 8 ∧ smK c) (i : Int) : ∀ k j : Nat, j + k = B.length → ∀ o : List (List TLit), o.length + k ≤ 1000 → l_spec_l15Clauses_2092646 M s B o c A A.length i B.length j = some (.inl (s, B, o ++ (B.drop j).map (fun d => c ++ d), A, (A.length : Int), i, ())) := by
  intro k
  induction k with
  | zero =>
    intro j hj o ho
    obtain rfl : j = B.length := by omega
    apply el_spec_l15Clauses_2092646
    simp only [ql_spec_l15Clauses_2092646, sign_eta]
    rw [if_neg (by simp)]
    simp
  | succ k ih =>
    intro j hj o ho
    have h1 : j < B.length := by omega
    have hd := cB _ (List.getElem_mem h1)
    have hd1 := hd.1
    have hc1 := hc.1
    have hsm : smK (c ++ B[j]) := ⟨by simp; omega, fun x hx => by
      rcases List.mem_append.1 hx with h | h
      · exact hc.2.2 x h
      · exact hd.2.2 x h⟩
    apply el_spec_l15Clauses_2092646
    simp only [ql_spec_l15Clauses_2092646, sign_eta]
    rw [if_pos (by simpa using h1), if_pos (by omega), Int.toNat_natCast, List.getElem?_eq_getElem h1]
    simp only [Option.bind_some, List.nil_append]
    rw [if_pos (by simp; omega), if_pos (by omega), p_l4Own _ hsm]
    simp only [Option.bind_some]
    rw [if_pos (by simp; omega), inc_nat (by omega), ih (j + 1) (by omega) _ (by simp; omega), List.drop_eq_getElem_cons h1, List.map_cons, List.append_assoc]
    rfl
theorem p_sprod : ∀ k i : Nat, i + k = A.length → ∀ o : List (List TLit), o.length + 12 * k ≤ 900 → l_spec_l15Clauses_8174 M s B o A A.length i = some (.inl (s, o ++ prodC (A.drop i) B, ())) := by
  intro k
  induction k with
  | zero =>
    intro i hi o ho
    obtain rfl : i = A.length := by omega
    apply el_spec_l15Clauses_8174
    simp only [ql_spec_l15Clauses_8174, sign_eta]
    rw [if_neg (by simp)]
    simp [prodC]
  | succ k ih =>
    intro i hi o ho
    have h1 : i < A.length := by omega
    have hc := cA _ (List.getElem_mem h1)
    apply el_spec_l15Clauses_8174
    simp only [ql_spec_l15Clauses_8174, sign_eta]
    rw [if_pos (by simpa using h1), if_pos (by omega), Int.toNat_natCast, List.getElem?_eq_getElem h1]
    have := p_sprod_in s A B hB cB A[i] hc i B.length 0 (by omega) o (by omega)
    rw [show ((0 : Nat) : Int) = 0 from rfl, List.drop_zero] at this
    simp only [Option.bind_some, this, Sum.elim_inl, sign_eta]
    rw [inc_nat (by omega), ih (i + 1) (by omega) _ (by simp; omega), List.drop_eq_getElem_cons h1]
    simp only [prodC, List.flatMap_cons, List.append_assoc]
end
end Go.Proofs.YtpmjpijpjmphnaaGreatCf.Ev

/- Plain laws: the clauses of a formula, by both programs. No condition but sizes. -/
namespace Go.Proofs.YtpmjpijpjmphnaaGreatCf.Ev
open Go
set_option autoImplicit false
set_option linter.unusedVariables false
set_option linter.unusedSimpArgs false

def treeL : Tree → List Int
  | .nil => []
  | .mk _ _ l _ _ => l
def treeR : Tree → List Int
  | .nil => []
  | .mk _ _ _ r _ => r
/-- The clauses, and whether they are few and short enough. -/
def clT (a : List Int) : Tree → List (List TLit) × Bool
  | .nil => ([], true)
  | .mk _ _ l r [] => ([[(true, l, r, ())]], true)
  | .mk op _ _ _ [t] => if op = 2 then ([[(false, treeL t, treeR t, ())]], true) else clT a t
  | .mk op _ _ _ (t :: u :: _) =>
    if (clT a t).2 && (clT a u).2 then (if op = 3 then (clT a t).1 ++ (clT a u).1 else prodC (clT a t).1 (clT a u).1, inC a (if op = 3 then (clT a t).1 ++ (clT a u).1 else prodC (clT a t).1 (clT a u).1))
    else ([], false)
theorem clT_leaf (a : List Int) (x : TForm) : clT a (mkT x []) = ([[(true, x.2.2.1, x.2.2.2.1, ())]], true) := rfl
theorem clT_not (a : List Int) (x : TForm) (t : Tree) (h : x.1 = 2) : clT a (mkT x [t]) = ([[(false, treeL t, treeR t, ())]], true) := by simp [clT, h]
theorem clT_all (a : List Int) (x : TForm) (t : Tree) (h : x.1 ≠ 2) : clT a (mkT x [t]) = clT a t := by simp [clT, h]
theorem clT_bin (a : List Int) (x : TForm) (t u : Tree) : clT a (mkT x [t, u]) = if (clT a t).2 && (clT a u).2 then (if x.1 = 3 then (clT a t).1 ++ (clT a u).1 else prodC (clT a t).1 (clT a u).1, inC a (if x.1 = 3 then (clT a t).1 ++ (clT a u).1 else prodC (clT a t).1 (clT a u).1)) else ([], false) := rfl
/-- What is known of clauses that were made. -/
def CK (a : List Int) (r : List (List TLit) × Bool) : Prop := r.1.length ≤ 144 ∧ (∀ c ∈ r.1, smK c) ∧ (r.2 = true → inC a r.1 = true)
theorem inC_8 {a : List Int} {o : List (List TLit)} (h : inC a o = true) : o.length ≤ 12 ∧ ∀ c ∈ o, c.length ≤ 8 := by
  simp only [inC, Bool.and_eq_true, decide_eq_true_eq, List.all_eq_true, clOK] at h
  exact ⟨h.1, fun c hc => (h.2 c hc).1⟩
theorem prodC_len : ∀ (A B : List (List TLit)), (prodC A B).length = A.length * B.length
  | [], B => by simp [prodC]
  | c :: A, B => by
    have := prodC_len A B
    simp only [prodC, List.flatMap_cons, List.length_append, List.length_map, List.length_cons] at this ⊢
    rw [this, Nat.succ_mul]; omega
theorem prodC_smK {A B : List (List TLit)} (hA : ∀ c ∈ A, c.length ≤ 8 ∧ smK c) (hB : ∀ c ∈ B, c.length ≤ 8 ∧ smK c) : ∀ c ∈ prodC A B, smK c := by
  intro c hc
  obtain ⟨p, hp, hq⟩ := List.mem_flatMap.1 hc
  obtain ⟨q, hq2, rfl⟩ := List.mem_map.1 hq
  have h1 := hA p hp
  have h2 := hB q hq2
  have h3 := h1.1
  have h4 := h2.1
  refine ⟨by simp; omega, fun x hx => ?_⟩
  rcases List.mem_append.1 hx with h | h
  · exact h1.2.2 x h
  · exact h2.2.2 x h
theorem isT_len {a : List Int} {t : List Int} (h : isT a t = true) : t.length ≤ 40 := (isT_ge h).1
theorem one_in {a : List Int} {b : Bool} {l r : List Int} (hl : isT a l = true) (hr : isT a r = true) : inC a [[(b, l, r, ())]] = true ∧ smK [(b, l, r, ())] := by
  refine ⟨by simp [inC, clOK, litOK, hl, hr], by simp, fun x hx => ?_⟩
  rw [List.mem_singleton.1 hx]
  exact ⟨isT_len hl, isT_len hr⟩
theorem lastop_leaf {a : List Int} {g : List TForm} {t : Tree} (h : FT a g t) (p : Int) (h1 : lastop p g = 1) : ∃ x : TForm, t = mkT x [] ∧ g = [x] ∧ isT a x.2.2.1 = true ∧ isT a x.2.2.2.1 = true := by
  cases h with
  | @leaf x h h0 => exact ⟨x, rfl, rfl, (leaf_op h h0).2.1, (leaf_op h h0).2.2⟩
  | @un x g t h h1' hg =>
    rw [lastop_app] at h1
    have := (un_op h h1').1
    simp only [lastop] at h1
    omega
  | @bin x g k t u h h2 hg hk =>
    rw [lastop_app] at h1
    have := bin_op h h2
    simp only [lastop] at h1
    omega
theorem p_clauses {a : List Int} (ha : a.length ≤ 1048576) (hg : gS a = true) {h : List TForm} {t : Tree} (hf : FT a h t) : (∀ x ∈ h, x.1 ≠ 6) → (∃ p, psb p h = true) →
    CK a (clT a t) ∧ c_impl_tree_clauses M t (a, ()) = some (((clT a t).1, (clT a t).2, ()), ()) ∧
      ∀ pre post : List TForm, pre.length + h.length ≤ 100 → c_spec_l15Clauses M (a, ()) (pre ++ (h ++ post)) ((pre.length : Int) + h.length - 1) = some (((clT a t).1, (clT a t).2, ()), ()) := by
  induction hf with
  | @leaf x h h0 =>
    intro _ _
    obtain ⟨ho, tl, tr⟩ := leaf_op h h0
    obtain ⟨i1, i2⟩ := one_in (b := true) tl tr
    have h1 := isT_len tl
    have h2 := isT_len tr
    rw [clT_leaf]
    refine ⟨⟨by simp, fun c hc => by rw [List.mem_singleton.1 hc]; exact i2, fun _ => i1⟩, ?_, fun pre post hp => ?_⟩
    · apply e_impl_tree_clauses
      simp only [q_impl_tree_clauses, treeK, ho, Int.reduceBEq, if_true, Option.bind_some, Sum.elim_inl]
      rw [p_areInputs (a, ()) hg _ (by simp) (fun c hc => by rw [List.mem_singleton.1 hc]; exact i2), i1]
      rfl
    · rw [show (pre.length : Int) + (([x] : List TForm).length : Int) - 1 = (pre.length : Int) by simp, List.singleton_append]
      apply e_spec_l15Clauses
      simp only [q_spec_l15Clauses, idx_mid, Option.bind_some, ho, Int.reduceBEq, if_true, p_ownS x.2.2.1 (by omega), p_ownS x.2.2.2.1 (by omega)]
  | @un x g t h h1 hg' ih =>
    intro hx6 hps
    obtain ⟨p, hps⟩ := hps
    rw [psb_app] at hps
    simp only [psb, Bool.and_eq_true, Bool.or_eq_true, Bool.not_eq_true', beq_iff_eq, beq_eq_false_iff_ne, and_true] at hps
    obtain ⟨h256, v0, v5⟩ := un_op h h1
    have hx := hx6 x (by simp)
    by_cases h2 : x.1 = 2
    · obtain ⟨y, rfl, rfl, tl, tr⟩ := lastop_leaf hg' p (by rcases hps.2 with q | q; exact absurd h2 q; exact q)
      obtain ⟨i1, i2⟩ := one_in (b := false) tl tr
      have h3 := isT_len tl
      have h4 := isT_len tr
      rw [clT_not a x _ h2]
      refine ⟨⟨by simp, fun c hc => by rw [List.mem_singleton.1 hc]; exact i2, fun _ => i1⟩, ?_, fun pre post hp => ?_⟩
      · apply e_impl_tree_clauses
        simp only [q_impl_tree_clauses, treeK, h2, Int.reduceBEq, Bool.false_eq_true, if_false, if_true, Option.bind_some, show ∀ z : Tree, idx [z] 0 = some z from fun _ => rfl, Sum.elim_inl]
        rw [p_areInputs (a, ()) hg _ (by simp) (fun c hc => by rw [List.mem_singleton.1 hc]; exact i2), i1]
        rfl
      · apply e_spec_l15Clauses
        simp only [List.length_append, List.length_cons, List.length_nil] at hp ⊢
        rw [show (pre.length : Int) + ((0 + 1 + (0 + 1) : Nat) : Int) - 1 = ((pre ++ [y]).length : Int) by simp; omega, show pre ++ ([y] ++ [x] ++ post) = (pre ++ [y]) ++ x :: post by simp]
        simp only [q_spec_l15Clauses, idx_mid, Option.bind_some, h2, Int.reduceBEq, Bool.false_eq_true, if_false, if_true]
        rw [w64 (by omega) (by simp; omega), show ((pre ++ [y]).length : Int) - 1 = (pre.length : Int) by simp, show pre ++ [y] ++ x :: post = pre ++ y :: (x :: post) by simp, idx_mid]
        simp only [Option.bind_some, p_ownS y.2.2.1 (by omega), p_ownS y.2.2.2.1 (by omega)]
        rfl
    · have h5 : x.1 = 5 := by omega
      obtain ⟨k1, k2, k3⟩ := ih (fun y hy => hx6 y (by simp [hy])) ⟨p, hps.1⟩
      rw [clT_all a x t h2]
      refine ⟨k1, ?_, fun pre post hp => ?_⟩
      · apply e_impl_tree_clauses
        simp only [q_impl_tree_clauses, treeK, h5, Int.reduceBEq, Bool.false_eq_true, if_false, if_true, Option.bind_some, show ∀ z : Tree, idx [z] 0 = some z from fun _ => rfl, k2]
        rfl
      · simp only [List.length_append, List.length_cons, List.length_nil] at hp ⊢
        apply e_spec_l15Clauses
        rw [show (pre.length : Int) + ((g.length + (0 + 1) : Nat) : Int) - 1 = ((pre ++ g).length : Int) by simp; omega, show pre ++ (g ++ [x] ++ post) = (pre ++ g) ++ x :: post by simp]
        simp only [q_spec_l15Clauses, idx_mid, Option.bind_some, h5, Int.reduceBEq, Bool.false_eq_true, if_false, if_true]
        rw [w64 (by omega) (by simp; omega), show ((pre ++ g).length : Int) - 1 = (pre.length : Int) + g.length - 1 by simp, List.append_assoc, k3 pre (x :: post) (by omega)]
        rfl
  | @bin x g k t u h h2 hg' hk ih1 ih2 =>
    intro hx6 hps
    obtain ⟨p, hps⟩ := hps
    rw [psb_app, psb_app, Bool.and_eq_true, Bool.and_eq_true] at hps
    have h34 := bin_op h h2
    obtain ⟨⟨a1, a2, a3⟩, b1, b2⟩ := ih1 (fun y hy => hx6 y (by simp [hy])) ⟨p, hps.1.1⟩
    obtain ⟨⟨c1, c2, c3⟩, d1, d2⟩ := ih2 (fun y hy => hx6 y (by simp [hy])) ⟨_, hps.1.2⟩
    have n1 : (x.1 == 1) = false := by simp; omega
    have n2 : (x.1 == 2) = false := by simp; omega
    have n5 : (x.1 == 5) = false := by simp; omega
    have tail : ∀ pre post : List TForm, pre.length + (g ++ k ++ [x]).length ≤ 100 → c_spec_l14First M (pre ++ (g ++ k ++ [x] ++ post)) ((pre.length : Int) + (g ++ k ++ [x]).length - 1) = some (((pre.length : Int) + g.length - 1, ()), ()) := by
      intro pre post hp
      simp only [List.length_append, List.length_cons, List.length_nil] at hp ⊢
      have := p_l14First hk (pre ++ g) (x :: post) (by simp; omega)
      rw [show pre ++ g ++ (k ++ x :: post) = pre ++ (g ++ k ++ [x] ++ post) by simp, show ((pre ++ g).length : Int) + k.length = (pre.length : Int) + ((g.length + k.length + (0 + 1) : Nat) : Int) - 1 by simp; omega, show ((pre ++ g).length : Int) - 1 = (pre.length : Int) + g.length - 1 by simp] at this
      exact this
    rw [clT_bin]
    have key : ∀ (rr : List (List TLit) × Bool), rr = (if (clT a t).2 && (clT a u).2 then (if x.1 = 3 then (clT a t).1 ++ (clT a u).1 else prodC (clT a t).1 (clT a u).1, inC a (if x.1 = 3 then (clT a t).1 ++ (clT a u).1 else prodC (clT a t).1 (clT a u).1)) else ([], false)) →
        CK a rr ∧ c_impl_tree_clauses M (mkT x [t, u]) (a, ()) = some ((rr.1, rr.2, ()), ()) ∧ ∀ pre post : List TForm, pre.length + (g ++ k ++ [x]).length ≤ 100 → c_spec_l15Clauses M (a, ()) (pre ++ (g ++ k ++ [x] ++ post)) ((pre.length : Int) + (g ++ k ++ [x]).length - 1) = some ((rr.1, rr.2, ()), ()) := by
      intro rr hrr
      have spre : ∀ pre post : List TForm, pre.length + (g ++ k ++ [x]).length ≤ 100 → idx (pre ++ (g ++ k ++ [x] ++ post)) ((pre.length : Int) + (g ++ k ++ [x]).length - 1) = some x ∧
          c_spec_l15Clauses M (a, ()) (pre ++ (g ++ k ++ [x] ++ post)) ((pre.length : Int) + g.length - 1) = some (((clT a t).1, (clT a t).2, ()), ()) ∧
          c_spec_l15Clauses M (a, ()) (pre ++ (g ++ k ++ [x] ++ post)) (IntKind.i64.wrap ((pre.length : Int) + (g ++ k ++ [x]).length - 1 - 1)) = some (((clT a u).1, (clT a u).2, ()), ()) := by
        intro pre post hp
        simp only [List.length_append, List.length_cons, List.length_nil] at hp ⊢
        refine ⟨?_, ?_, ?_⟩
        · rw [show (pre.length : Int) + ((g.length + k.length + (0 + 1) : Nat) : Int) - 1 = ((pre ++ (g ++ k)).length : Int) by simp; omega, show pre ++ (g ++ k ++ [x] ++ post) = (pre ++ (g ++ k)) ++ x :: post by simp, idx_mid]
        · have := b2 pre (k ++ x :: post) (by omega)
          rw [show pre ++ (g ++ (k ++ x :: post)) = pre ++ (g ++ k ++ [x] ++ post) by simp] at this
          exact this
        · have := d2 (pre ++ g) (x :: post) (by simp; omega)
          rw [show pre ++ g ++ (k ++ x :: post) = pre ++ (g ++ k ++ [x] ++ post) by simp] at this
          rw [w64 (by omega) (by omega), show (pre.length : Int) + ((g.length + k.length + (0 + 1) : Nat) : Int) - 1 - 1 = ((pre ++ g).length : Int) + k.length - 1 by simp; omega]
          exact this
      have i0 : ∀ y z : Tree, idx [y, z] 0 = some y := fun _ _ => rfl
      have i1 : ∀ y z : Tree, idx [y, z] 1 = some z := fun _ _ => rfl
      cases hA : (clT a t).2 with
      | false =>
        rw [hA, Bool.false_and, if_neg (by simp)] at hrr
        rw [hA] at b1 spre
        subst hrr
        refine ⟨⟨by simp, by simp, by simp⟩, e_impl_tree_clauses _ _ ?_, fun pre post hp => e_spec_l15Clauses _ _ _ ?_⟩
        · simp only [q_impl_tree_clauses, treeK, n1, n2, n5, Bool.false_eq_true, if_false, i0, i1, b1, d1, Option.bind_some, Bool.not_false, if_true]
          rfl
        · obtain ⟨s1, s2, s3⟩ := spre pre post hp
          simp only [q_spec_l15Clauses, s1, n1, n2, n5, Bool.false_eq_true, if_false, Option.bind_some, tail pre post hp, s2, s3, Bool.not_false, if_true]
      | true =>
        cases hB : (clT a u).2 with
        | false =>
          rw [hA, hB, Bool.true_and, if_neg (by simp)] at hrr
          rw [hA] at b1
          rw [hB] at d1
          rw [hA, hB] at spre
          subst hrr
          refine ⟨⟨by simp, by simp, by simp⟩, e_impl_tree_clauses _ _ ?_, fun pre post hp => e_spec_l15Clauses _ _ _ ?_⟩
          · simp only [q_impl_tree_clauses, treeK, n1, n2, n5, Bool.false_eq_true, if_false, i0, i1, b1, d1, Option.bind_some, Bool.not_false, Bool.not_true, if_true]
            rfl
          · obtain ⟨s1, s2, s3⟩ := spre pre post hp
            simp only [q_spec_l15Clauses, s1, n1, n2, n5, Bool.false_eq_true, if_false, Option.bind_some, tail pre post hp, s2, s3, Bool.not_false, Bool.not_true, if_true]
        | true =>
          have eA := inC_8 (a3 hA)
          have eB := inC_8 (c3 hB)
          have eA1 := eA.1
          have eB1 := eB.1
          have cA : ∀ c ∈ (clT a t).1, c.length ≤ 8 ∧ smK c := fun c hc => ⟨eA.2 c hc, a2 c hc⟩
          have cB : ∀ c ∈ (clT a u).1, c.length ≤ 8 ∧ smK c := fun c hc => ⟨eB.2 c hc, c2 c hc⟩
          rw [hA, hB, Bool.true_and, if_pos rfl] at hrr
          rw [hA] at b1
          rw [hB] at d1
          rw [hA, hB] at spre
          by_cases h3 : x.1 = 3
          · rw [if_pos h3] at hrr
            have n3 : (x.1 == 3) = true := by simp [h3]
            have hsm : ∀ c ∈ (clT a t).1 ++ (clT a u).1, smK c := fun c hc => by
              rcases List.mem_append.1 hc with q | q
              · exact a2 c q
              · exact c2 c q
            subst hrr
            refine ⟨⟨by simp only [List.length_append]; omega, hsm, fun q => q⟩, e_impl_tree_clauses _ _ ?_, fun pre post hp => e_spec_l15Clauses _ _ _ ?_⟩
            · simp only [q_impl_tree_clauses, treeK, n1, n2, n5, n3, Bool.false_eq_true, if_false, i0, i1, b1, d1, Option.bind_some, Bool.not_true, if_true, p_concatS _ _ (show (clT a t).1.length ≤ 100000 by omega) (show (clT a u).1.length ≤ 100000 by omega), Sum.elim_inl]
              rw [p_areInputs (a, ()) hg _ (by simp; omega) hsm]
              rfl
            · obtain ⟨s1, s2, s3⟩ := spre pre post hp
              simp only [q_spec_l15Clauses, s1, n1, n2, n5, n3, Bool.false_eq_true, if_false, Option.bind_some, tail pre post hp, s2, s3, Bool.not_true, if_true]
              rw [if_pos (by omega), if_pos (by omega)]
              simp only [Option.bind_some, Sum.elim_inl]
              rw [p_l8Inputs (a, ()) (by simp only; omega) hg _ (by simp; omega) hsm]
              rfl
          · rw [if_neg h3] at hrr
            have n3 : (x.1 == 3) = false := by simp [h3]
            have hsm := prodC_smK cA cB
            have hlen : (prodC (clT a t).1 (clT a u).1).length ≤ 144 := by
              rw [prodC_len]
              exact Nat.mul_le_mul eA1 eB1
            have p1 := p_prod (a, ()) _ _ eA1 eB1 cA cB (clT a t).1.length 0 (by omega) [] (by simp; omega)
            have p2 := p_sprod (a, ()) _ _ eA1 eB1 cA cB (clT a t).1.length 0 (by omega) [] (by simp; omega)
            rw [show ((0 : Nat) : Int) = 0 from rfl, List.drop_zero, List.nil_append] at p1 p2
            subst hrr
            refine ⟨⟨hlen, hsm, fun q => q⟩, e_impl_tree_clauses _ _ ?_, fun pre post hp => e_spec_l15Clauses _ _ _ ?_⟩
            · simp only [q_impl_tree_clauses, treeK, n1, n2, n5, n3, Bool.false_eq_true, if_false, i0, i1, b1, d1, Option.bind_some, Bool.not_true, if_true, p1, Sum.elim_inl]
              rw [p_areInputs (a, ()) hg _ (by omega) hsm]
              rfl
            · obtain ⟨s1, s2, s3⟩ := spre pre post hp
              simp only [q_spec_l15Clauses, s1, n1, n2, n5, n3, Bool.false_eq_true, if_false, Option.bind_some, tail pre post hp, s2, s3, Bool.not_true, if_true, p2, Sum.elim_inl]
              rw [p_l8Inputs (a, ()) (by simp only; omega) hg _ (by omega) hsm]
              rfl
    exact key _ rfl
end Go.Proofs.YtpmjpijpjmphnaaGreatCf.Ev

/- Plain laws: ClausesOf, by both programs. No condition but sizes. -/
namespace Go.Proofs.YtpmjpijpjmphnaaGreatCf.Ev
open Go
set_option autoImplicit false
set_option linter.unusedVariables false
set_option linter.unusedSimpArgs false

theorem p_copyLit (x : TLit) (h : x.2.1.length ≤ 40 ∧ x.2.2.1.length ≤ 40) : c_impl_copyLit M x = some ((x, ()), ()) := by
  apply e_impl_copyLit
  simp only [q_impl_copyLit]
  rw [if_pos (by omega), if_pos (by omega)]
theorem p_copyC_in (o : List (List TLit)) (l : List (List TLit)) (L i : Int) (c : List TLit) (hc : smK c) : ∀ k j : Nat, j + k = c.length → ∀ d : List TLit, d.length = j → l_impl_copyClauses_59802 M o d l L i c c.length j = some (.inl (o, d ++ c.drop j, l, L, i, ())) := by
  have h16 := hc.1
  intro k
  induction k with
  | zero =>
    intro j hj d hd
    obtain rfl : j = c.length := by omega
    apply el_impl_copyClauses_59802
    simp [ql_impl_copyClauses_59802]
  | succ k ih =>
    intro j hj d hd
    have h1 : j < c.length := by omega
    apply el_impl_copyClauses_59802
    simp only [ql_impl_copyClauses_59802]
    rw [if_pos (by simpa using h1), idx_lt h1, inc_nat (by omega)]
    simp only [Option.bind_some, lit_eta, p_copyLit _ (hc.2 _ (List.getElem_mem h1))]
    rw [if_pos (by simp; omega), ih (j + 1) (by omega) _ (by simp [hd]), List.drop_eq_getElem_cons h1, List.append_assoc]
    rfl
theorem p_copyC_loop (l : List (List TLit)) (hl : l.length ≤ 144) (hx : ∀ c ∈ l, smK c) : ∀ k i : Nat, i + k = l.length → ∀ o : List (List TLit), o.length = i → l_impl_copyClauses_58 M o l l.length i = some (.inl (o ++ l.drop i, ())) := by
  intro k
  induction k with
  | zero =>
    intro i hi o ho
    obtain rfl : i = l.length := by omega
    apply el_impl_copyClauses_58
    simp [ql_impl_copyClauses_58]
  | succ k ih =>
    intro i hi o ho
    have h1 : i < l.length := by omega
    apply el_impl_copyClauses_58
    simp only [ql_impl_copyClauses_58]
    rw [if_pos (by simpa using h1), idx_lt h1]
    have := p_copyC_in o l l.length i l[i] (hx _ (List.getElem_mem h1)) l[i].length 0 (by omega) [] rfl
    rw [show ((0 : Nat) : Int) = 0 from rfl, List.drop_zero, List.nil_append] at this
    simp only [Option.bind_some, this, Sum.elim_inl]
    rw [if_pos (by simp; omega), inc_nat (by omega), ih (i + 1) (by omega) _ (by simp [ho]), List.drop_eq_getElem_cons h1, List.append_assoc]
    rfl
theorem p_copyC (l : List (List TLit)) (hl : l.length ≤ 144) (hx : ∀ c ∈ l, smK c) : c_impl_copyClauses M l = some ((l, ()), ()) := by
  apply e_impl_copyClauses
  have := p_copyC_loop l hl hx l.length 0 (by omega) [] rfl
  rw [show ((0 : Nat) : Int) = 0 from rfl, List.drop_zero, List.nil_append] at this
  simp only [q_impl_copyClauses, this, Option.bind_some, Sum.elim_inl]
theorem p_ownC_loop (l : List (List TLit)) (hl : l.length ≤ 144) (hx : ∀ c ∈ l, smK c) : ∀ k i : Nat, i + k = l.length → ∀ o : List (List TLit), o.length = i → l_spec_ClausesOf_2042 M o l l.length i = some (.inl (o ++ l.drop i, ())) := by
  intro k
  induction k with
  | zero =>
    intro i hi o ho
    obtain rfl : i = l.length := by omega
    apply el_spec_ClausesOf_2042
    simp [ql_spec_ClausesOf_2042]
  | succ k ih =>
    intro i hi o ho
    have h1 : i < l.length := by omega
    apply el_spec_ClausesOf_2042
    simp only [ql_spec_ClausesOf_2042]
    rw [if_pos (by simpa using h1), if_pos (by omega), Int.toNat_natCast, List.getElem?_eq_getElem h1]
    simp only [Option.bind_some, p_l4Own _ (hx _ (List.getElem_mem h1))]
    rw [if_pos (by simp; omega), inc_nat (by omega), ih (i + 1) (by omega) _ (by simp [ho]), List.drop_eq_getElem_cons h1, List.append_assoc]
    rfl
theorem clz_no6 : ∀ (f : List TForm) (all : List Int), clz all f = true → ∀ x ∈ f, x.1 ≠ 6
  | [], _, _, x, hx => by cases hx
  | y :: r, all, h, x, hx => by
    by_cases h6 : y.1 = 6
    · rw [clz6 h6] at h; cases h
    · have hr : ∃ all', clz all' r = true := by
        by_cases h5 : y.1 = 5
        · by_cases hm : y.2.1 ∈ all
          · rw [clz5m h5 hm] at h; cases h
          · rw [clz5n h5 hm] at h; exact ⟨_, h⟩
        · rw [clzo h6 h5] at h; exact ⟨_, h⟩
      obtain ⟨all', hr⟩ := hr
      rcases List.mem_cons.1 hx with rfl | hx
      · exact h6
      · exact clz_no6 r all' hr x hx
theorem FT.nd {a : List Int} {h : List TForm} {t : Tree} (hf : FT a h t) : ∀ x ∈ h, ndOK a x = true := by
  induction hf with
  | leaf h _ => intro y hy; simp at hy; subst hy; exact h
  | un h _ _ ih =>
    intro y hy
    rcases List.mem_append.1 hy with hy | hy
    · exact ih y hy
    · simp at hy; subst hy; exact h
  | bin h _ _ _ ih1 ih2 =>
    intro y hy
    rcases List.mem_append.1 hy with hy | hy
    · rcases List.mem_append.1 hy with hy | hy
      · exact ih1 y hy
      · exact ih2 y hy
    · simp at hy; subst hy; exact h

theorem p_ClausesOfs (s : TSign) (hs : s.1.length ≤ 1048576) (f : List TForm) (hl : f.length ≤ 1048576) (hx : ∀ x ∈ f, smF x) : ∃ r : (List (List TLit) × Bool × Unit) × Unit, c_spec_ClausesOf M s f = some r ∧ c_impl_ClausesOf M s f = some r ∧ r.1.1.length ≤ 144 ∧ ∀ c ∈ r.1.1, smK c := by
  obtain ⟨t, ht, hgt⟩ := p_formula s hs f
  have hspec := p_spec_GoodForm s hs f hl hx
  cases hb : (gS s.1 && fOK s.1 f) with
  | false =>
    rw [hb] at ht hspec
    refine ⟨(([], false, ()), ()), e_spec_ClausesOf _ _ ?_, e_impl_ClausesOf _ _ ?_, by simp, by simp⟩
    · simp only [q_spec_ClausesOf, sign_eta', hspec, Option.bind_some]; rfl
    · simp only [q_impl_ClausesOf, sign_eta', ht, Option.bind_some]; rfl
  | true =>
    rw [hb] at ht hspec
    have hb' := hb
    simp only [Bool.and_eq_true] at hb'
    obtain ⟨hg, hfo⟩ := hb'
    have h15 : f.length ≤ 15 := by simp only [fOK, Bool.and_eq_true, decide_eq_true_eq] at hfo; exact hfo.1
    have hft := gT_FT (hgt hb)
    have hpos := hft.pos
    obtain ⟨q1, q2⟩ := p_psb hfo
    have c1 := p_clz_spec s f (by omega) f.length 0 (by omega) [] (by simp)
    have c2 := p_clz_impl f (by omega) hft.nd f.length 0 (by omega) []
    rw [show ((0 : Nat) : Int) = 0 from rfl, List.drop_zero] at c1 c2
    rw [show seenT [] = (false, false, false, false, false, false, ()) from rfl] at c2
    have hcl : c_impl_isClausal M f = some ((clz [] f && psb 0 f, ()), ()) := by
      apply e_impl_isClausal
      simp only [q_impl_isClausal, c2, Option.bind_some]
      cases clz [] f with
      | false => simp
      | true => rw [if_pos rfl]; simp only [Sum.elim_inl, q2, Option.bind_some, Bool.true_and]
    cases hz : clz [] f with
    | false =>
      rw [hz] at c1 hcl
      rw [if_neg (by simp)] at c1
      refine ⟨(([], false, ()), ()), e_spec_ClausesOf _ _ ?_, e_impl_ClausesOf _ _ ?_, by simp, by simp⟩
      · simp only [q_spec_ClausesOf, sign_eta', hspec, q1, c1, Option.bind_some]
        cases psb 0 f <;> rfl
      · simp only [q_impl_ClausesOf, sign_eta', ht, hcl, Option.bind_some]; rfl
    | true =>
      rw [hz] at c1 hcl
      rw [if_pos rfl] at c1
      cases hp : psb 0 f with
      | false =>
        rw [hp] at q1 hcl
        refine ⟨(([], false, ()), ()), e_spec_ClausesOf _ _ ?_, e_impl_ClausesOf _ _ ?_, by simp, by simp⟩
        · simp only [q_spec_ClausesOf, sign_eta', hspec, q1, Option.bind_some]; rfl
        · simp only [q_impl_ClausesOf, sign_eta', ht, hcl, Option.bind_some]; rfl
      | true =>
        rw [hp] at q1 hcl
        obtain ⟨⟨k1, k2, k3⟩, e1, e2⟩ := p_clauses (a := s.1) (by omega) hg hft (clz_no6 f [] hz) ⟨0, hp⟩
        have e3 := e2 [] [] (by simp; omega)
        simp only [List.nil_append, List.append_nil, List.length_nil, Int.natCast_zero, Int.zero_add, sign_eta'] at e1 e3
        have ow := p_ownC_loop (clT s.1 t).1 k1 k2 (clT s.1 t).1.length 0 (by omega) [] rfl
        rw [show ((0 : Nat) : Int) = 0 from rfl, List.drop_zero, List.nil_append] at ow
        refine ⟨if (clT s.1 t).2 = true then (((clT s.1 t).1, true, ()), ()) else (([], false, ()), ()), e_spec_ClausesOf _ _ ?_, e_impl_ClausesOf _ _ ?_, ?_, ?_⟩
        · simp only [q_spec_ClausesOf, sign_eta', hspec, q1, c1, Option.bind_some, Sum.elim_inl]
          rw [if_neg (by simp), if_neg (by simp), w64 (by omega) (by omega), e3]
          simp only [Option.bind_some]
          cases (clT s.1 t).2 with
          | false => rfl
          | true => rw [if_neg (by simp), ow]; rfl
        · simp only [q_impl_ClausesOf, sign_eta', ht, hcl, Option.bind_some]
          rw [if_neg (by simp), if_neg (by simp), e1]
          simp only [Option.bind_some]
          cases (clT s.1 t).2 with
          | false => rfl
          | true => rw [if_neg (by simp), p_copyC _ k1 k2]; rfl
        · split
          · exact k1
          · simp
        · split
          · exact k2
          · simp
end Go.Proofs.YtpmjpijpjmphnaaGreatCf.Ev

/- Plain laws: marks in literals. No condition but sizes. -/
namespace Go.Proofs.YtpmjpijpjmphnaaGreatCf.Ev
open Go
set_option autoImplicit false
set_option linter.unusedVariables false
set_option linter.unusedSimpArgs false

/-- How many marks literals take. -/
def totL : List TLit → Nat
  | [] => 0
  | x :: r => 1 + x.2.1.length + x.2.2.1.length + totL r
/-- Literals with marks. -/
def mkL (k : Int) : List TLit → List TLit
  | [] => []
  | x :: r => (((Int.tmod k 3) == 0), mkS (k + 1) x.2.1.length, mkS (k + 1 + x.2.1.length) x.2.2.1.length, ()) :: mkL (k + 1 + x.2.1.length + x.2.2.1.length) r
theorem mkL_len : ∀ (r : List TLit) (k : Int), (mkL k r).length = r.length
  | [], _ => rfl
  | x :: r, k => by simp [mkL, mkL_len r]
theorem totL_le : ∀ (r : List TLit), (∀ x ∈ r, smL x) → totL r ≤ 2097153 * r.length
  | [], _ => by simp [totL]
  | x :: r, h => by
    have h1 := h x (by simp)
    have h2 := totL_le r (fun y hy => h y (by simp [hy]))
    have h3 := h1.1
    have h4 := h1.2
    simp only [totL, List.length_cons]
    omega

theorem p_markLitS_loop : ∀ (R P : List TLit) (k : Int), 0 ≤ k → k + totL R ≤ 4611686018427387904 → P.length + R.length ≤ 4611686018427387904 → l_laws_markLitS_26 M (P ++ R) k P.length = some (.inl (P ++ mkL k R, k + totL R, ())) := by
  intro R
  induction R with
  | nil =>
    intro P k _ _ _
    apply el_laws_markLitS_26
    simp [ql_laws_markLitS_26, mkL, totL]
  | cons x R ih =>
    intro P k h0 hk hp
    simp only [List.length_cons, totL] at hk hp
    apply el_laws_markLitS_26
    simp only [ql_laws_markLitS_26]
    rw [if_pos (by simp; omega), if_neg (by omega), if_pos (by simp; omega), Int.toNat_natCast, get_mid, inc_nat (by omega), w64 (x := k + 1) (by omega) (by omega)]
    simp only [Option.bind_some]
    rw [set_mid, if_pos (by simp; omega), get_mid]
    simp only [Option.bind_some]
    rw [p_markIntS x.2.1 (k + 1) (by omega) (by omega)]
    simp only [Option.bind_some]
    rw [set_mid, if_pos (by simp; omega), get_mid]
    simp only [Option.bind_some]
    rw [p_markIntS x.2.2.1 (k + 1 + x.2.1.length) (by omega) (by omega)]
    simp only [Option.bind_some]
    rw [set_mid]
    have := ih (P ++ [(((Int.tmod k 3) == 0), mkS (k + 1) x.2.1.length, mkS (k + 1 + x.2.1.length) x.2.2.1.length, ())]) (k + 1 + x.2.1.length + x.2.2.1.length) (by omega) (by omega) (by simp; omega)
    rw [List.append_assoc, List.length_append] at this
    simp only [List.cons_append, List.nil_append, List.length_cons, List.length_nil, Nat.zero_add] at this
    rw [this]
    simp only [mkL, totL, List.append_assoc, List.cons_append, List.nil_append]
    rw [show k + 1 + (x.2.1.length : Int) + (x.2.2.1.length : Int) + (totL R : Int) = k + ((1 + x.2.1.length + x.2.2.1.length + totL R : Nat) : Int) by omega]
theorem p_markLitS (a : List TLit) (k : Int) (h0 : 0 ≤ k) (hk : k + totL a ≤ 4611686018427387904) (hl : a.length ≤ 4611686018427387904) : c_laws_markLitS M a k = some ((k + totL a, ()), (mkL k a, ())) := by
  apply e_laws_markLitS
  have := p_markLitS_loop a [] k h0 hk (by simp; omega)
  simp only [List.nil_append, List.length_nil] at this
  rw [show ((0 : Nat) : Int) = 0 from rfl] at this
  simp only [q_laws_markLitS, this, Option.bind_some, Sum.elim_inl]
theorem p_heldLitS_loop : ∀ (R P : List TLit) (k : Int), 0 ≤ k → k + totL R ≤ 4611686018427387904 → P.length + R.length ≤ 4611686018427387904 → l_laws_heldLitS_26 M (P ++ mkL k R) k P.length = some (.inl (k + totL R, ())) := by
  intro R
  induction R with
  | nil =>
    intro P k _ _ _
    apply el_laws_heldLitS_26
    simp [ql_laws_heldLitS_26, mkL, totL]
  | cons x R ih =>
    intro P k h0 hk hp
    simp only [List.length_cons, totL] at hk hp
    rw [show mkL k (x :: R) = (((Int.tmod k 3) == 0), mkS (k + 1) x.2.1.length, mkS (k + 1 + x.2.1.length) x.2.2.1.length, ()) :: mkL (k + 1 + x.2.1.length + x.2.2.1.length) R from rfl]
    apply el_laws_heldLitS_26
    simp only [ql_laws_heldLitS_26]
    rw [if_pos (by simp [mkL_len]; omega), idx_midQ, inc_nat (by omega), w64 (x := k + 1) (by omega) (by omega)]
    simp only [Option.bind_some]
    rw [if_neg (by omega), if_neg (by simp), p_heldIntS (k + 1) x.2.1.length (by omega) (by omega)]
    simp only [Option.bind_some]
    rw [if_neg (by simp; omega), p_heldIntS (k + 1 + x.2.1.length) x.2.2.1.length (by omega) (by omega)]
    simp only [Option.bind_some]
    rw [if_neg (by simp; omega)]
    have := ih (P ++ [(((Int.tmod k 3) == 0), mkS (k + 1) x.2.1.length, mkS (k + 1 + x.2.1.length) x.2.2.1.length, ())]) (k + 1 + x.2.1.length + x.2.2.1.length) (by omega) (by omega) (by simp; omega)
    rw [List.append_assoc, List.length_append] at this
    simp only [List.cons_append, List.nil_append, List.length_cons, List.length_nil, Nat.zero_add] at this
    rw [this]
    simp only [totL]
    rw [show k + 1 + (x.2.1.length : Int) + (x.2.2.1.length : Int) + (totL R : Int) = k + ((1 + x.2.1.length + x.2.2.1.length + totL R : Nat) : Int) by omega]
theorem p_heldLitS (a : List TLit) (k : Int) (h0 : 0 ≤ k) (hk : k + totL a ≤ 4611686018427387904) (hl : a.length ≤ 4611686018427387904) : c_laws_heldLitS M (mkL k a) k = some ((k + totL a, ()), ()) := by
  apply e_laws_heldLitS
  have := p_heldLitS_loop a [] k h0 hk (by simp; omega)
  simp only [List.nil_append, List.length_nil] at this
  rw [show ((0 : Nat) : Int) = 0 from rfl] at this
  simp only [q_laws_heldLitS, this, Option.bind_some, Sum.elim_inl]

end Go.Proofs.YtpmjpijpjmphnaaGreatCf.Ev

/- Plain laws: the laws' own copying, comparing and counting functions answer as they should, at lists that memory can hold. -/
namespace Go.Proofs.YtpmjpijpjmphnaaGreatCf.Ev
open Go
set_option autoImplicit false
set_option linter.unusedVariables false
set_option linter.unusedSimpArgs false

theorem p_toIntS_loop (a : List Int) (ha : a.length ≤ 17592186044416) : ∀ k i : Nat, i + k = a.length → ∀ o : List Int, o.length = a.length → l_laws_toIntS_58 M a o i = some (.inl (o.take i ++ a.drop i, ())) := by
  intro k
  induction k with
  | zero =>
    intro i hi o ho
    obtain rfl : i = a.length := by omega
    apply el_laws_toIntS_58
    simp only [ql_laws_toIntS_58, Int.lt_irrefl, decide_false, Bool.false_eq_true, if_false, List.drop_length, List.append_nil]
    rw [← ho, List.take_length]
  | succ k ih =>
    intro i hi o ho
    apply el_laws_toIntS_58
    have h1 : i < a.length := by omega
    have h2 : i < o.length := by omega
    simp only [ql_laws_toIntS_58]
    rw [if_pos (by simpa using h1), idx_lt h1, inc_nat (by omega)]
    simp only [Option.bind_some]
    rw [if_pos (by omega)]
    simp only [Option.bind_some, Int.toNat_natCast, List.getElem?_eq_getElem h2]
    rw [ih (i + 1) (by omega) _ (by simpa using ho)]
    rw [List.take_set, List.take_succ_eq_append_getElem h2, List.set_append_right _ _ (by simp; omega), List.drop_eq_getElem_cons h1]
    simp [Nat.min_eq_left (Nat.le_of_lt h2)]

theorem p_toIntS (a : List Int) (ha : a.length ≤ 17592186044416) : c_laws_toIntS M a = some ((a, ()), ()) := by
  apply e_laws_toIntS
  simp only [q_laws_toIntS]
  rw [if_pos (by refine ⟨by omega, by omega, trivial⟩)]
  have := p_toIntS_loop a ha a.length 0 (by omega) (List.replicate a.length 0) (by simp)
  simp only [Int.toNat_natCast]
  rw [show ((0 : Nat) : Int) = 0 from rfl] at this
  rw [this]
  simp

theorem p_eqIntS_loop (a : List Int) (ha : a.length ≤ 17592186044416) : ∀ k i : Nat, i + k = a.length → l_laws_eqIntS_58 M a a i = some (.inl ()) := by
  intro k
  induction k with
  | zero =>
    intro i hi
    obtain rfl : i = a.length := by omega
    apply el_laws_eqIntS_58
    simp only [ql_laws_eqIntS_58, Int.lt_irrefl, decide_false, Bool.false_eq_true, if_false]
  | succ k ih =>
    intro i hi
    apply el_laws_eqIntS_58
    have h1 : i < a.length := by omega
    simp only [ql_laws_eqIntS_58]
    rw [if_pos (by simpa using h1), idx_lt h1, inc_nat (by omega)]
    simp only [Option.bind_some, bne_self_eq_false, Bool.false_eq_true, if_false]
    exact ih (i + 1) (by omega)
theorem p_eqIntS (a : List Int) (ha : a.length ≤ 17592186044416) : c_laws_eqIntS M a a = some ((true, ()), ()) := by
  apply e_laws_eqIntS
  simp only [q_laws_eqIntS, bne_self_eq_false, Bool.false_eq_true, if_false]
  have := p_eqIntS_loop a ha a.length 0 (by omega)
  rw [show ((0 : Nat) : Int) = 0 from rfl] at this
  rw [this]
  rfl

theorem p_szIntS (a : List Int) (n : Int) (hn : 0 ≤ n) (hn' : n ≤ 1048576) (ha : a.length ≤ 9223372036854775807) : c_laws_szIntS M a n = some ((if n - a.length < 0 then -1 else n - a.length, ()), ()) := by
  apply e_laws_szIntS
  simp only [q_laws_szIntS, decide_eq_true_eq]
  rw [w64 (by omega) (by omega)]
  split <;> rfl

theorem p_szSign (s : TSign) (n : Int) (hn : 0 ≤ n) (hn' : n ≤ 1048576) (ha : s.1.length ≤ 9223372036854775807) : ∃ r : Int, c_laws_szSign M s n = some ((r, ()), ()) ∧ r ≤ n ∧ (0 ≤ r → s.1.length ≤ 1048576) := by
  refine ⟨if n - s.1.length < 0 then -1 else n - s.1.length, ?_, by split <;> omega, by split <;> omega⟩
  apply e_laws_szSign
  simp only [q_laws_szSign, p_szIntS s.1 n hn hn' ha, Option.bind_some, decide_eq_true_eq]
  by_cases h : n - (s.1.length : Int) < 0
  · simp [h]
  · simp [h]

theorem p_toSign (s : TSign) (ha : s.1.length ≤ 17592186044416) : c_laws_toSign M s = some ((s, ()), ()) := by
  apply e_laws_toSign
  simp only [q_laws_toSign, p_toIntS s.1 ha, Option.bind_some]
theorem p_eqSign (s : TSign) (ha : s.1.length ≤ 17592186044416) : c_laws_eqSign M s s = some ((true, ()), ()) := by
  apply e_laws_eqSign
  simp only [q_laws_eqSign, p_eqIntS s.1 ha, Option.bind_some, Bool.not_true, Bool.false_eq_true, if_false]

end Go.Proofs.YtpmjpijpjmphnaaGreatCf.Ev

/- Plain laws: literals, compared. No condition but sizes. -/
namespace Go.Proofs.YtpmjpijpjmphnaaGreatCf.Ev
open Go
set_option autoImplicit false
set_option linter.unusedVariables false
set_option linter.unusedSimpArgs false

theorem p_eqLit (x : TLit) (h : smL x) : c_laws_eqLit M x x = some ((true, ()), ()) := by
  apply e_laws_eqLit
  simp only [q_laws_eqLit, p_eqIntS x.2.1 (by have := h.1; omega), p_eqIntS x.2.2.1 (by have := h.2; omega), Option.bind_some]
  simp

theorem p_eqLitS_loop (a : List TLit) (ha : a.length ≤ 1048576) (hx : ∀ x ∈ a, smL x) : ∀ k i : Nat, i + k = a.length → l_laws_eqLitS_58 M a a i = some (.inl ()) := by
  intro k
  induction k with
  | zero =>
    intro i hi
    obtain rfl : i = a.length := by omega
    apply el_laws_eqLitS_58
    simp only [ql_laws_eqLitS_58, Int.lt_irrefl, decide_false, Bool.false_eq_true, if_false]
  | succ k ih =>
    intro i hi
    apply el_laws_eqLitS_58
    have h1 : i < a.length := by omega
    simp only [ql_laws_eqLitS_58]
    rw [if_pos (by simpa using h1), idx_lt h1, inc_nat (by omega)]
    simp only [Option.bind_some, lit_eta, p_eqLit a[i] (hx _ (List.getElem_mem h1)), Bool.not_true, Bool.false_eq_true, if_false]
    exact ih (i + 1) (by omega)

theorem p_eqLitS (a : List TLit) (ha : a.length ≤ 1048576) (hx : ∀ x ∈ a, smL x) : c_laws_eqLitS M a a = some ((true, ()), ()) := by
  apply e_laws_eqLitS
  simp only [q_laws_eqLitS, bne_self_eq_false, Bool.false_eq_true, if_false]
  have := p_eqLitS_loop a ha hx a.length 0 (by omega)
  rw [show ((0 : Nat) : Int) = 0 from rfl] at this
  rw [this]
  rfl

end Go.Proofs.YtpmjpijpjmphnaaGreatCf.Ev
