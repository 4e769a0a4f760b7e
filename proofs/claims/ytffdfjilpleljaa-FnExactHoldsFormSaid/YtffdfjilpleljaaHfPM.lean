/- Plain laws: the values of terms and the truth of formulas in a world: both programs tell the same. No condition but sizes. -/
import Derived.Test.YtffdfjilpleljaaHfPL
import Derived.Test.YtffdfjilpleljaaHfPO
import Derived.Test.YtffdfjilpleljaaHfPCa
namespace Go.Proofs.YtffdfjilpleljaaHf.Ev
open Go
set_option autoImplicit false
set_option linter.unusedVariables false
set_option linter.unusedSimpArgs false

/-- An assignment. -/
def envOK (s : Int) (e : List Int) : Bool := decide (e.length = 12) && elOK s e
theorem envOK_get {s : Int} {e : List Int} (h : envOK s e = true) (i : Nat) (hi : i < 12) : ∃ v, e[i]? = some v ∧ 0 ≤ v ∧ v < s := by
  simp only [envOK, elOK, Bool.and_eq_true, decide_eq_true_eq, List.all_eq_true] at h
  have h1 : i < e.length := by omega
  exact ⟨e[i], List.getElem?_eq_getElem h1, h.2 _ (List.getElem_mem h1)⟩
theorem envOK_set {s : Int} {e : List Int} (h : envOK s e = true) (i : Nat) (v : Int) (h0 : 0 ≤ v) (h1 : v < s) : envOK s (e.set i v) = true := by
  simp only [envOK, elOK, Bool.and_eq_true, decide_eq_true_eq, List.all_eq_true, List.length_set] at h ⊢
  refine ⟨h.1, fun x hx => ?_⟩
  rcases List.mem_or_eq_of_mem_set hx with h2 | h2
  · exact h.2 x h2
  · subst h2; exact ⟨h0, h1⟩

/-- The value of a term: the same from both programs, wherever it stands. -/
def EV (a : List Int) (w : TWorld) (env u : List Int) (v : Int) : Prop := 0 ≤ v ∧ v < w.1 ∧
  (∀ (T x : List Int) (i : Nat), T.length ≤ 1000 → T.drop i = u ++ x → c_impl_Sign_eval M (a, ()) w T i env = some ((v, ((i + u.length : Nat) : Int), ()), ())) ∧
  (∀ (T x : List Int) (i : Nat), T.length ≤ 1000 → T.drop i = u ++ x → c_spec_l5Eval M (a, ()) w T i env = some ((v, ()), ()))
open Classical in
noncomputable def vb (a : List Int) (w : TWorld) (env u : List Int) : Int := if h : ∃ b, EV a w env u b then h.choose else 0
theorem vb_ok {a : List Int} {w : TWorld} {env u : List Int} (h : ∃ b, EV a w env u b) : EV a w env u (vb a w env u) := by
  unfold vb; rw [dif_pos h]; exact h.choose_spec

theorem acc_step {s acc v P : Int} (h1 : 1 ≤ s) (h3 : s ≤ 3) (h0 : 0 ≤ acc) (hP : acc < P) (hP' : P ≤ 1000) (v0 : 0 ≤ v) (v1 : v < s) : 0 ≤ acc * s + v ∧ acc * s + v < s * P ∧ 0 ≤ acc * s ∧ acc * s ≤ 3000 := by
  have a1 : 0 ≤ acc * s := Int.mul_nonneg h0 (by omega)
  have a2 : acc * s ≤ (P - 1) * s := Int.mul_le_mul_of_nonneg_right (by omega) (by omega)
  have a3 : (P - 1) * s = s * P - s := by rw [Int.sub_mul, Int.one_mul, Int.mul_comm]
  have a4 : acc * s ≤ acc * 3 := Int.mul_le_mul_of_nonneg_left h3 h0
  exact ⟨by omega, by omega, a1, by omega⟩

/-- The row's place in a table. -/
noncomputable def fa (a : List Int) (w : TWorld) (env : List Int) : Int → List (List Int) → Int
  | acc, [] => acc
  | acc, u :: us => fa a w env (acc * w.1 + vb a w env u) us
theorem fa_bd {a : List Int} {w : TWorld} {env : List Int} (h1 : 1 ≤ w.1) (h3 : w.1 ≤ 3) : ∀ (us : List (List Int)) (acc : Int) (j : Nat), (∀ u ∈ us, EV a w env u (vb a w env u)) → j + us.length ≤ 3 → 0 ≤ acc → acc < pw w.1 j → 0 ≤ fa a w env acc us ∧ fa a w env acc us < pw w.1 (j + us.length)
  | [], acc, j, _, _, h0, hp => ⟨h0, hp⟩
  | u :: us, acc, j, hu, hj, h0, hp => by
    simp only [List.length_cons] at hj
    have hv := hu u (by simp)
    have hs := acc_step h1 h3 h0 hp (by have := pw_le h1 h3 (k := j) (by omega); omega) hv.1 hv.2.1
    have := fa_bd h1 h3 us (acc * w.1 + vb a w env u) (j + 1) (fun v hv => hu v (by simp [hv])) (by omega) hs.1 hs.2.1
    simp only [fa, List.length_cons]
    rw [show j + (us.length + 1) = j + 1 + us.length by omega]
    exact this

theorem p_eval_loop {a : List Int} {w : TWorld} (h1 : 1 ≤ w.1) (h3 : w.1 ≤ 3) (env T : List Int) (hT : T.length ≤ 1000) (n : Int) (cnt : Nat) (hc : cnt ≤ 3) : ∀ (us : List (List Int)) (i p : Nat) (x : List Int) (acc : Int), (∀ u ∈ us, EV a w env u (vb a w env u)) → i + us.length = cnt → T.drop p = us.flatten ++ x → 0 ≤ acc → acc < pw w.1 i →
    l_impl_Sign_eval_250 M T env (a, ()) w n acc p cnt i = some (.inl (w, n, fa a w env acc us, ((p + us.flatten.length : Nat) : Int), ())) := by
  intro us
  induction us with
  | nil =>
    intro i p x acc _ hi _ _ _
    apply el_impl_Sign_eval_250
    simp at hi
    subst hi
    simp [ql_impl_Sign_eval_250, fa]
  | cons u us ih =>
    intro i p x acc hu hi hd h0 hp
    simp only [List.length_cons] at hi
    simp only [List.flatten_cons, List.append_assoc, List.length_append] at hd ⊢
    have hv := hu u (by simp)
    have hs := acc_step h1 h3 h0 hp (by have := pw_le h1 h3 (k := i) (by omega); omega) hv.1 hv.2.1
    have hl := drop_len hd
    apply el_impl_Sign_eval_250
    simp only [ql_impl_Sign_eval_250]
    rw [if_pos (by simp <;> omega), world_eta, hv.2.2.1 T (us.flatten ++ x) p hT hd]
    simp only [Option.bind_some]
    rw [w64 (x := acc * w.1) (by omega) (by omega), w64 (by have := hv.1; omega) (by have := hv.2.1; omega), inc_nat (by omega), ih (i + 1) (p + u.length) x _ (fun v hv => hu v (by simp [hv])) (by omega) (drop_split hd) hs.1 hs.2.1]
    simp [fa, Nat.add_assoc]

theorem p_l5Eval_loop {a : List Int} {w : TWorld} (h1 : 1 ≤ w.1) (h3 : w.1 ≤ 3) (env T : List Int) (hT : T.length ≤ 1000) (at0 : Int) (P : List Int) (hP : P.length ≤ 3) : ∀ (us : List (List Int)) (i p : Nat) (x : List Int) (acc : Int), (∀ u ∈ us, EV a w env u (vb a w env u)) → i + us.length = P.length → P.drop i = posOf p us → T.drop p = us.flatten ++ x → 0 ≤ acc → acc < pw w.1 i →
    l_spec_l5Eval_122 M T at0 env (a, ()) w acc P P.length i = some (.inl (T, at0, w, fa a w env acc us, ())) := by
  intro us
  induction us with
  | nil =>
    intro i p x acc _ hi _ _ _ _
    apply el_spec_l5Eval_122
    simp at hi
    subst hi
    simp [ql_spec_l5Eval_122, fa]
  | cons u us ih =>
    intro i p x acc hu hi hd hd2 h0 hp
    simp only [List.length_cons] at hi
    simp only [List.flatten_cons, List.append_assoc, List.length_append] at hd2
    have hv := hu u (by simp)
    have hs := acc_step h1 h3 h0 hp (by have := pw_le h1 h3 (k := i) (by omega); omega) hv.1 hv.2.1
    have hi' : i < P.length := by omega
    have hdc := List.drop_eq_getElem_cons hi'
    rw [hd, posOf] at hdc
    obtain ⟨hpp, hdc⟩ := List.cons.inj hdc
    apply el_spec_l5Eval_122
    simp only [ql_spec_l5Eval_122]
    rw [if_pos (by simpa using hi'), if_pos (by omega), Int.toNat_natCast, List.getElem?_eq_getElem hi', ← hpp]
    simp only [Option.bind_some]
    rw [world_eta, hv.2.2.2 T (us.flatten ++ x) p hT hd2]
    simp only [Option.bind_some]
    rw [w64 (x := acc * w.1) (by omega) (by omega), w64 (by have := hv.1; omega) (by have := hv.2.1; omega), inc_nat (by omega), ih (i + 1) (p + u.length) x _ (fun v hv => hu v (by simp [hv])) (by omega) hdc.symm (drop_split hd2) hs.1 hs.2.1]
    simp [fa]

theorem wOK_parts {a : List Int} {w : TWorld} (h : wOK a w = true) : 1 ≤ w.1 ∧ w.1 ≤ 3 ∧ w.2.1.length = a.length ∧ tabOK w.1 a w.2.1 = true := by
  simpa only [wOK, Bool.and_eq_true, decide_eq_true_eq] using h

theorem EV_all {a : List Int} (hg : gS a = true) {w : TWorld} (hw : wOK a w = true) {env : List Int} (he : envOK w.1 env = true) : ∀ (N : Nat) (u : List Int), u.length ≤ N → N ≤ 1000 → Tm a u → ∃ b, EV a w env u b := by
  obtain ⟨h1, h3, hwl, hwt⟩ := wOK_parts hw
  intro N
  induction N with
  | zero => intro u hu _ h; have := h.pos; omega
  | succ N ih =>
    intro u hu hN h
    obtain ⟨n, us, rfl, hb, hl, hk⟩ := h.parts hg
    have hn := ar_ge hg n
    have hb' := hb
    unfold badN at hb'
    simp only [List.length_cons] at hu
    have kid : ∀ v ∈ us, EV a w env v (vb a w env v) := fun v hv => vb_ok (ih v (by
      have : v.length ≤ us.flatten.length := (List.sublist_flatten_of_mem hv).length_le
      omega) (by omega) (hk v hv))
    by_cases h0 : n < 0
    · have h4 : ar a n = 0 := by simp [ar, h0]
      obtain rfl : us = [] := List.eq_nil_of_length_eq_zero (by omega)
      obtain ⟨v, v1, v2, v3⟩ := envOK_get he (-1 - n).toNat (by omega)
      have e1 : IntKind.i64.wrap (-1 - n) = -1 - n := w64 (by omega) (by omega)
      have e2 : idx env (-1 - n) = some v := by
        unfold idx; rw [if_pos (by omega), v1]
      simp only [List.flatten_nil]
      refine ⟨v, v2, v3, ?_, ?_⟩
      · intro T x i hT hd
        have hi : i < T.length := by have := drop_len hd; simp at this; omega
        have hx : T[i] = n := by
          have := List.drop_eq_getElem_cons hi
          rw [hd] at this
          exact (List.cons.inj this).1.symm
        apply e_impl_Sign_eval
        simp only [q_impl_Sign_eval]
        rw [idx_lt hi, hx]
        simp only [Option.bind_some]
        rw [if_pos (by simpa using h0), e1, e2, inc_nat (by omega)]
        simp
      · intro T x i hT hd
        have hi : i < T.length := by have := drop_len hd; simp at this; omega
        have hx : T[i] = n := by
          have := List.drop_eq_getElem_cons hi
          rw [hd] at this
          exact (List.cons.inj this).1.symm
        apply e_spec_l5Eval
        simp only [q_spec_l5Eval]
        rw [idx_lt hi, hx]
        simp only [Option.bind_some]
        rw [if_pos (by simpa using h0), e1, e2]
        simp
    · have hfa := fa_bd (a := a) (env := env) h1 h3 us 0 0 kid (by omega) (by omega) (by simp [pw])
      rw [Nat.zero_add] at hfa
      have hna : n.toNat < a.length := by omega
      have hnt : n.toNat < w.2.1.length := by omega
      have htab := tabOK_get n.toNat hna hnt hwt
      have har : ar a n = a[n.toNat] := by unfold ar; rw [if_neg h0, List.getElem?_eq_getElem hna]; rfl
      rw [← har, ← hl, Int.toNat_natCast] at htab
      have hin : (fa a w env 0 us).toNat < (w.2.1[n.toNat]).length := by omega
      have hel : 0 ≤ (w.2.1[n.toNat])[(fa a w env 0 us).toNat] ∧ (w.2.1[n.toNat])[(fa a w env 0 us).toNat] < w.1 := by
        have h5 := htab.2
        simp only [elOK, List.all_eq_true, Bool.and_eq_true, decide_eq_true_eq] at h5
        exact h5 _ (List.getElem_mem hin)
      have i1 : idx w.2.1 n = some w.2.1[n.toNat] := by unfold idx; rw [if_pos (by omega), List.getElem?_eq_getElem hnt]
      have i2 : idx w.2.1[n.toNat] (fa a w env 0 us) = some (w.2.1[n.toNat])[(fa a w env 0 us).toNat] := by unfold idx; rw [if_pos (by omega), List.getElem?_eq_getElem hin]
      refine ⟨(w.2.1[n.toNat])[(fa a w env 0 us).toNat], hel.1, hel.2, ?_, ?_⟩
      · intro T x i hT hd
        have hi : i < T.length := by have := drop_len hd; simp at this; omega
        have hdc := List.drop_eq_getElem_cons hi
        rw [hd] at hdc
        obtain ⟨hx, hdc⟩ := List.cons.inj hdc
        apply e_impl_Sign_eval
        simp only [q_impl_Sign_eval]
        rw [idx_lt hi, ← hx]
        simp only [Option.bind_some]
        rw [if_neg (by simpa using h0), p_args (a, ()) n hb, inc_nat (by omega)]
        simp only [Option.bind_some]
        rw [← hl]
        have := p_eval_loop (a := a) h1 h3 env T hT n us.length (by omega) us 0 (i + 1) x 0 kid (by omega) hdc.symm (by omega) (by simp [pw])
        rw [show ((0 : Nat) : Int) = 0 from rfl] at this
        rw [world_eta, this]
        simp only [Option.bind_some, Sum.elim_inl]
        rw [i1]
        simp only [Option.bind_some]
        rw [i2]
        simp only [Option.bind_some, List.length_cons]
        congr 4
        omega
      · intro T x i hT hd
        have hi : i < T.length := by have := drop_len hd; simp at this; omega
        have hdc := List.drop_eq_getElem_cons hi
        rw [hd] at hdc
        obtain ⟨hx, hdc⟩ := List.cons.inj hdc
        apply e_spec_l5Eval
        simp only [q_spec_l5Eval]
        rw [idx_lt hi, ← hx]
        simp only [Option.bind_some]
        have hA : c_spec_l1Args M (a, ()) T (i : Int) = some ((posOf (i + 1) us, ()), ()) := by
          apply e_spec_l1Args
          simp only [q_spec_l1Args]
          rw [idx_lt hi, ← hx]
          simp only [Option.bind_some]
          rw [if_neg (by simpa using h0), idx_ar hb h0, inc_nat (by omega)]
          simp only [Option.bind_some]
          have := p_l1Args_loop hg T hT us (i + 1) x [] hk (by omega) hdc.symm (by simp; omega)
          rw [hl] at this
          rw [this]
          simp
        rw [if_neg (by simpa using h0), hA]
        simp only [Option.bind_some]
        have := p_l5Eval_loop (a := a) h1 h3 env T hT i (posOf (i + 1) us) (by rw [posOf_len]; omega) us 0 (i + 1) x 0 kid (by rw [posOf_len]; omega) rfl hdc.symm (by omega) (by simp [pw])
        rw [show ((0 : Nat) : Int) = 0 from rfl] at this
        rw [world_eta, this]
        simp only [Option.bind_some, Sum.elim_inl]
        rw [idx_lt hi, ← hx]
        simp only [Option.bind_some]
        rw [i1]
        simp only [Option.bind_some]
        rw [i2]
        rfl

theorem p_evals (s : TSign) (hg : gS s.1 = true) (w : TWorld) (hw : wOK s.1 w = true) (env : List Int) (he : envOK w.1 env = true) (u : List Int) (hu : isT s.1 u = true) : ∃ v, c_impl_Sign_value M s w u env = some ((v, ()), ()) ∧ c_spec_l5Eval M s w u 0 env = some ((v, ()), ()) := by
  simp only [isT, Bool.and_eq_true, decide_eq_true_eq] at hu
  obtain ⟨v, _, _, v3, v4⟩ := EV_all hg hw he 40 u hu.1 (by omega) hu.2
  have h3 := v3 u [] 0 (by omega) (by simp)
  have h4 := v4 u [] 0 (by omega) (by simp)
  rw [show ((0 : Nat) : Int) = 0 from rfl] at h3 h4
  refine ⟨v, e_impl_Sign_value _ _ _ _ ?_, h4⟩
  rw [sign_eta'] at h3
  simp only [q_impl_Sign_value, sign_eta', world_eta, h3, Option.bind_some]

/-! ### The truth of a formula -/
theorem p_own (l : List Int) (hl : l.length ≤ 1000) : c_spec_l1Own M l = some ((l, ()), ()) := by
  apply e_spec_l1Own
  simp only [q_spec_l1Own, List.length_nil, List.nil_append]
  rw [if_pos (by omega)]

theorem p_quant {a : List Int} {w : TWorld} (h3 : w.1 ≤ 3) (F : List TForm) (pos : Nat) (hpos : pos ≤ 1000) (t : Tree) (x : TForm) (v0 : 0 ≤ x.2.1) (v5 : x.2.1 ≤ 5) (ho : x.1 = 5 ∨ x.1 = 6) (env : List Int) (he : envOK w.1 env = true)
    (ih : ∀ env, envOK w.1 env = true → ∃ b, c_impl_tree_holds M t (a, ()) w env = some ((b, ()), ()) ∧ c_spec_l14Holds M (a, ()) w F ((pos : Int) - 1) env = some ((b, ()), ())) :
    ∀ (k i : Nat) (e : List Int), (i : Int) + k = w.1 → e.length = 12 → (∀ v, e.set x.2.1.toNat v = env.set x.2.1.toNat v) → ∃ r : Option Bool, l_spec_l14Holds_122 M F pos env (a, ()) w x i = some (match r with | none => .inl (x, ()) | some b => .inr ((b, ()), ())) ∧
      l_impl_tree_holds_250 M (mkT x [t]) e (a, ()) w x w.1 i = some (match r with | none => .inl (x, ()) | some b => .inr ((b, ()), ())) := by
  have hel : env.length = 12 := by simp only [envOK, Bool.and_eq_true, decide_eq_true_eq] at he; exact he.1
  intro k
  induction k with
  | zero =>
    intro i e hi hl hs
    refine ⟨none, el_spec_l14Holds_122 _ _ _ _ _ _ _ ?_, el_impl_tree_holds_250 _ _ _ _ _ _ _ ?_⟩
    · simp only [ql_spec_l14Holds_122]
      rw [if_neg (by simp <;> omega), form_eta]
    · simp only [ql_impl_tree_holds_250]
      rw [if_neg (by simp <;> omega), form_eta]
  | succ k ihk =>
    intro i e hi hl hs
    obtain ⟨b, b1, b2⟩ := ih (env.set x.2.1.toNat i) (envOK_set he _ _ (by omega) (by omega))
    have hx1 : x.2.1.toNat < env.length := by omega
    have hx2 : x.2.1.toNat < e.length := by omega
    have hix : idx [t] 0 = some t := rfl
    have pre1 : ∀ r, (if (!(b == (x.1 == (5 : Int)))) = true then (some (.inr (((x.1 == (6 : Int)), ()), ()))) else l_spec_l14Holds_122 M F pos env (a, ()) w x ((i + 1 : Nat) : Int)) = some r → l_spec_l14Holds_122 M F pos env (a, ()) w x i = some r := by
      intro r hr
      apply el_spec_l14Holds_122
      simp only [ql_spec_l14Holds_122]
      rw [if_pos (by simp <;> omega), p_own env (by omega)]
      simp only [Option.bind_some]
      rw [if_pos (by omega), List.getElem?_eq_getElem hx1]
      simp only [Option.bind_some]
      rw [w64 (by omega) (by omega), world_eta, b2, inc_nat (by omega), form_eta]
      exact hr
    have pre2 : ∀ r, (if (b == (x.1 == (6 : Int))) = true then (some (.inr (((x.1 == (6 : Int)), ()), ()))) else l_impl_tree_holds_250 M (mkT x [t]) (e.set x.2.1.toNat i) (a, ()) w x w.1 ((i + 1 : Nat) : Int)) = some r → l_impl_tree_holds_250 M (mkT x [t]) e (a, ()) w x w.1 i = some r := by
      intro r hr
      apply el_impl_tree_holds_250
      simp only [ql_impl_tree_holds_250]
      rw [if_pos (by simp <;> omega), if_pos (by omega), List.getElem?_eq_getElem hx2]
      simp only [Option.bind_some, treeK, hix]
      rw [world_eta, hs, b1, inc_nat (by omega), form_eta, ← hs]
      exact hr
    obtain ⟨r, r1, r2⟩ := ihk (i + 1) (e.set x.2.1.toNat i) (by omega) (by simpa using hl) (fun v => by rw [List.set_set, hs])
    rcases ho with ho | ho
    · cases b with
      | true => exact ⟨r, pre1 _ (by simpa [ho] using r1), pre2 _ (by simpa [ho] using r2)⟩
      | false => exact ⟨some false, pre1 _ (by simp [ho]), pre2 _ (by simp [ho])⟩
    · cases b with
      | true => exact ⟨some true, pre1 _ (by simp [ho]), pre2 _ (by simp [ho])⟩
      | false => exact ⟨r, pre1 _ (by simpa [ho] using r1), pre2 _ (by simpa [ho] using r2)⟩

theorem p_holds {a : List Int} (hg : gS a = true) {w : TWorld} (hw : wOK a w = true) {g : List TForm} {t : Tree} (hf : FT a g t) : g.length ≤ 900 → ∀ (pre post : List TForm), pre.length + g.length ≤ 900 → ∀ env, envOK w.1 env = true →
    ∃ b, c_impl_tree_holds M t (a, ()) w env = some ((b, ()), ()) ∧ c_spec_l14Holds M (a, ()) w (pre ++ (g ++ post)) ((pre.length : Int) + g.length - 1) env = some ((b, ()), ()) := by
  obtain ⟨h1, h3, hwl, hwt⟩ := wOK_parts hw
  induction hf with
  | @leaf x h h0 =>
    intro _ pre post _ env he
    obtain ⟨ho, hL, hR⟩ := leaf_op h h0
    obtain ⟨v, v1, v2⟩ := p_evals (a, ()) hg w hw env he _ hL
    obtain ⟨u, u1, u2⟩ := p_evals (a, ()) hg w hw env he _ hR
    refine ⟨v == u, e_impl_tree_holds _ _ _ _ ?_, ?_⟩
    · simp only [q_impl_tree_holds, treeK, ho, Int.reduceBEq, Bool.false_eq_true, ↓reduceIte, world_eta, v1, u1, Option.bind_some]
    · simp only [List.length_cons, List.length_nil, List.singleton_append]
      rw [show (pre.length : Int) + ((0 + 1 : Nat) : Int) - 1 = (pre.length : Int) by omega]
      apply e_spec_l14Holds
      simp only [q_spec_l14Holds, idx_mid, Option.bind_some, ho, Int.reduceBEq, Bool.false_eq_true, ↓reduceIte, world_eta, v2, u2]
  | @un x g t h h1' hgt ih =>
    intro hlen pre post hl env he
    simp only [List.length_append, List.length_cons, List.length_nil] at hlen hl
    obtain ⟨hop, hv0, hv5⟩ := un_op h h1'
    have hix : idx [t] 0 = some t := rfl
    have hpt : idx (pre ++ (g ++ [x] ++ post)) (((pre ++ g).length : Nat) : Int) = some x := by
      have := idx_mid (pre ++ g) post x
      simpa using this
    have hee : (pre.length : Int) + ((g ++ [x]).length : Int) - 1 = (((pre ++ g).length : Nat) : Int) := by simp; omega
    have ih' : ∀ env, envOK w.1 env = true → ∃ b, c_impl_tree_holds M t (a, ()) w env = some ((b, ()), ()) ∧ c_spec_l14Holds M (a, ()) w (pre ++ (g ++ [x] ++ post)) ((((pre ++ g).length : Nat) : Int) - 1) env = some ((b, ()), ()) := by
      intro env he
      obtain ⟨b, b1, b2⟩ := ih (by omega) pre (x :: post) (by omega) env he
      exact ⟨b, b1, by simpa using b2⟩
    have hlp : (pre ++ g).length ≤ 1000 := by simp; omega
    rw [hee]
    have hel : env.length = 12 := by simp only [envOK, Bool.and_eq_true, decide_eq_true_eq] at he; exact he.1
    by_cases h2 : x.1 = 2
    · obtain ⟨b, b1, b2⟩ := ih' env he
      refine ⟨!b, e_impl_tree_holds _ _ _ _ ?_, e_spec_l14Holds _ _ _ _ _ ?_⟩
      · simp only [q_impl_tree_holds, treeK, h2, Int.reduceBEq, Bool.false_eq_true, ↓reduceIte, world_eta, hix, b1, Option.bind_some]
      · simp only [q_spec_l14Holds, hpt, Option.bind_some, h2, Int.reduceBEq, Bool.false_eq_true, ↓reduceIte, world_eta]
        rw [w64 (by omega) (by omega), b2]
        rfl
    · have ho : x.1 = 5 ∨ x.1 = 6 := by omega
      obtain ⟨r, r1, r2⟩ := p_quant (a := a) h3 (pre ++ (g ++ [x] ++ post)) (pre ++ g).length hlp t x hv0 hv5 ho env he ih' w.1.toNat 0 env (by omega) hel (fun _ => rfl)
      rw [show ((0 : Nat) : Int) = 0 from rfl] at r1 r2
      refine ⟨r.getD (x.1 == 5), e_impl_tree_holds _ _ _ _ ?_, e_spec_l14Holds _ _ _ _ _ ?_⟩
      · have e1 : (x.1 == (1 : Int)) = false := beq_false_of_ne (by omega)
        have e2 : (x.1 == (2 : Int)) = false := beq_false_of_ne (by omega)
        have e3 : (x.1 == (3 : Int)) = false := beq_false_of_ne (by omega)
        have e4 : (x.1 == (4 : Int)) = false := beq_false_of_ne (by omega)
        simp only [q_impl_tree_holds, treeK, e1, e2, e3, e4, Bool.false_eq_true, ↓reduceIte, world_eta, form_eta]
        rw [if_pos (by omega)]
        have r2' : l_impl_tree_holds_250 M (Tree.mk x.1 x.2.1 x.2.2.1 x.2.2.2.1 [t]) env (a, ()) w x w.1 0 = _ := r2
        rw [r2']
        cases r <;> rfl
      · have e1 : (x.1 == (1 : Int)) = false := beq_false_of_ne (by omega)
        have e2 : (x.1 == (2 : Int)) = false := beq_false_of_ne (by omega)
        have e3 : (x.1 == (3 : Int)) = false := beq_false_of_ne (by omega)
        have e4 : (x.1 == (4 : Int)) = false := beq_false_of_ne (by omega)
        simp only [q_spec_l14Holds, hpt, Option.bind_some, e1, e2, e3, e4, Bool.false_eq_true, ↓reduceIte, world_eta, form_eta, r1]
        cases r <;> rfl
  | @bin x g k t u h h2 hgt hkt ih1 ih2 =>
    intro hlen pre post hl env he
    simp only [List.length_append, List.length_cons, List.length_nil] at hlen hl
    have hop := bin_op h h2
    have hix : idx [t, u] 0 = some t := rfl
    have hix1 : idx [t, u] 1 = some u := rfl
    have hpt : idx (pre ++ (g ++ k ++ [x] ++ post)) (((pre ++ (g ++ k)).length : Nat) : Int) = some x := by
      have := idx_mid (pre ++ (g ++ k)) post x
      simpa using this
    have hee : (pre.length : Int) + ((g ++ k ++ [x]).length : Int) - 1 = (((pre ++ (g ++ k)).length : Nat) : Int) := by simp; omega
    have hlp : (pre ++ (g ++ k)).length ≤ 1000 := by simp; omega
    have hfi : c_spec_l14First M (pre ++ (g ++ k ++ [x] ++ post)) (((pre ++ (g ++ k)).length : Nat) : Int) = some (((((pre ++ g).length : Nat) : Int) - 1, ()), ()) := by
      have := p_l14First hkt (pre ++ g) (x :: post) (by simp; omega)
      simp only [List.append_assoc, List.length_append] at this ⊢
      rw [show ((pre.length + g.length : Nat) : Int) + (k.length : Int) = ((pre.length + (g.length + k.length) : Nat) : Int) by omega] at this
      simpa using this
    obtain ⟨b, b1, b2⟩ := ih1 (by omega) pre (k ++ x :: post) (by omega) env he
    obtain ⟨c, c1, c2⟩ := ih2 (by omega) (pre ++ g) (x :: post) (by simp; omega) env he
    have b2' : c_spec_l14Holds M (a, ()) w (pre ++ (g ++ k ++ [x] ++ post)) ((((pre ++ g).length : Nat) : Int) - 1) env = some ((b, ()), ()) := by simpa using b2
    have c2' : c_spec_l14Holds M (a, ()) w (pre ++ (g ++ k ++ [x] ++ post)) (IntKind.i64.wrap ((((pre ++ (g ++ k)).length : Nat) : Int) - 1)) env = some ((c, ()), ()) := by
      rw [w64 (by omega) (by omega)]
      simp only [List.append_assoc, List.length_append] at c2 ⊢
      rw [show ((pre.length + g.length : Nat) : Int) + (k.length : Int) = ((pre.length + (g.length + k.length) : Nat) : Int) by omega] at c2
      simpa using c2
    rw [hee]
    rcases hop with ho | ho
    · refine ⟨b && c, e_impl_tree_holds _ _ _ _ ?_, e_spec_l14Holds _ _ _ _ _ ?_⟩
      · simp only [q_impl_tree_holds, treeK, ho, Int.reduceBEq, Bool.false_eq_true, ↓reduceIte, world_eta, hix, hix1, b1, c1, Option.bind_some]
        cases b <;> rfl
      · simp only [q_spec_l14Holds, hpt, Option.bind_some, ho, Int.reduceBEq, Bool.false_eq_true, ↓reduceIte, world_eta, hfi, b2', c2']
        cases b <;> rfl
    · refine ⟨b || c, e_impl_tree_holds _ _ _ _ ?_, e_spec_l14Holds _ _ _ _ _ ?_⟩
      · simp only [q_impl_tree_holds, treeK, ho, Int.reduceBEq, Bool.false_eq_true, ↓reduceIte, world_eta, hix, hix1, b1, c1, Option.bind_some]
        cases b <;> rfl
      · simp only [q_spec_l14Holds, hpt, Option.bind_some, ho, Int.reduceBEq, Bool.false_eq_true, ↓reduceIte, world_eta, hfi, b2', c2']
        cases b <;> rfl

end Go.Proofs.YtffdfjilpleljaaHf.Ev
