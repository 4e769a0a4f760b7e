/- Plain laws: the texts of terms and of clauses: both programs write the same. No condition but sizes. -/
import Derived.Test.YtffdfjilpleljaaCuPCa
namespace Go.Proofs.YtffdfjilpleljaaCu.Ev
open Go
set_option autoImplicit false
set_option linter.unusedVariables false
set_option linter.unusedSimpArgs false

theorem lit_eta (x : TLit) : (x.1, x.2.1, x.2.2.1, ()) = x := rfl
/-- The text of a term: the same bytes from both programs, wherever it stands. -/
def TX (a u b : List Int) : Prop := b.length + 1 ≤ 4 * u.length ∧
  (∀ (T x out : List Int) (i : Nat), T.length ≤ 1000 → T.drop i = u ++ x → out.length + 4 * u.length ≤ 1000000 → c_impl_Sign_text M (a, ()) out T i = some ((out ++ b, ((i + u.length : Nat) : Int), ()), ())) ∧
  (∀ (T x : List Int) (i : Nat), T.length ≤ 1000 → T.drop i = u ++ x → c_spec_l1TermText M (a, ()) T i = some ((bytesStr b, ()), ()))

open Classical in
noncomputable def tb (a u : List Int) : List Int := if h : ∃ b, TX a u b then h.choose else []
theorem tb_ok {a u : List Int} (h : ∃ b, TX a u b) : TX a u (tb a u) := by
  unfold tb; rw [dif_pos h]; exact h.choose_spec

/-- The operands' texts, each behind its sign. -/
noncomputable def gl (a : List Int) : Bool → List (List Int) → List Int
  | _, [] => []
  | f, u :: us => (if f then 40 else 44) :: (tb a u ++ gl a false us)
theorem gl_len {a : List Int} : ∀ (us : List (List Int)) (f : Bool), (∀ u ∈ us, TX a u (tb a u)) → (gl a f us).length ≤ 4 * us.flatten.length
  | [], _, _ => by simp [gl]
  | u :: us, f, h => by
    have h1 := (h u (by simp)).1
    have h2 := gl_len us false (fun v hv => h v (by simp [hv]))
    simp only [gl, List.length_cons, List.length_append, List.flatten_cons]
    omega
theorem p_text_loop {a : List Int} (T : List Int) (hT : T.length ≤ 1000) (n : Int) (cnt : Nat) (hc : cnt ≤ 3) : ∀ (us : List (List Int)) (i p : Nat) (x out : List Int), (∀ u ∈ us, TX a u (tb a u)) → i + us.length = cnt → T.drop p = us.flatten ++ x → out.length + 4 * us.flatten.length ≤ 999999 →
    l_impl_Sign_text_506 M out T (a, ()) n p cnt i = some (.inl (out ++ gl a (i == 0) us, (a, ()), n, ((p + us.flatten.length : Nat) : Int), ())) := by
  intro us
  induction us with
  | nil =>
    intro i p x out _ hi _ _
    apply el_impl_Sign_text_506
    simp at hi
    subst hi
    simp [ql_impl_Sign_text_506, gl]
  | cons u us ih =>
    intro i p x out hu hi hd ho
    simp only [List.length_cons] at hi
    simp only [List.flatten_cons, List.append_assoc, List.length_append] at hd ho ⊢
    have h1 := hu u (by simp)
    have h2 := h1.1
    apply el_impl_Sign_text_506
    simp only [ql_impl_Sign_text_506]
    rw [if_pos (by simp [-List.length_flatten]; omega)]
    have step : ∀ sg : Int, ((c_impl_Sign_text M (a, ()) (out ++ [sg]) T (p : Int)).bind fun r2 => l_impl_Sign_text_506 M r2.1.1 T (a, ()) n r2.1.2.1 cnt (IntKind.i64.wrap ((i : Int) + 1))) = some (.inl (out ++ [sg] ++ tb a u ++ gl a false us, (a, ()), n, ((p + u.length + us.flatten.length : Nat) : Int), ())) := by
      intro sg
      rw [h1.2.1 T (us.flatten ++ x) (out ++ [sg]) p hT hd (by simp [-List.length_flatten]; omega), inc_nat (by omega)]
      simp only [Option.bind_some]
      rw [ih (i + 1) (p + u.length) x (out ++ [sg] ++ tb a u) (fun v hv => hu v (by simp [hv])) (by omega) (drop_split hd) (by simp [-List.length_flatten]; omega)]
      simp
    by_cases h0 : i = 0
    · subst h0
      rw [if_pos (by simp)]
      simp only [Option.bind_some, Sum.elim_inl]
      rw [if_pos (by simp [-List.length_flatten]; omega), step]
      simp [gl, Nat.add_assoc]
    · rw [if_neg (by simpa using h0)]
      simp only [Option.bind_some, Sum.elim_inl]
      rw [if_pos (by simp [-List.length_flatten]; omega), step]
      simp [gl, h0, Nat.add_assoc]

theorem p_l1TermText_loop {a : List Int} (T : List Int) (hT : T.length ≤ 1000) (at0 : Int) (P : List Int) (hP : P.length ≤ 3) : ∀ (us : List (List Int)) (i p : Nat) (x : List Int) (out : List UInt8), (∀ u ∈ us, TX a u (tb a u)) → i + us.length = P.length → P.drop i = posOf p us → T.drop p = us.flatten ++ x → out.length + 4 * us.flatten.length ≤ 999999 →
    l_spec_l1TermText_122 M T at0 (a, ()) out P P.length i = some (.inl (T, at0, (a, ()), out ++ bytesStr (gl a (i == 0) us), ())) := by
  intro us
  induction us with
  | nil =>
    intro i p x out _ hi _ _ _
    apply el_spec_l1TermText_122
    simp at hi
    subst hi
    simp [ql_spec_l1TermText_122, gl, bytesStr]
  | cons u us ih =>
    intro i p x out hu hi hd hd2 ho
    simp only [List.length_cons] at hi
    simp only [List.flatten_cons, List.append_assoc, List.length_append] at hd2 ho
    have h1 := hu u (by simp)
    have h2 := h1.1
    apply el_spec_l1TermText_122
    have hi' : i < P.length := by omega
    have hdc := List.drop_eq_getElem_cons hi'
    rw [hd, posOf] at hdc
    obtain ⟨hp, hdc⟩ := List.cons.inj hdc
    simp only [ql_spec_l1TermText_122]
    rw [if_pos (by simpa using hi'), if_pos (by omega), Int.toNat_natCast, List.getElem?_eq_getElem hi', ← hp]
    simp only [Option.bind_some]
    have step : ∀ sg : UInt8, ((c_spec_l1TermText M (a, ()) T (p : Int)).bind fun r3 => if (out ++ [sg]).length + List.length r3.1.1 ≤ 4611686018427387904 then l_spec_l1TermText_122 M T at0 (a, ()) ((out ++ [sg]) ++ r3.1.1) P P.length (IntKind.i64.wrap ((i : Int) + 1)) else none) = some (.inl (T, at0, (a, ()), out ++ [sg] ++ bytesStr (tb a u) ++ bytesStr (gl a false us), ())) := by
      intro sg
      rw [h1.2.2 T (us.flatten ++ x) p hT hd2, inc_nat (by omega)]
      simp only [Option.bind_some]
      rw [if_pos (by simp [bytesStr_len, -List.length_flatten]; omega), ih (i + 1) (p + u.length) x _ (fun v hv => hu v (by simp [hv])) (by omega) hdc.symm (drop_split hd2) (by simp [bytesStr_len, -List.length_flatten]; omega)]
      simp
    by_cases h0 : i = 0
    · subst h0
      rw [if_pos (by simp), if_pos (by simp [-List.length_flatten]; omega)]
      simp only [Option.bind_some, Sum.elim_inl]
      rw [step]
      simp [gl, bytesStr]
    · rw [if_neg (by simpa using h0), if_pos (by simp [-List.length_flatten]; omega)]
      simp only [Option.bind_some, Sum.elim_inl]
      rw [step]
      simp [gl, h0, bytesStr]

theorem TX_var {a : List Int} (hs : a.length ≤ 10) {n : Int} (hb : ¬ badN a n) (h0 : n < 0) : TX a [n] [64 - n] := by
  have hb' := hb
  unfold badN at hb'
  have e1 : IntKind.i64.wrap (-1 - n) = -1 - n := w64 (by omega) (by omega)
  refine ⟨by simp, ?_, ?_⟩
  · intro T x out i hT hd ho
    have hi : i < T.length := by have := drop_len hd; simp at this; omega
    have hx : T[i] = n := by
      have := List.drop_eq_getElem_cons hi
      rw [hd] at this
      exact (List.cons.inj this).1.symm
    apply e_impl_Sign_text
    simp only [q_impl_Sign_text]
    rw [idx_lt hi, hx]
    simp only [Option.bind_some]
    simp only [List.length_cons, List.length_nil] at ho
    rw [if_pos (by simpa using h0), if_pos (by simp [-List.length_flatten]; omega), e1, w8 (x := -1 - n) (by omega) (by omega), w8 (by omega) (by omega), inc_nat (by omega), show (65 : Int) + (-1 - n) = 64 - n by omega]
    rfl
  · intro T x i hT hd
    have hi : i < T.length := by have := drop_len hd; simp at this; omega
    have hx : T[i] = n := by
      have := List.drop_eq_getElem_cons hi
      rw [hd] at this
      exact (List.cons.inj this).1.symm
    apply e_spec_l1TermText
    simp only [q_spec_l1TermText]
    rw [idx_lt hi, hx]
    simp only [Option.bind_some]
    rw [if_pos (by simpa using h0), e1, w64 (by omega) (by omega), w8 (by omega) (by omega), show (65 : Int) + (-1 - n) = 64 - n by omega]
theorem TX_app {a : List Int} (hg : gS a = true) {n : Int} {us : List (List Int)} (hb : ¬ badN a n) (h0 : ¬ n < 0) (hl : (us.length : Int) = ar a n) (hk : ∀ v ∈ us, Tm a v) (kid : ∀ v ∈ us, TX a v (tb a v)) (hu : us.flatten.length ≤ 999) :
    TX a (n :: us.flatten) ((97 + n) :: (gl a true us ++ (if 0 < ar a n then [41] else []))) := by
  have hn := ar_ge hg n
  have hs : a.length ≤ 10 := by simp only [gS, Bool.and_eq_true, decide_eq_true_eq] at hg; exact hg.2.1
  have hb' := hb
  unfold badN at hb'
  have hgl := gl_len us true kid
  refine ⟨by simp [-List.length_flatten]; split <;> simp [-List.length_flatten] <;> omega, ?_, ?_⟩
  · intro T x out i hT hd ho
    have hi : i < T.length := by have := drop_len hd; simp at this; omega
    have hdc := List.drop_eq_getElem_cons hi
    rw [hd] at hdc
    obtain ⟨hx, hdc⟩ := List.cons.inj hdc
    apply e_impl_Sign_text
    simp only [q_impl_Sign_text]
    rw [idx_lt hi, ← hx]
    simp only [Option.bind_some]
    simp only [List.length_cons] at ho
    rw [if_neg (by simpa using h0), if_pos (by simp [-List.length_flatten]; omega), w8 (x := n) (by omega) (by omega), w8 (by omega) (by omega), inc_nat (by omega), p_args (a, ()) n hb]
    simp only [Option.bind_some]
    rw [← hl]
    have := p_text_loop (a := a) T hT n us.length (by omega) us 0 (i + 1) x (out ++ [97 + n]) kid (by omega) hdc.symm (by simp [-List.length_flatten]; omega)
    rw [show ((0 : Nat) : Int) = 0 from rfl] at this
    rw [this]
    simp only [Option.bind_some, Sum.elim_inl]
    rw [p_args (a, ()) n hb]
    simp only [Option.bind_some]
    rw [hl]
    by_cases h4 : 0 < ar a n
    · rw [if_pos (by simpa using h4), if_pos (by simp [-List.length_flatten]; omega), if_pos h4]
      simp [-List.length_flatten]; omega
    · rw [if_neg (by simpa using h4), if_neg h4]
      simp [-List.length_flatten]; omega
  · intro T x i hT hd
    have hi : i < T.length := by have := drop_len hd; simp at this; omega
    have hdc := List.drop_eq_getElem_cons hi
    rw [hd] at hdc
    obtain ⟨hx, hdc⟩ := List.cons.inj hdc
    apply e_spec_l1TermText
    simp only [q_spec_l1TermText]
    rw [idx_lt hi, ← hx]
    simp only [Option.bind_some]
    have hA : c_spec_l1Args M (a, ()) T (i : Int) = some ((posOf (i + 1) us, ()), ()) := by
      apply e_spec_l1Args
      simp only [q_spec_l1Args]
      rw [idx_lt hi, ← hx]
      simp only [Option.bind_some]
      rw [if_neg (by simpa using h0), idx_ar hb h0, inc_nat (by omega)]
      simp only [Option.bind_some]
      have := p_l1Args_loop hg T hT us (i + 1) x [] hk (by omega) hdc.symm (by simp [-List.length_flatten]; omega)
      rw [hl] at this
      rw [this]
      simp
    rw [if_neg (by simpa using h0), hA, w64 (by omega) (by omega), w8 (by omega) (by omega)]
    simp only [Option.bind_some]
    have := p_l1TermText_loop (a := a) T hT i (posOf (i + 1) us) (by rw [posOf_len]; omega) us 0 (i + 1) x (bytesStr [97 + n]) kid (by rw [posOf_len]; omega) rfl hdc.symm (by simp [bytesStr, -List.length_flatten]; omega)
    rw [show ((0 : Nat) : Int) = 0 from rfl] at this
    rw [this]
    simp only [Option.bind_some, Sum.elim_inl]
    rw [idx_lt hi, ← hx]
    simp only [Option.bind_some]
    rw [idx_ar hb h0]
    simp only [Option.bind_some]
    by_cases h4 : 0 < ar a n
    · rw [if_pos (by simpa using h4), if_pos (by simp [bytesStr_len, -List.length_flatten]; omega), if_pos h4]
      simp [bytesStr]
    · rw [if_neg (by simpa using h4), if_neg h4]
      simp [bytesStr]

theorem TX_all {a : List Int} (hg : gS a = true) : ∀ (N : Nat) (u : List Int), u.length ≤ N → N ≤ 1000 → Tm a u → ∃ b, TX a u b := by
  intro N
  induction N with
  | zero => intro u hu _ h; have := h.pos; omega
  | succ N ih =>
    intro u hu hN h
    obtain ⟨n, us, rfl, hb, hl, hk⟩ := h.parts hg
    have hs : a.length ≤ 10 := by simp only [gS, Bool.and_eq_true, decide_eq_true_eq] at hg; exact hg.2.1
    simp only [List.length_cons] at hu
    have kid : ∀ v ∈ us, TX a v (tb a v) := fun v hv => tb_ok (ih v (by
      have : v.length ≤ us.flatten.length := (List.sublist_flatten_of_mem hv).length_le
      omega) (by omega) (hk v hv))
    by_cases h0 : n < 0
    · have h3 : ar a n = 0 := by simp [ar, h0]
      obtain rfl : us = [] := List.eq_nil_of_length_eq_zero (by omega)
      exact ⟨_, TX_var hs hb h0⟩
    · exact ⟨_, TX_app hg hb h0 hl hk kid (by omega)⟩
theorem TX_uniq {a u b c : List Int} (hu : u.length ≤ 1000) (h : TX a u b) (k : TX a u c) : b = c := by
  have h1 := h.2.1 u [] [] 0 hu (by simp) (by simp; omega)
  have h2 := k.2.1 u [] [] 0 hu (by simp) (by simp; omega)
  rw [h1] at h2
  simpa using h2
theorem tb_eq {a u b : List Int} (hu : u.length ≤ 1000) (h : TX a u b) : tb a u = b := TX_uniq hu (tb_ok ⟨b, h⟩) h

/-- The text of a term. -/
noncomputable def tx (a u : List Int) : List UInt8 := bytesStr (tb a u)
theorem isT_TX {a u : List Int} (hg : gS a = true) (h : isT a u = true) : TX a u (tb a u) := by
  simp only [isT, Bool.and_eq_true, decide_eq_true_eq] at h
  exact tb_ok (TX_all hg 40 u h.1 (by omega) h.2)
theorem tx_len {a u : List Int} (hg : gS a = true) (h : isT a u = true) : (tx a u).length ≤ 160 := by
  have := (isT_TX hg h).1
  simp only [isT, Bool.and_eq_true, decide_eq_true_eq] at h
  rw [tx, bytesStr_len]
  omega
theorem p_l1TermText (s : TSign) (hg : gS s.1 = true) (u : List Int) (h : isT s.1 u = true) : c_spec_l1TermText M s u 0 = some ((tx s.1 u, ()), ()) := by
  have hu := h
  simp only [isT, Bool.and_eq_true, decide_eq_true_eq] at hu
  exact (isT_TX hg h).2.2 u [] 0 (by omega) (by simp)
theorem p_termText (s : TSign) (hg : gS s.1 = true) (u : List Int) (h : isT s.1 u = true) : c_impl_Sign_termText M s u = some ((tx s.1 u, ()), ()) := by
  have hu := h
  simp only [isT, Bool.and_eq_true, decide_eq_true_eq] at hu
  apply e_impl_Sign_termText
  have := (isT_TX hg h).2.1 u [] [] 0 (by omega) (by simp) (by simp [-List.length_flatten]; omega)
  rw [show ((0 : Nat) : Int) = 0 from rfl, sign_eta] at this
  simp only [q_impl_Sign_termText, sign_eta, this, Option.bind_some, List.nil_append]
  rfl

end Go.Proofs.YtffdfjilpleljaaCu.Ev
