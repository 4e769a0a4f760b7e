/- Plain laws: reading a term inverts writing it, and writing what was read. No condition but sizes. -/
import Derived.Test.YtffdfjilpleljaaCuPRb
namespace Go.Proofs.YtffdfjilpleljaaCu.Ev
open Go
set_option autoImplicit false
set_option linter.unusedVariables false
set_option linter.unusedSimpArgs false

theorem bytesStr_cons (n : Int) (r : List Int) : bytesStr (n :: r) = bytesStr [n] ++ bytesStr r := by simp [bytesStr]
theorem bytesStr_nat {n : Nat} (h : n < 256) : ∃ b : UInt8, bytesStr [(n : Int)] = [b] ∧ b.toNat = n := by
  refine ⟨UInt8.ofNat n, by simp [bytesStr], ?_⟩
  simp; omega
theorem bytesStr_int {n : Int} (h : 0 ≤ n) (k : n < 256) : ∃ b : UInt8, bytesStr [n] = [b] ∧ (b.toNat : Int) = n := by
  obtain ⟨m, rfl⟩ : ∃ m : Nat, n = (m : Int) := ⟨n.toNat, by omega⟩
  obtain ⟨b, h1, h2⟩ := bytesStr_nat (n := m) (by omega)
  exact ⟨b, h1, by omega⟩
theorem bytesStr_byte (b : UInt8) {n : Int} (h : n = (b.toNat : Int)) : bytesStr [n] = [b] := by
  subst h; simp [bytesStr]

/-- What was written is read back. -/
def Back (a u : List Int) : Prop := u.length ≤ (tb a u).length ∧ ∀ (f : Nat) (post : List UInt8), u.length ≤ f → rdT a f (bytesStr (tb a u) ++ post) = .ok u (tb a u).length

theorem rdK_gl {a : List Int} {T : List UInt8 → Rd (List Int)} : ∀ (us : List (List Int)) (fl : Bool) (post : List UInt8), (∀ u ∈ us, ∀ post, T (bytesStr (tb a u) ++ post) = .ok u (tb a u).length) → rdK T (if fl = true then 40 else 44) us.length (bytesStr (gl a fl us) ++ post) = .ok us.flatten (gl a fl us).length := by
  intro us
  induction us with
  | nil => intro fl post _; rfl
  | cons u us ih =>
    intro fl post h
    have hu := h u (by simp)
    have hus := ih false post (fun v hv => h v (by simp [hv]))
    obtain ⟨b, hb1, hb2⟩ := bytesStr_nat (n := if fl = true then 40 else 44) (by split <;> omega)
    have e : bytesStr (gl a fl (u :: us)) ++ post = b :: (bytesStr (tb a u) ++ (bytesStr (gl a false us) ++ post)) := by
      simp only [gl]
      rw [bytesStr_cons, show (if fl = true then (40 : Int) else 44) = ((if fl = true then 40 else 44 : Nat) : Int) by split <;> rfl, hb1, bytesStr_app]
      simp
    rw [e]
    simp only [List.length_cons, rdK]
    rw [if_pos hb2, hu]
    have hd : (bytesStr (tb a u) ++ (bytesStr (gl a false us) ++ post)).drop (tb a u).length = bytesStr (gl a false us) ++ post := by
      rw [← bytesStr_len (tb a u), List.drop_left]
    simp only [hd]
    rw [show (44 : Nat) = if false = true then 40 else 44 from rfl, hus]
    simp [gl]; omega
theorem gl_ge {a : List Int} : ∀ (us : List (List Int)) (fl : Bool), (∀ u ∈ us, u.length ≤ (tb a u).length) → us.flatten.length ≤ (gl a fl us).length
  | [], _, _ => by simp [gl]
  | u :: us, fl, h => by
    have h1 := h u (by simp)
    have h2 := gl_ge us false (fun v hv => h v (by simp [hv]))
    simp only [gl, List.length_cons, List.length_append, List.flatten_cons]
    omega

theorem back_all {a : List Int} (hg : gS a = true) : ∀ (N : Nat) (u : List Int), u.length ≤ N → N ≤ 1000 → Tm a u → Back a u := by
  have hsl : a.length ≤ 10 := by simp only [gS, Bool.and_eq_true, decide_eq_true_eq] at hg; exact hg.2.1
  intro N
  induction N with
  | zero => intro u hu _ h; have := h.pos; omega
  | succ N ih =>
    intro u hu hN h
    obtain ⟨n, us, rfl, hb, hl, hk⟩ := h.parts hg
    simp only [List.length_cons] at hu
    have hsub : ∀ v ∈ us, v.length ≤ us.flatten.length := fun v hv => (List.sublist_flatten_of_mem hv).length_le
    have kid : ∀ v ∈ us, TX a v (tb a v) := fun v hv => tb_ok (TX_all hg N v (by have := hsub v hv; omega) (by omega) (hk v hv))
    have kb : ∀ v ∈ us, Back a v := fun v hv => ih v (by have := hsub v hv; omega) (by omega) (hk v hv)
    have hb' := hb
    unfold badN at hb'
    by_cases h0 : n < 0
    · have h3 : ar a n = 0 := by simp [ar, h0]
      obtain rfl : us = [] := List.eq_nil_of_length_eq_zero (by omega)
      have e := tb_eq (by simp) (TX_var hsl hb h0)
      obtain ⟨b, b1, b2⟩ := bytesStr_int (n := 64 - n) (by omega) (by omega)
      refine ⟨by simp only [List.flatten_nil, e, List.length_cons, List.length_nil]; omega, fun f post hf => ?_⟩
      simp only [List.flatten_nil] at hf ⊢
      rw [e, b1]
      cases f with
      | zero => simp at hf
      | succ f =>
        simp only [List.cons_append, List.nil_append, rdT]
        rw [if_pos (by omega), show -1 - ((b.toNat : Int) - 65) = n by omega]
        rfl
    · have hn := ar_ge hg n
      have e := tb_eq (by simp [-List.length_flatten]; omega) (TX_app hg hb h0 hl hk kid (by omega))
      obtain ⟨b, b1, b2⟩ := bytesStr_int (n := 97 + n) (by omega) (by omega)
      have hge := gl_ge us true (fun v hv => (kb v hv).1)
      refine ⟨by rw [e]; simp only [List.length_cons, List.length_append]; omega, fun f post hf => ?_⟩
      rw [e]
      cases f with
      | zero => simp at hf
      | succ f =>
        simp only [List.length_cons] at hf
        rw [bytesStr_cons, b1, bytesStr_app]
        simp only [List.cons_append, List.nil_append, List.append_assoc, rdT]
        rw [if_neg (by omega), if_pos (by omega), show (b.toNat : Int) - 97 = n by omega]
        have hk2 := rdK_gl (a := a) (T := rdT a f) us true (bytesStr (if 0 < ar a n then [41] else []) ++ post) (fun v hv p => (kb v hv).2 f p (by have := hsub v hv; omega))
        rw [if_pos rfl, show us.length = (ar a n).toNat by omega] at hk2
        rw [hk2]
        simp only
        by_cases h4 : 0 < ar a n
        · rw [if_neg (by omega), if_pos h4]
          rw [← bytesStr_len (gl a true us), List.drop_left]
          have : bytesStr [(41 : Int)] = [41] := rfl
          rw [this]
          simp [bytesStr_len]; omega
        · rw [if_pos (by omega), if_neg h4]
          simp; omega

/-! ### What was read is written back -/
theorem rdK_inv {a : List Int} {T : List UInt8 → Rd (List Int)} (hT : ∀ r t c, r.length ≤ 1000 → T r = .ok t c → Tm a t ∧ r.take c = bytesStr (tb a t) ∧ c ≤ r.length) : ∀ (m : Nat) (fl : Bool) (r : List UInt8) (t : List Int) (c : Nat), r.length ≤ 1000 → rdK T (if fl = true then 40 else 44) m r = .ok t c → ∃ us : List (List Int), us.length = m ∧ t = us.flatten ∧ (∀ u ∈ us, Tm a u) ∧ r.take c = bytesStr (gl a fl us) ∧ c ≤ r.length := by
  intro m
  induction m with
  | zero =>
    intro fl r t c hr h
    simp only [rdK, Rd.ok.injEq] at h
    exact ⟨[], rfl, by rw [← h.1]; rfl, by simp, by rw [← h.2]; simp [gl, bytesStr], by omega⟩
  | succ m ih =>
    intro fl r t c hr h
    cases r with
    | nil => simp [rdK] at h
    | cons b r =>
      simp only [List.length_cons] at hr
      simp only [rdK] at h
      by_cases hb : b.toNat = (if fl = true then 40 else 44)
      · rw [if_pos hb] at h
        cases h1 : T r with
        | bad c1 => rw [h1] at h; simp at h
        | ok t1 c1 =>
          rw [h1] at h
          simp only at h
          obtain ⟨g1, g2, g3⟩ := hT r t1 c1 (by omega) h1
          cases h2 : rdK T 44 m (r.drop c1) with
          | bad c2 => rw [h2] at h; simp at h
          | ok t2 c2 =>
            rw [h2] at h
            simp only [Rd.ok.injEq] at h
            obtain ⟨us, u1, u2, u3, u4, u5⟩ := ih false (r.drop c1) t2 c2 (by simp; omega) (by simpa using h2)
            simp only [List.length_drop] at u5
            refine ⟨t1 :: us, by simp [u1], by rw [← h.1, u2]; simp, by simpa using ⟨g1, u3⟩, ?_, by rw [← h.2]; simp only [List.length_cons]; omega⟩
            rw [← h.2, show 1 + c1 + c2 = (c1 + c2) + 1 by omega, List.take_succ_cons, List.take_add, g2, u4]
            simp only [gl]
            rw [bytesStr_cons, bytesStr_byte b (by rw [hb]; cases fl <;> rfl), bytesStr_app]
            simp
      · rw [if_neg hb] at h; simp at h

theorem rdT_inv {a : List Int} (hg : gS a = true) : ∀ (f : Nat) (r : List UInt8) (t : List Int) (c : Nat), r.length ≤ 1000 → rdT a f r = .ok t c → Tm a t ∧ r.take c = bytesStr (tb a t) ∧ c ≤ r.length := by
  have hsl : a.length ≤ 10 := by simp only [gS, Bool.and_eq_true, decide_eq_true_eq] at hg; exact hg.2.1
  intro f
  induction f with
  | zero => intro r t c _ h; simp [rdT] at h
  | succ f ih =>
    intro r t c hr h
    have hle := rdT_le (a := a) (f + 1) r
    rw [h] at hle
    have hw := hle.1
    have hl := hle.2 t c rfl
    simp only [Rd.within] at hw
    cases r with
    | nil => simp [rdT] at h
    | cons b r =>
      have hbl := b.toNat_lt
      simp only [List.length_cons] at hr hw
      simp only [rdT] at h
      split at h
      · rename_i h1
        simp only [Rd.ok.injEq] at h
        have hbn : ¬ badN a (-1 - ((b.toNat : Int) - 65)) := by unfold badN; omega
        have e := tb_eq (by simp) (TX_var hsl hbn (by omega))
        obtain ⟨rfl, rfl⟩ := h
        refine ⟨?_, ?_, by simp⟩
        · unfold Tm sE
          rw [if_neg (by omega), if_neg hbn]
          have : ar a (-1 - ((b.toNat : Int) - 65)) = 0 := by unfold ar; rw [if_pos (by omega)]
          rw [this]
          simp [sE]
        · rw [e, bytesStr_byte b (by omega)]; simp
      · split at h
        · rename_i h1 h2
          have hbn : ¬ badN a ((b.toNat : Int) - 97) := by unfold badN; omega
          have har := ar_ge hg ((b.toNat : Int) - 97)
          cases hk : rdK (rdT a f) 40 (ar a ((b.toNat : Int) - 97)).toNat r with
          | bad c1 => rw [hk] at h; simp at h
          | ok t1 c1 =>
            rw [hk] at h
            simp only at h
            obtain ⟨us, u1, u2, u3, u4, u5⟩ := rdK_inv (a := a) (T := rdT a f) (fun r t c => ih r t c) _ true r t1 c1 (by omega) (by simpa using hk)
            subst u2
            have hul : (us.length : Int) = ar a ((b.toNat : Int) - 97) := by omega
            have fin : ∀ q : List UInt8, t = ((b.toNat : Int) - 97) :: us.flatten → (b :: r).take c = b :: (r.take c1 ++ q) → q = bytesStr (if 0 < ar a ((b.toNat : Int) - 97) then [41] else []) → Tm a t ∧ (b :: r).take c = bytesStr (tb a t) := by
              intro q q1 q2 q3
              subst q1
              have hlu : us.flatten.length ≤ 999 := by simp only [List.length_cons] at hl; omega
              have hsub : ∀ v ∈ us, v.length ≤ us.flatten.length := fun v hv => (List.sublist_flatten_of_mem hv).length_le
              have kid : ∀ v ∈ us, TX a v (tb a v) := fun v hv => tb_ok (TX_all hg 1000 v (by have := hsub v hv; omega) (by omega) (u3 v hv))
              have e := tb_eq (by simp [-List.length_flatten]; omega) (TX_app hg hbn (by omega) hul u3 kid hlu)
              refine ⟨?_, ?_⟩
              · have kids : ∀ (us : List (List Int)), (∀ u ∈ us, Tm a u) → sE a us.length us.flatten = some [] := by
                  intro us
                  induction us with
                  | nil => intro _; simp [sE]
                  | cons v us ih2 =>
                    intro hv
                    have := sE_app hg v 1 us.length us.flatten (by omega) (by omega) (hv v (by simp))
                    rw [List.flatten_cons, List.length_cons, show ((us.length + 1 : Nat) : Int) = 1 + (us.length : Int) by omega, this]
                    exact ih2 (fun w hw => hv w (by simp [hw]))
                unfold Tm sE
                rw [if_neg (by omega), if_neg hbn, ← hul, show (1 : Int) - 1 + (us.length : Int) = us.length by omega]
                exact kids us u3
              · rw [e, q2, bytesStr_cons, bytesStr_byte b (by omega), bytesStr_app, u4, q3]
                rfl
            by_cases h3 : ar a ((b.toNat : Int) - 97) ≤ 0
            · rw [if_pos h3] at h
              simp only [Rd.ok.injEq] at h
              have := fin [] h.1.symm (by rw [← h.2, show 1 + c1 = c1 + 1 by omega, List.take_succ_cons]; simp) (by rw [if_neg (by omega)]; rfl)
              exact ⟨this.1, this.2, by simp only [List.length_cons]; omega⟩
            · rw [if_neg h3] at h
              cases hd : r.drop c1 with
              | nil => rw [hd] at h; simp at h
              | cons b' r' =>
                rw [hd] at h
                simp only at h
                split at h
                · rename_i hb'
                  simp only [Rd.ok.injEq] at h
                  have := fin [b'] h.1.symm (by rw [← h.2, show 1 + c1 + 1 = (c1 + 1) + 1 by omega, List.take_succ_cons, List.take_add, hd]; simp) (by rw [if_pos (by omega), bytesStr_byte b' (by omega)])
                  exact ⟨this.1, this.2, by simp only [List.length_cons]; omega⟩
                · simp at h
        · simp at h

end Go.Proofs.YtffdfjilpleljaaCu.Ev
