/- Plain laws: a clause is read back from its text, and what was read is written back; ReadClause of both programs. No condition but sizes. -/
import Derived.Test.YtffdfjilpleljaaCuPRd
namespace Go.Proofs.YtffdfjilpleljaaCu.Ev
open Go
set_option autoImplicit false
set_option linter.unusedVariables false
set_option linter.unusedSimpArgs false

theorem ctx_false {a : List Int} {ls : List TLit} (h : 0 < ls.length) : ctx a false ls = 124 :: ctx a true ls := by
  cases ls with
  | nil => simp at h
  | cons x r => simp [ctx]
theorem sgn_eq {b : UInt8} (h : b.toNat = 61 ∨ b.toNat = 35) : (if ((b.toNat : Int) == 61) = true then [61] else [35] : List UInt8) = [b] := by
  rcases h with h | h
  · rw [if_pos (by simp [h])]
    obtain rfl : b = 61 := UInt8.toNat_inj.1 h
    rfl
  · rw [if_neg (by simp [h])]
    obtain rfl : b = 35 := UInt8.toNat_inj.1 h
    rfl

theorem rdL_inv {a : List Int} (hg : gS a = true) {F : Nat} : ∀ (k : Nat) (r : List UInt8) (ls : List TLit) (c : Nat), r.length ≤ 1000 → rdL a F k r = .ok ls c → (∀ x ∈ ls, smL x) ∧ r = ctx a true ls := by
  intro k
  induction k with
  | zero => intro r ls c _ h; simp [rdL] at h
  | succ k ih =>
    intro r ls c hr h
    simp only [rdL] at h
    cases hr1 : rdT a F r with
    | bad c => rw [hr1] at h; simp at h
    | ok l c1 =>
      rw [hr1] at h
      obtain ⟨a1, a2, a3⟩ := rdT_inv hg F r l c1 hr hr1
      have l1 := (rdT_le (a := a) F r).2 l c1 hr1
      simp only at h
      cases hd : r.drop c1 with
      | nil => rw [hd] at h; simp at h
      | cons b r1 =>
        rw [hd] at h
        have hl := congrArg List.length hd
        simp only [List.length_drop, List.length_cons] at hl
        simp only at h
        have e1 : r = tx a l ++ b :: r1 := by
          rw [tx, ← a2, ← hd, List.take_append_drop]
        by_cases hb : b.toNat = 61 ∨ b.toNat = 35
        · rw [if_pos hb] at h
          cases hr2 : rdT a F r1 with
          | bad c => rw [hr2] at h; simp at h
          | ok t c2 =>
            rw [hr2] at h
            obtain ⟨b1, b2, b3⟩ := rdT_inv hg F r1 t c2 (by omega) hr2
            have l2 := (rdT_le (a := a) F r1).2 t c2 hr2
            simp only at h
            cases hd2 : r1.drop c2 with
            | nil =>
              rw [hd2] at h
              simp only [Rd.ok.injEq] at h
              rw [← h.1]
              refine ⟨by intro x hx; simp only [List.mem_singleton] at hx; subst hx; exact ⟨by simp only; omega, by simp only; omega⟩, ?_⟩
              have e2 : r1 = tx a t := by rw [tx, ← b2]; conv => lhs; rw [← List.take_append_drop c2 r1, hd2]; simp
              rw [e1, e2]
              simp only [ctx]
              rw [sgn_eq hb]
              simp
            | cons bb r2 =>
              rw [hd2] at h
              have hl2 := congrArg List.length hd2
              simp only [List.length_drop, List.length_cons] at hl2
              simp only at h
              split at h
              · rename_i hbb
                cases hr3 : rdL a F k r2 with
                | bad c => rw [hr3] at h; simp at h
                | ok ls3 c3 =>
                  rw [hr3] at h
                  simp only [Rd.ok.injEq] at h
                  obtain ⟨i1, i2⟩ := ih r2 ls3 c3 (by omega) hr3
                  have hp := ((rdL_le (a := a) (F := F) k r2).2 ls3 c3 hr3).2.2.1
                  rw [← h.1]
                  refine ⟨by
                    intro x hx
                    simp only [List.mem_cons] at hx
                    rcases hx with rfl | hx
                    · exact ⟨by simp only; omega, by simp only; omega⟩
                    · exact i1 x hx, ?_⟩
                  have e2 : r1 = tx a t ++ bb :: r2 := by rw [tx, ← b2, ← hd2, List.take_append_drop]
                  obtain rfl : bb = 124 := UInt8.toNat_inj.1 hbb
                  rw [e1, e2]
                  conv => lhs; rw [i2]
                  simp only [ctx]
                  rw [sgn_eq hb, ctx_false hp]
                  simp
              · simp at h
        · rw [if_neg hb] at h; simp at h

theorem tx_ge {a u : List Int} (hg : gS a = true) (h : isT a u = true) : u.length ≤ (tx a u).length := by
  simp only [isT, Bool.and_eq_true, decide_eq_true_eq] at h
  rw [tx, bytesStr_len]
  exact (back_all hg 40 u h.1 (by omega) h.2).1
theorem rdT_tx {a u : List Int} (hg : gS a = true) (h : isT a u = true) (f : Nat) (post : List UInt8) (hf : u.length ≤ f) : rdT a f (tx a u ++ post) = .ok u (tx a u).length := by
  simp only [isT, Bool.and_eq_true, decide_eq_true_eq] at h
  rw [tx, bytesStr_len]
  exact (back_all hg 40 u h.1 (by omega) h.2).2 f post hf

theorem rdL_ctx {a : List Int} (hg : gS a = true) {F : Nat} : ∀ (ls : List TLit) (k : Nat), 0 < ls.length → ls.length ≤ k → (∀ x ∈ ls, litOK a x = true) → (ctx a true ls).length ≤ F → rdL a F k (ctx a true ls) = .ok ls (ctx a true ls).length := by
  intro ls
  induction ls with
  | nil => intro k h; simp at h
  | cons x ls ih =>
    intro k _ hk hx hF
    cases k with
    | zero => simp at hk
    | succ k =>
      have h1 := hx x (by simp)
      simp only [litOK, Bool.and_eq_true] at h1
      have g1 := tx_ge hg h1.1
      have g2 := tx_ge hg h1.2
      obtain ⟨b, hb1, hb2, hb3⟩ : ∃ b : UInt8, (if x.1 = true then [61] else [35] : List UInt8) = [b] ∧ (b.toNat = 61 ∨ b.toNat = 35) ∧ ((b.toNat : Int) == 61) = x.1 := by
        cases x.1 with
        | true => exact ⟨61, rfl, .inl rfl, rfl⟩
        | false => exact ⟨35, rfl, .inr rfl, rfl⟩
      have e : ctx a true (x :: ls) = tx a x.2.1 ++ (b :: (tx a x.2.2.1 ++ ctx a false ls)) := by
        simp only [ctx]; rw [hb1]; simp
      rw [e] at hF ⊢
      simp only [List.length_append, List.length_cons] at hF
      simp only [rdL]
      rw [rdT_tx hg h1.1 F _ (by omega)]
      simp only
      rw [List.drop_left]
      simp only
      rw [if_pos hb2, rdT_tx hg h1.2 F _ (by omega)]
      simp only
      rw [List.drop_left]
      by_cases h0 : 0 < ls.length
      · rw [ctx_false h0] at hF ⊢
        simp only [List.length_cons] at hF hk
        have i := ih k h0 (by omega) (fun y hy => hx y (by simp [hy])) (by omega)
        simp only
        rw [if_pos (by rfl), i]
        simp only [hb3, lit_eta, List.length_append, List.length_cons]
        congr 1; omega
      · obtain rfl : ls = [] := List.eq_nil_of_length_eq_zero (by omega)
        simp only [ctx, hb3, lit_eta, List.length_append, List.length_cons, List.length_nil]
        congr 1; omega

/-! ### ReadClause -/
/-- A whole text. -/
def rdC (a : List Int) (X : List UInt8) : Rd (List TLit) := if X = [45] then .ok [] 1 else if X.head? = some 45 then .bad 1 else rdL a (X.length + 1) (X.length + 1) X
def RC (a : List Int) (X : List UInt8) : (List TLit × Int × Bool × Unit) × Unit := if gS a = true ∧ X.length ≤ 1000 then
    match rdC a X with
    | .bad c => (([], (c : Int), false, ()), ())
    | .ok ls c => if clOK a ls = true then ((ls, (X.length : Int), true, ()), ()) else (([], 0, false, ()), ())
  else (([], 0, false, ()), ())

theorem rdC_ok {a : List Int} (hg : gS a = true) {X : List UInt8} (hX : X.length ≤ 1000) {ls : List TLit} {c : Nat} (h : rdC a X = .ok ls c) : c = X.length ∧ ls.length ≤ 1000 ∧ (∀ x ∈ ls, smL x) ∧ X = clt a ls := by
  unfold rdC at h
  split at h
  · rename_i h1
    simp only [Rd.ok.injEq] at h
    rw [← h.1, ← h.2, h1]
    exact ⟨rfl, by simp, by simp, rfl⟩
  · split at h
    · simp at h
    · have h1 := (rdL_le (a := a) (F := X.length + 1) (X.length + 1) X).2 ls c h
      have h2 := rdL_inv hg (X.length + 1) X ls c hX h
      refine ⟨h1.1, by omega, h2.1, ?_⟩
      rw [clt, if_neg (by omega)]
      exact h2.2
theorem rdC_bad {a : List Int} {X : List UInt8} {c : Nat} (h : rdC a X = .bad c) : c ≤ X.length := by
  unfold rdC at h
  split at h
  · simp at h
  · split at h
    · rename_i h1
      simp only [Rd.bad.injEq] at h
      cases X with
      | nil => simp at h1
      | cons b r => simp; omega
    · have h1 := (rdL_le (a := a) (F := X.length + 1) (X.length + 1) X).1
      rw [h] at h1
      exact h1

theorem p_l4Read {a : List Int} (hg : gS a = true) (X : List UInt8) (hX : X.length ≤ 1000) : c_spec_l4Read M (a, ()) X = some (spL 0 [] (rdC a X)) := by
  apply e_spec_l4Read
  simp only [q_spec_l4Read]
  unfold rdC
  by_cases h1 : X = [45]
  · subst h1
    rw [if_pos (by rfl), if_pos rfl]
    rfl
  · rw [if_neg (by simpa using h1), if_neg h1]
    have hl := p_l4Read_loop hg X hX (X.length + 1) (by omega) (X.length + 1) 0 [] (by omega) (by omega) (by simp)
    rw [List.drop_zero, show ((0 : Nat) : Int) = 0 from rfl] at hl
    rw [hl]
    cases X with
    | nil =>
      rw [if_neg (by simp), if_neg (by simp)]
      rfl
    | cons b r =>
      rw [if_pos (by simp), show idx (b :: r) 0 = some b from by simp [idx]]
      simp only [Option.bind_some]
      by_cases hb : b = 45
      · subst hb
        rw [if_pos (by rfl), if_pos (by rfl)]
        rfl
      · rw [if_neg (fun hh => hb (by
          simp only [beq_iff_eq] at hh
          exact UInt8.toNat_inj.1 (by show b.toNat = 45; omega))), if_neg (by simpa using hb)]
        rfl
theorem p_spec_ReadClause (s : TSign) (hs : s.1.length ≤ 1048576) (X : List UInt8) : c_spec_ReadClause M s X = some (RC s.1 X) := by
  apply e_spec_ReadClause
  simp only [q_spec_ReadClause, sign_eta, p_spec_GoodSign s (by omega), Option.bind_some]
  unfold RC
  cases hg : gS s.1 with
  | false => rw [if_pos (by rfl), if_neg (by simp)]
  | true =>
    rw [if_neg (by simp)]
    by_cases hX : X.length ≤ 1000
    · have hr := p_l4Read hg X hX
      rw [if_neg (by simp; omega), if_pos ⟨rfl, hX⟩]
      cases hc : rdC s.1 X with
      | bad c =>
        rw [hc] at hr
        simp only [spL, Nat.zero_add] at hr
        have hr' : c_spec_l4Read M s X = _ := hr
        rw [hr']
        rfl
      | ok ls c =>
        obtain ⟨c1, c2, c3, c4⟩ := rdC_ok hg hX hc
        rw [hc] at hr
        simp only [spL, Nat.zero_add, List.nil_append] at hr
        have hr' : c_spec_l4Read M s X = _ := hr
        rw [hr']
        simp only [Option.bind_some]
        rw [if_neg (by simp), p_l4Clause s hg ls (by omega) c3]
        simp only [Option.bind_some]
        cases clOK s.1 ls with
        | false => rfl
        | true => rw [if_neg (by simp), if_pos rfl, c1]
    · rw [if_pos (by simp; omega), if_neg (fun h => hX h.2)]

theorem p_impl_clause {a : List Int} (hg : gS a = true) (X : List UInt8) (hX : X.length ≤ 1000) : ∃ r, c_impl_parser_clause M (mkP a X 0 false) = some r ∧ (match rdC a X with
    | .bad c => ∃ b, r.2.1 = mkP a X c b ∧ (b = true ∨ c < X.length)
    | .ok ls c => r = ((ls, ()), (mkP a X c false, ()))) := by
  have hn := p_nextP a X 0 false
  have hn' : c_impl_parser_next M (((mkP a X 0 false).1.1, ()), (mkP a X 0 false).2.1, (mkP a X 0 false).2.2.1, (mkP a X 0 false).2.2.2.1, (mkP a X 0 false).2.2.2.2.1, ()) = some (((nx X 0 false : Int), ()), (mkP a X 0 false, ())) := hn
  have hl := p_clause_loop hg X hX (X.length + 1) (by omega) (X.length + 1) 0 [] (by omega) (by omega) (by simp)
  rw [List.drop_zero] at hl
  by_cases h45 : nx X 0 false = 45
  · refine ⟨(([], ()), (mkP a X 1 false, ())), e_impl_parser_clause _ ?_, ?_⟩
    · simp only [q_impl_parser_clause]
      rw [hn']
      simp only [Option.bind_some]
      rw [if_pos (by simp [h45])]
      rfl
    · cases X with
      | nil => simp [nx] at h45
      | cons b r =>
        simp only [nx, List.getElem?_cons_zero, Bool.false_eq_true, if_false] at h45
        obtain rfl : b = 45 := UInt8.toNat_inj.1 h45
        unfold rdC
        by_cases hr : r = []
        · subst hr
          rw [if_pos rfl]
        · rw [if_neg (by simpa using hr), if_pos (by rfl)]
          refine ⟨false, rfl, .inr ?_⟩
          have := List.length_pos_iff.2 hr
          simp; omega
  · obtain ⟨r, r1, r2⟩ := hl
    refine ⟨r, e_impl_parser_clause _ ?_, ?_⟩
    · simp only [q_impl_parser_clause]
      rw [hn']
      simp only [Option.bind_some]
      rw [if_neg (by simp; omega)]
      have r1' : l_impl_parser_clause_30 M ((mkP a X 0 false).1.1, (mkP a X 0 false).2.1, (mkP a X 0 false).2.2.1, (mkP a X 0 false).2.2.2.1, (mkP a X 0 false).2.2.2.2.1, ()) [] = some (.inr r) := r1
      rw [r1']
      rfl
    · have hh : X.head? ≠ some 45 := by
        intro hh
        cases X with
        | nil => simp at hh
        | cons b r =>
          simp only [List.head?_cons, Option.some.injEq] at hh
          subst hh
          exact h45 (by simp [nx])
      have hne : X ≠ [45] := by rintro rfl; exact hh rfl
      unfold rdC
      rw [if_neg hne, if_neg hh]
      cases hc : rdL a (X.length + 1) (X.length + 1) X with
      | bad c =>
        rw [hc] at r2
        simpa only [imL, Nat.zero_add] using r2
      | ok ls c =>
        rw [hc] at r2
        simpa only [imL, Nat.zero_add, List.nil_append] using r2
theorem p_impl_ReadClause (s : TSign) (hs : s.1.length ≤ 1048576) (X : List UInt8) : c_impl_ReadClause M s X = some (RC s.1 X) := by
  apply e_impl_ReadClause
  simp only [q_impl_ReadClause, sign_eta, p_impl_GoodSign s (by omega), Option.bind_some]
  unfold RC
  cases hg : gS s.1 with
  | false => rw [if_pos (by rfl), if_neg (by simp)]
  | true =>
    rw [if_neg (by simp)]
    by_cases hX : X.length ≤ 1000
    · obtain ⟨⟨⟨l, ⟨⟩⟩, ⟨p, ⟨⟩⟩⟩, r1, r2⟩ := p_impl_clause hg X hX
      have r1' : c_impl_parser_clause M (s, X, 0, 12, false, ()) = some ((l, ()), (p, ())) := r1
      rw [if_neg (by simp; omega), if_pos ⟨rfl, hX⟩, r1']
      simp only [Option.bind_some]
      cases hc : rdC s.1 X with
      | bad c =>
        rw [hc] at r2
        obtain ⟨b, b1, b2⟩ := r2
        simp only at b1
        subst b1
        have hd : c_impl_parser_done M (mkP s.1 X c b) = some ((false, ()), (mkP s.1 X c true, ())) := by
          apply e_impl_parser_done
          simp only [q_impl_parser_done]
          cases b with
          | true => rfl
          | false =>
            simp only [Bool.false_eq_true, false_or] at b2
            rw [if_neg (by simp)]
            simp [b2]
        have hd' : c_impl_parser_done M ((mkP s.1 X c b).1, (mkP s.1 X c b).2.1, (mkP s.1 X c b).2.2.1, (mkP s.1 X c b).2.2.2.1, (mkP s.1 X c b).2.2.2.2.1, ()) = some ((false, ()), (mkP s.1 X c true, ())) := hd
        rw [hd']
        rfl
      | ok ls c =>
        obtain ⟨c1, c2, c3, c4⟩ := rdC_ok hg hX hc
        rw [hc] at r2
        simp only [Prod.mk.injEq, and_true] at r2
        obtain ⟨rfl, rfl⟩ := r2
        have hd : c_impl_parser_done M (mkP s.1 X c false) = some ((true, ()), (mkP s.1 X c false, ())) := by
          apply e_impl_parser_done
          simp only [q_impl_parser_done]
          rw [if_neg (by simp)]
          simp [c1]
        have hd' : c_impl_parser_done M ((mkP s.1 X c false).1, (mkP s.1 X c false).2.1, (mkP s.1 X c false).2.2.1, (mkP s.1 X c false).2.2.2.1, (mkP s.1 X c false).2.2.2.2.1, ()) = some ((true, ()), (mkP s.1 X c false, ())) := hd
        rw [hd']
        simp only [Option.bind_some]
        rw [if_neg (by simp), p_isClause s hg l (by omega)]
        simp only [Option.bind_some]
        cases clOK s.1 l with
        | false => rfl
        | true => rfl
    · rw [if_pos (by simp; omega), if_neg (fun h => hX h.2)]

/-- A text that was written is read back. -/
theorem RC_clt {a : List Int} (hg : gS a = true) {c : List TLit} (hc : clOK a c = true) (hl : (clt a c).length ≤ 1000) : RC a (clt a c) = ((c, ((clt a c).length : Int), true, ()), ()) := by
  have hc' := hc
  simp only [clOK, Bool.and_eq_true, decide_eq_true_eq] at hc'
  unfold RC
  rw [if_pos ⟨hg, hl⟩]
  have : rdC a (clt a c) = .ok c (clt a c).length := by
    by_cases h0 : c.length = 0
    · obtain rfl : c = [] := List.eq_nil_of_length_eq_zero h0
      rfl
    · have e : clt a c = ctx a true c := by rw [clt, if_neg h0]
      rw [e] at hl ⊢
      have hk : c.length ≤ (ctx a true c).length + 1 := by
        have : ∀ (c : List TLit) (f : Bool), c.length ≤ (ctx a f c).length := by
          intro c
          induction c with
          | nil => intro f; simp
          | cons x r ih =>
            intro f
            have := ih false
            simp only [ctx, List.length_append, List.length_cons]
            split <;> split <;> simp <;> omega
        have := this c true
        omega
      have h1 := rdL_ctx hg (F := (ctx a true c).length + 1) c ((ctx a true c).length + 1) (by omega) hk (fun x hx => (List.all_eq_true.1 hc'.2) x hx) (by omega)
      have h2 := (rdL_le (a := a) (F := (ctx a true c).length + 1) ((ctx a true c).length + 1) (ctx a true c)).2 _ _ h1
      unfold rdC
      rw [if_neg (fun hh => h2.2.2.2 (by rw [hh]; rfl)), if_neg h2.2.2.2, h1]
  rw [this]
  simp only
  rw [if_pos hc]

/-- Texts of clauses, told whole. -/
theorem p_CTs (s : TSign) (hs : s.1.length ≤ 1048576) (c : List TLit) (hc : c.length ≤ 1048576) (hx : ∀ x ∈ c, smL x) : c_spec_ClauseText M s c = some (((if (gS s.1 && clOK s.1 c) = true then clt s.1 c else [], (gS s.1 && clOK s.1 c), ()), ())) ∧ c_impl_ClauseText M s c = some (((if (gS s.1 && clOK s.1 c) = true then clt s.1 c else [], (gS s.1 && clOK s.1 c), ()), ())) := by
  cases h : (gS s.1 && clOK s.1 c) with
  | false =>
    refine ⟨e_spec_ClauseText _ _ ?_, e_impl_ClauseText _ _ ?_⟩
    · simp only [q_spec_ClauseText, sign_eta, p_spec_GoodClause s hs c hc hx, h, Option.bind_some]; rfl
    · simp only [q_impl_ClauseText, sign_eta, p_impl_GoodClause s hs c hc, h, Option.bind_some]; rfl
  | true =>
    have h' := h
    simp only [Bool.and_eq_true] at h'
    refine ⟨e_spec_ClauseText _ _ ?_, e_impl_ClauseText _ _ ?_⟩
    · simp only [q_spec_ClauseText, sign_eta, p_spec_GoodClause s hs c hc hx, h, Option.bind_some, p_l4Text s h'.1 c h'.2]; rfl
    · simp only [q_impl_ClauseText, sign_eta, p_impl_GoodClause s hs c hc, h, Option.bind_some, p_clauseText s h'.1 c h'.2]; rfl

end Go.Proofs.YtffdfjilpleljaaCu.Ev
