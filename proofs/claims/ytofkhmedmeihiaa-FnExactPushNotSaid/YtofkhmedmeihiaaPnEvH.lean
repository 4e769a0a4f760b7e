/- The evaluator: operations that read. -/
import Derived.Test.YtofkhmedmeihiaaPnEvG
namespace Go.Proofs.YtofkhmedmeihiaaPn.Ev
open Go

section tables
variable {P : Program}
theorem info_of_underlying {t : TypeId} {d : TypeDesc} (h : P.underlying t = some d) : ∃ i, P.info? t = some i := by
  cases hi : P.info? t with
  | none => simp [Program.underlying, hi] at h
  | some i => exact ⟨i, rfl⟩
theorem info_of_sz {t : TypeId} (h : szP P t ≠ 0) : ∃ i, P.info? t = some i ∧ i.size = szP P t := by
  unfold szP at h ⊢
  cases hi : P.info? t with
  | none => simp [hi] at h
  | some i => exact ⟨i, rfl, by simp⟩
theorem run_sizeOf {t : TypeId} (h : szP P t ≠ 0) (w : World) : (sizeOf t).run P w = .ok (szP P t) w := by
  obtain ⟨i, hi, hs⟩ := info_of_sz h
  simp [sizeOf, typeInfo, hi, hs]
theorem run_isAgg {t : TypeId} (h : okP P t = true) (w : World) : (isAgg t).run P w = .ok (isAggP P t) w := by
  unfold okP at h
  obtain ⟨d, hd⟩ := Option.isSome_iff_exists.1 h
  unfold isAgg isAggP
  rw [Sem.run_bind, run_underlying hd w]
  simp only [Result.andThen, hd]
  cases d <;> rfl
theorem elemP_some {t te : TypeId} (h : elemP P t = some te) : P.underlying t = some (.slice te) := by
  unfold elemP at h
  split at h
  · rename_i e he; simp at h; subst h; exact he
  · cases h
end tables

theorem cell_of_in {w : World} {b off : Nat} {us : List Value} (h : cellsIn (memOf w) b off us) (j : Nat) (v : Value) (hj : us[j]? = some v) : w.cell? ⟨b, off + j, none⟩ = some v := by
  obtain ⟨c, T, fr, h1, h2⟩ := h
  have h1' : w.heap[b]? = some (.cells c T fr) := h1
  simp [World.cell?, h1', h2 j v hj]

theorem Addr.add_none (b off n : Nat) : (⟨b, off, none⟩ : Addr).add n = ⟨b, off + n, none⟩ := by
  unfold Addr.add; split
  · rename_i h; simp [h]
  · rfl

theorem run_loadVar {P : Program} {w : World} {t : TypeId} {b off : Nat} {us : List Value} (h : cellsIn (memOf w) b off us) (hok : okP P t = true) (hl : (us.take (szP P t)).length = szP P t) (h1 : isAggP P t = false → szP P t = 1) :
    ∃ u, (loadVar t ⟨b, off, none⟩).run P w = .ok u w ∧ (if isAggP P t = true then u = .agg ⟨us.take (szP P t)⟩ else us.take (szP P t) = [u]) := by
  cases hag : isAggP P t with
  | true =>
    refine ⟨.agg ⟨us.take (szP P t)⟩, ?_, by simp⟩
    have hlc := run_loadCells_list (P := P) w ⟨b, off, none⟩ (us.take (szP P t)) (fun j v hj => by
      rw [Addr.add_none]
      rw [List.getElem?_take] at hj
      split at hj
      · exact cell_of_in h j v hj
      · cases hj)
    rw [hl] at hlc
    have hs : (sizeOf t).run P w = .ok (szP P t) w := by
      unfold okP at hok
      obtain ⟨d, hd⟩ := Option.isSome_iff_exists.1 hok
      obtain ⟨i, hi⟩ := info_of_underlying hd
      simp [sizeOf, typeInfo, hi, szP]
    simp [loadVar, Sem.run_bind, run_isAgg hok, hag, hs, hlc]
  | false =>
    have h1' := h1 hag
    rw [h1'] at hl ⊢
    match us, hl with
    | u :: r, _ =>
      refine ⟨u, ?_, by simp⟩
      have := cell_of_in h 0 u rfl
      simp only [Nat.add_zero] at this
      simp [loadVar, Sem.run_bind, run_isAgg hok, hag, run_load, this]

/-- The cells at an address stand for what the evaluator finds there. -/
theorem cellsAt_ok {R : Type} {c : C} {s : Sto} {K : List C → List Nat → Option R} {r : R} (h : cellsAt c s K = some r) :
    ∃ cs m, K cs m = some r ∧ ∀ s' : Sto, (∀ i ∈ m, s' i = s i) → ∀ {mem : Mem} {N : Nat → Prop} {hd : Nat → Value} {F : Nat → List Nat} {size : Nat}, SInv mem N s' hd F size → ∀ v, RepC mem N s' hd c v →
      ∃ b off us, v = .pointer (some ⟨b, off, none⟩) ∧ RepCs mem N s' hd cs us ∧ cellsIn mem b off us := by
  cases c with
  | iptr τ x off =>
    simp only [cellsAt] at h
    split at h
    · rename_i hi
      refine ⟨_, _, h, fun s' _ mem N hd F size I v hv => ?_⟩
      obtain ⟨b, o, es, h1, h2, h3, h4⟩ := hv
      exact ⟨b, o + off, es.drop off, h1, (ex_rep hi h3).drop, h4.drop off⟩
    · cases h
  | bp id ver off =>
    simp only [cellsAt] at h
    split at h
    · rename_i v cs hs
      split at h
      · rename_i hv
        subst hv
        refine ⟨_, _, h, fun s' hs' mem N hd F size I u hu => ?_⟩
        have hid := hs' id (by simp)
        rw [hs] at hid
        have hob := I.obj id
        rw [hid] at hob
        obtain ⟨g, vs, T, h1, h2, h3, h4⟩ := hob
        obtain ⟨g', e1, e2⟩ := hu.2.2 (by rw [hid]) (by rw [hid]; rfl)
        rw [h1] at e1
        injection e1 with e1; injection e1 with e1; injection e1 with e1
        subst e1
        exact ⟨g, off, vs.drop off, e2, h3.drop, ⟨⟨vs⟩, T, (0, 0), h2, fun j w hj => by simpa using hj⟩⟩
      · cases h
    · rename_i v τ x hs
      split at h
      · rename_i hv
        obtain ⟨rfl, hi⟩ := hv
        refine ⟨_, _, h, fun s' hs' mem N hd F size I u hu => ?_⟩
        have hid := hs' id (by simp)
        rw [hs] at hid
        have hob := I.obj id
        rw [hid] at hob
        obtain ⟨_, ⟨_, b, o, es, h1, h2, h3, h4⟩, g, h5⟩ := hob
        obtain ⟨g', e1, e2⟩ := hu.2.2 (by rw [hid]) (by rw [hid]; rfl)
        have h1' : hd id = .pointer (some ⟨b, o, none⟩) := by simpa using h1
        rw [h1'] at e1
        injection e1 with e1; injection e1 with e1; injection e1 with e1 e3
        subst e1; subst e3
        exact ⟨b, off, es.drop off, e2, (ex_rep hi h3).drop, by have := h4.drop off; simpa using this⟩
      · cases h
    · cases h
  | ep id ver i off =>
    simp only [cellsAt] at h
    split at h
    · rename_i v e xs hs
      split at h
      · rename_i hv
        obtain ⟨rfl, hi⟩ := hv
        obtain ⟨x, hx, h⟩ := Option.bind_eq_some_iff.1 h
        refine ⟨_, _, h, fun s' hs' mem N hd F size I u hu => ?_⟩
        have hid := hs' id (by simp)
        rw [hs] at hid
        have hob := I.obj id
        rw [hid] at hob
        obtain ⟨g', len, cap, e1, e2⟩ := hu.2.2 (by rw [hid]) (by rw [hid]; rfl)
        rw [hid] at e2
        rcases hob with ⟨a, _, h2, _⟩ | ⟨g, cap', c, T, es, Fs, h1, h2, h3, h4, h5, h6, h7, h8, h9, h10⟩
        · subst h2; simp at hx
        · obtain ⟨hilt, hxi⟩ := List.getElem?_eq_some_iff.1 hx
          have h1' : hd id = .slice (some ⟨g, 0, none⟩) (List.length xs) cap' := by simpa using h1
          rw [h1'] at e1
          injection e1 with e1 _ _; injection e1 with e1; injection e1 with e1
          subst e1
          have h8' := h8 i hilt (by omega) (by omega)
          have hf := RepT.imm hi h8'
          rw [hf, hxi] at h8'
          have hlen : ∀ y ∈ es, y.length = e.sz := by
            intro y hy
            obtain ⟨j, hj, rfl⟩ := List.mem_iff_getElem.1 hy
            exact (h8 j (by omega) hj (by omega)).len
          refine ⟨g, i * e.sz + off, (es[i]'(by omega)).drop off, e2, (ex_rep hi h8').drop, ?_⟩
          have hc : cellsIn mem g 0 es.flatten := ⟨c, T, (0, 0), h2, fun j w hj => by
            rw [← h9, List.getElem?_take] at hj
            split at hj
            · simpa using hj
            · cases hj⟩
          have hc' := hc.drop (i * e.sz)
          rw [flatten_drop_of_len es i hlen, List.drop_eq_getElem_cons (by omega), List.flatten_cons, Nat.zero_add] at hc'
          have hc2 : cellsIn mem g (i * e.sz) (es[i]'(by omega)) := by
            obtain ⟨c', T', fr', k1, k2⟩ := hc'
            exact ⟨c', T', fr', k1, fun j w hj => k2 j w (by rw [List.getElem?_append_left (List.getElem?_eq_some_iff.1 hj).1]; exact hj)⟩
          exact hc2.drop off
      · cases h
    · cases h
  | _ => cases h

section
variable {E : Env} {O : Oracle E} {X : Ctx} {o : Oper} {st : St} {R : Type} {K : Eff → Option R} {r : R}

theorem one_some {st : St} {x : Operand} {k : C → Option R} (h : (match (st.eval x).one? with | some c => k c | none => none) = some r) : ∃ c, st.eval x = .one c ∧ k c = some r := by
  split at h
  · rename_i c hc
    cases hv : st.eval x with
    | one c' => rw [hv] at hc; simp [V.one?] at hc; subst hc; exact ⟨c', rfl, h⟩
    | _ => rw [hv] at hc; simp [V.one?] at hc
  · cases h

end

/-- A part of data, and what the data are with another part there. -/
theorem elem_split {m : Mem} {N : Nat → Prop} : ∀ (e : Ty) (x : e.den) (cs : List Value) (F : List Nat) (off : Nat) (σ : Ty) (ys : List σ.den), RepT m N e x cs F → getAt e x off = some ⟨σ, ys⟩ →
    ∃ v0 Fa G Fb, cs[off]? = some v0 ∧ F = Fa ++ (G ++ Fb) ∧ RepT m N (.own σ) ys [v0] G ∧
      ∀ (m' : Mem) (N' : Nat → Prop), (∀ b, N b → N' b ∧ m' b = m b) → (∀ k ∈ Fa ++ Fb, m' k = m k) → ∀ (σ' : Ty) (ys' : List σ'.den) (G' : List Nat) (x' : e.den), RepT m' N' (.own σ') ys' [v0] G' → setAt e x off σ' ys' = some x' → RepT m' N' e x' cs (Fa ++ (G' ++ Fb)) := by
  intro e
  induction e with
  | agg fs ih => intro x cs F off σ ys hr hg; exact ih x cs F off σ ys hr hg
  | own τ _ =>
    intro x cs F off σ ys hr hg
    cases off with
    | succ _ => cases hg
    | zero =>
      have hl := hr.len
      match cs, hl with
      | [v0], _ =>
        have hg' := Option.some.inj hg
        injection hg' with h1 h2
        subst h1
        obtain rfl := eq_of_heq h2
        refine ⟨v0, [], F, [], rfl, by simp, hr, fun m' N' _ _ σ' ys' G' x' hr' hs => ?_⟩
        simp only [setAt] at hs
        split at hs
        · rename_i hσ
          obtain rfl := Option.some.inj hs
          simpa using castDen_rep hσ hr'
        · cases hs
  | cons a r iha ihr =>
    intro x cs F off σ ys hr hg
    obtain ⟨c1, c2, F1, F2, rfl, rfl, h1, h2⟩ := hr
    have hl := h1.len
    by_cases ho : off < a.sz
    · simp only [getAt, if_pos ho] at hg
      obtain ⟨v0, Fa, G, Fb, k1, k2, k3, k4⟩ := iha x.1 c1 F1 off σ ys h1 hg
      refine ⟨v0, Fa, G, Fb ++ F2, by rw [List.getElem?_append_left (by omega)]; exact k1, by rw [k2]; simp, k3, fun m' N' hN hF σ' ys' G' x' hr' hs => ?_⟩
      simp only [setAt, if_pos ho] at hs
      split at hs
      · rename_i z hz
        obtain rfl := Option.some.inj hs
        exact ⟨c1, c2, Fa ++ (G' ++ Fb), F2, rfl, by simp, k4 m' N' hN (fun k hk => hF k (by
          rcases List.mem_append.1 hk with h | h
          · exact List.mem_append_left _ h
          · exact List.mem_append_right _ (List.mem_append_left _ h))) σ' ys' G' z hr' hz, RepT.mono hN (fun k hk => hF k (List.mem_append_right _ (List.mem_append_right _ hk))) h2⟩
      · cases hs
    · simp only [getAt, if_neg ho] at hg
      obtain ⟨v0, Fa, G, Fb, k1, k2, k3, k4⟩ := ihr x.2 c2 F2 (off - a.sz) σ ys h2 hg
      refine ⟨v0, F1 ++ Fa, G, Fb, by rw [List.getElem?_append_right (by omega), hl]; exact k1, by rw [k2]; simp, k3, fun m' N' hN hF σ' ys' G' x' hr' hs => ?_⟩
      simp only [setAt, if_neg ho] at hs
      split at hs
      · rename_i z hz
        obtain rfl := Option.some.inj hs
        exact ⟨c1, c2, F1, Fa ++ (G' ++ Fb), rfl, by simp, RepT.mono hN (fun k hk => hF k (List.mem_append_left _ (List.mem_append_left _ hk))) h1, k4 m' N' hN (fun k hk => hF k (by
          rcases List.mem_append.1 hk with h | h
          · exact List.mem_append_left _ (List.mem_append_right _ h)
          · exact List.mem_append_right _ h)) σ' ys' G' z hr' hz⟩
      · cases hs
  | _ => intro x cs F off σ ys hr hg; cases hg

theorem flatten_set {α : Type} (L : List (List α)) (i : Nat) (y : List α) (h : i < L.length) : (L.set i y).flatten = (L.take i).flatten ++ (y ++ (L.drop (i + 1)).flatten) := by
  rw [List.set_eq_take_append_cons_drop, if_pos h]; simp
theorem flatten_at {α : Type} (L : List (List α)) (i : Nat) (h : i < L.length) : L.flatten = (L.take i).flatten ++ (L[i] ++ (L.drop (i + 1)).flatten) := by
  conv => lhs; rw [← List.take_append_drop i L, List.drop_eq_getElem_cons h]
  rw [List.flatten_append, List.flatten_cons]

/-- A part of a row, and what the row is with another part there. -/
theorem row_split {m : Mem} {N : Nat → Prop} {e : Ty} {xs : List e.den} {h : Value} {F : List Nat} (hr : RepT m N (.own e) xs [h] F) {i off : Nat} {x : e.den} (hx : xs[i]? = some x) {σ : Ty} {ys : List σ.den} (hg : getAt e x off = some ⟨σ, ys⟩) :
    ∃ g cap c T v0 Fa G Fb, h = .slice (some ⟨g, 0, none⟩) (List.length xs) cap ∧ m g = some (.cells c T (0, 0)) ∧ c.toList[i * e.sz + off]? = some v0 ∧ F = Fa ++ (G ++ Fb) ∧ RepT m N (.own σ) ys [v0] G ∧ Wand m N e xs i off x h v0 Fa Fb := by
  obtain ⟨hi, rfl⟩ := List.getElem?_eq_some_iff.1 hx
  rcases hr with ⟨a, _, h2, _⟩ | ⟨g, cap, c, T, es, Fs, h1, h2, h3, h4, h5, h6, h7, h8, h9, rfl⟩
  · subst h2; simp at hi
  · have h1' : h = .slice (some ⟨g, 0, none⟩) (List.length xs) cap := by simpa using h1
    have hie : i < es.length := by omega
    have hiF : i < Fs.length := by omega
    obtain ⟨v0, Fa, G, Fb, k1, k2, k3, k4⟩ := elem_split e xs[i] es[i] Fs[i] off σ ys (h8 i hi hie hiF) hg
    have hlen : ∀ y ∈ es, y.length = e.sz := by
      intro y hy
      obtain ⟨j, hj, rfl⟩ := List.mem_iff_getElem.1 hy
      exact (h8 j (by omega) hj (by omega)).len
    have hoff : off < e.sz := by
      have := (List.getElem?_eq_some_iff.1 k1).1
      rwa [hlen _ (List.getElem_mem hie)] at this
    refine ⟨g, cap, c, T, v0, g :: ((Fs.take i).flatten ++ Fa), G, Fb ++ (Fs.drop (i + 1)).flatten, h1', h2, ?_, ?_, k3, fun m' N' hN hF σ' ys' G' x' hr' hs => ?_⟩
    · have hfl := flatten_len_of_len es hlen
      have hlt : i * e.sz + off < es.flatten.length := by
        rw [hfl]
        have : (i + 1) * e.sz ≤ es.length * e.sz := Nat.mul_le_mul_right _ (by omega)
        rw [Nat.add_mul] at this; omega
      have e1 : c.toList[i * e.sz + off]? = es.flatten[i * e.sz + off]? := by
        rw [← h9, List.getElem?_take, if_pos hlt]
      rw [e1, flatten_at es i hie]
      have hA : (es.take i).flatten.length = i * e.sz := by
        rw [flatten_len_of_len _ (fun y hy => hlen y (List.mem_of_mem_take hy)), List.length_take]
        congr 1; omega
      rw [List.getElem?_append_right (by omega), hA, Nat.add_sub_cancel_left, List.getElem?_append_left (by rw [hlen _ (List.getElem_mem hie)]; exact hoff)]
      exact k1
    · rw [flatten_at Fs i hiF, k2]; simp
    · refine .inr ⟨g, cap, c, T, es, Fs.set i (Fa ++ (G' ++ Fb)), by simpa using h1, by rw [hF g (by simp)]; exact h2, h3, by simpa using h4, h5, by simpa using h6, by simpa using h7, fun j hj hj' hj'' => ?_, h9, ?_⟩
      · have hj0 : j < List.length xs := by simpa using hj
        have hj2 : j < Fs.length := by simpa using hj''
        by_cases hji : j = i
        · subst hji
          simp only [List.getElem_set_self]
          exact k4 m' N' hN (fun k hk => hF k (by
            rcases List.mem_append.1 hk with h | h
            · exact List.mem_append_left _ (List.mem_cons_of_mem _ (List.mem_append_right _ h))
            · exact List.mem_append_right _ (List.mem_append_left _ h))) σ' ys' G' x' hr' hs
        · simp only [List.getElem_set_ne (Ne.symm hji)]
          refine RepT.mono hN (fun k hk => hF k ?_) (h8 j hj0 hj' hj2)
          by_cases hlt : j < i
          · refine List.mem_append_left _ (List.mem_cons_of_mem _ (List.mem_append_left _ (List.mem_flatten.2 ⟨Fs[j], ?_, hk⟩)))
            exact List.mem_iff_getElem.2 ⟨j, by rw [List.length_take]; omega, by simp⟩
          · refine List.mem_append_right _ (List.mem_append_right _ (List.mem_flatten.2 ⟨Fs[j], ?_, hk⟩))
            exact List.mem_iff_getElem.2 ⟨j - (i + 1), by rw [List.length_drop]; omega, by simp; congr 1; omega⟩
      · rw [flatten_set Fs i _ hiF]; simp

section
variable {E : Env} {O : Oracle E} {X : Ctx} {o : Oper} {st : St} {R : Type} {K : Eff → Option R} {r : R}

theorem good_load0 {t : TypeId} {x : Operand} (ho : o.op = .load t x) (hnb : ¬ (E.borrow (o.dst.getD 0) t = true ∧ deepEp (st.eval x) st.o = true)) (h : exOp E O o st K = some r) : ∃ e, K e = some r ∧ Good E X o st e := by
  simp only [exOp, ho] at h
  rw [if_neg hnb] at h
  obtain ⟨c, hc, h⟩ := one_some h
  obtain ⟨cs, m, h, hat⟩ := cellsAt_ok h
  split at h
  · rename_i hif
    obtain ⟨hok, hl, hs1⟩ := hif
    refine ⟨_, h, Good.val fun st' he hm a w N hd F I => ?_⟩
    have hx := I.eval x
    rw [he x (by rw [ho]; simp [Op.operands]), hc] at hx
    obtain ⟨b, off, us, e1, e2, e3⟩ := hat st'.o hm I.s _ hx
    have hlu : (us.take (szP E.P t)).length = szP E.P t := by
      have := e2.len; simp only [List.length_take] at hl ⊢; omega
    obtain ⟨u, hr, hu⟩ := run_loadVar e3 hok hlu hs1
    exact ⟨u, by simp [execOp, ho, Instr.loadAt, e1, Instr.sureAddr, hr], (ofCells_rep e2.take hu).1⟩
  · cases h

theorem good_move {x : Operand} (ho : o.op = .move x ∨ o.op = .assign x) (h : exOp E O o st K = some r) : ∃ e, K e = some r ∧ Good E X o st e := by
  have h' : K { v := st.eval x, s := st.o, r := [] } = some r := by
    rcases ho with ho | ho <;> (simp only [exOp, ho] at h; exact h)
  refine ⟨_, h', Good.val fun st' he hm a w N hd F I => ⟨a.eval x, by rcases ho with ho | ho <;> simp [execOp, ho], ?_⟩⟩
  rw [← he x (by rcases ho with ho | ho <;> (rw [ho]; simp [Op.operands]))]
  exact I.eval x

theorem good_pick {c x y : Operand} (ho : o.op = .pick c x y) (h : exOp E O o st K = some r) : ∃ e, K e = some r ∧ Good E X o st e := by
  simp only [exOp, ho] at h
  obtain ⟨d, hd, h⟩ := one_some h
  split at h
  · rename_i b
    refine ⟨_, h, Good.val fun st' he hm a w N hd' F I => ?_⟩
    have hc := I.eval c
    rw [he c (by rw [ho]; simp [Op.operands]), hd] at hc
    have hcv : a.eval c = .bool b := by simpa using hc.1
    have hx := I.eval x; have hy := I.eval y
    rw [he x (by rw [ho]; simp [Op.operands])] at hx
    rw [he y (by rw [ho]; simp [Op.operands])] at hy
    refine ⟨if b then a.eval x else a.eval y, by simp [execOp, ho, hcv, asBool], ?_⟩
    cases b
    · exact hy
    · exact hx
  · cases h

/-- A value out of one operand's. -/
theorem good_one {x : Operand} {c : C} (hc : st.eval x = .one c) (hx : x ∈ o.op.operands) {v : V} {s : Sto} {rd : List Nat}
    (h : ∀ {a : Act} {w : World} {N : Nat → Prop} {s' : Sto} {hd : Nat → Value} {F : Nat → List Nat}, (∀ i ∈ rd, s' i = st.o i) → SInv (memOf w) N s' hd F w.heap.size → RepC (memOf w) N s' hd c (a.eval x) →
      ∃ u, (execOp a.eval o).run E.P w = .ok (.value u) w ∧ RepV (memOf w) N s' hd v u) : Good E X o st { v, s, r := rd } := by
  refine Good.val fun st' he hm a w N hd' F I => ?_
  have h1 := I.eval x
  rw [he x hx, hc] at h1
  exact h hm I.s h1

theorem good_two {x y : Operand} {c d : C} (hc : st.eval x = .one c) (hx : x ∈ o.op.operands) (hd : st.eval y = .one d) (hy : y ∈ o.op.operands) {v : V} {s : Sto} {rd : List Nat}
    (h : ∀ {a : Act} {w : World} {N : Nat → Prop} {s' : Sto} {hd : Nat → Value} {F : Nat → List Nat}, (∀ i ∈ rd, s' i = st.o i) → SInv (memOf w) N s' hd F w.heap.size → RepC (memOf w) N s' hd c (a.eval x) → RepC (memOf w) N s' hd d (a.eval y) →
      ∃ u, (execOp a.eval o).run E.P w = .ok (.value u) w ∧ RepV (memOf w) N s' hd v u) : Good E X o st { v, s, r := rd } := by
  refine Good.val fun st' he hm a w N hd' F I => ?_
  have h1 := I.eval x
  rw [he x hx, hc] at h1
  have h2 := I.eval y
  rw [he y hy, hd] at h2
  exact h hm I.s h1 h2

theorem tree_node {mem : Mem} {N : Nat → Prop} {op v : Int} {l r : List Int} {kids : List Tree} {u : Value} (h : RepTree mem N (.mk op v l r kids) u) :
    ∃ b off es, u = .pointer (some ⟨b, off, none⟩) ∧ N b ∧ RepT mem N (.agg nodeTy) (op, v, l, r, kids, ()) es [] ∧ cellsIn mem b off es := by
  cases h with
  | mk _ _ _ _ _ b off lv rv a cap kvs hb hc hl hr hcap hlen hk hm =>
    exact ⟨b, off, _, rfl, hb, ⟨[_], _, [], [], rfl, rfl, ⟨rfl, rfl⟩, [_], _, [], [], rfl, rfl, ⟨rfl, rfl⟩, [_], _, [], [], rfl, rfl, hl.rep, [_], _, [], [], rfl, rfl, hr.rep, [_], [], [], [], rfl, rfl, RepT.of_trees hcap hlen hk hm, rfl, rfl⟩, hc⟩

theorem good_nilCheck {x : Operand} (ho : o.op = .nilCheck x) (h : exOp E O o st K = some r) : ∃ e, K e = some r ∧ Good E X o st e := by
  have hx : x ∈ o.op.operands := by rw [ho]; simp [Op.operands]
  have run : ∀ {a : Act} {w : World} {ad : Addr}, a.eval x = .pointer (some ad) → (execOp a.eval o).run E.P w = .ok (.value (a.eval x)) w := by
    intro a w ad h; simp [execOp, ho, h]
  simp only [exOp, ho] at h
  split at h
  · rename_i id v off hc
    split at h
    · rename_i hif
      refine ⟨_, h, good_one hc hx fun {a w N s' hd F} hm I hv => ?_⟩
      have hid := hm id (by simp)
      obtain ⟨g, e1, e2⟩ := hv.2.2 (by rw [hid]; exact hif.1) (by rw [hid]; exact hif.2)
      exact ⟨_, run e2, hv⟩
    · cases h
  · rename_i id v i off hc
    split at h
    · rename_i hif
      refine ⟨_, h, good_one hc hx fun {a w N s' hd F} hm I hv => ?_⟩
      have hid := hm id (by simp)
      obtain ⟨g, len, cap, e1, e2⟩ := hv.2.2 (by rw [hid]; exact hif.1) (by rw [hid]; exact hif.2)
      exact ⟨_, run e2, hv⟩
    · cases h
  · rename_i τ y off hc
    refine ⟨_, h, good_one hc hx fun {a w N s' hd F} hm I hv => ?_⟩
    have hv' := hv
    obtain ⟨b, o', es, h1, _⟩ := hv'
    exact ⟨_, run h1, hv⟩
  · rename_i y hc
    split at h
    · cases h
    · rename_i op v l r' kids
      refine ⟨_, h, good_one hc hx fun {a w N s' hd F} hm I hv => ?_⟩
      obtain ⟨_, u, hu, ht⟩ := hv
      obtain ⟨b, off, es, h1, h2, h3, h4⟩ := tree_node ht
      have e : a.eval x = .pointer (some ⟨b, off, none⟩) := by simp at hu; rw [hu, h1]
      exact ⟨_, run e, b, off, es, by rw [e]; rfl, h2, h3, h4⟩
  · cases h

theorem good_fieldAddr {t : TypeId} {x : Operand} {i : Nat} (ho : o.op = .fieldAddr t x i) (h : exOp E O o st K = some r) : ∃ e, K e = some r ∧ Good E X o st e := by
  have hx : x ∈ o.op.operands := by rw [ho]; simp [Op.operands]
  simp only [exOp, ho] at h
  split at h
  · cases h
  · rename_i f hf
    split at h
    · cases h
    · rename_i hsz
      have hfs : ∃ fs, E.P.underlying t = some (.struct fs) ∧ fs[i]? = some f := by
        unfold fieldsP at hf
        split at hf
        · rename_i fs hu; exact ⟨fs, hu, by simpa using hf⟩
        · simp at hf
      obtain ⟨fs, hu, hfi⟩ := hfs
      have run : ∀ {a : Act} {w : World} {b off : Nat}, a.eval x = .pointer (some ⟨b, off, none⟩) → (execOp a.eval o).run E.P w = .ok (.value (.pointer (some ⟨b, off + f.offset, none⟩))) w := by
        intro a w b off h
        simp [execOp, ho, h, Instr.fieldAt, run_underlying hu, hfi, Instr.sureAddr, fieldPlace, run_sizeOf hsz, hsz, Addr.add_none]
      obtain ⟨c, hc, h⟩ := one_some h
      split at h
      · rename_i id v off
        split at h
        · rename_i hif
          refine ⟨_, h, good_one hc hx fun {a w N s' hd F} hm I hv => ?_⟩
          have hid := hm id (by simp)
          obtain ⟨g, e1, e2⟩ := hv.2.2 (by rw [hid]; exact hif.1) (by rw [hid]; exact hif.2)
          exact ⟨_, run e2, hv.1, rfl, fun _ _ => ⟨g, e1, rfl⟩⟩
        · cases h
      · rename_i id v i' off
        split at h
        · rename_i hif
          refine ⟨_, h, good_one hc hx fun {a w N s' hd F} hm I hv => ?_⟩
          have hid := hm id (by simp)
          obtain ⟨g, len, cap, e1, e2⟩ := hv.2.2 (by rw [hid]; exact hif.1) (by rw [hid]; exact hif.2)
          exact ⟨_, run e2, hv.1, rfl, fun _ _ => ⟨g, len, cap, e1, by rw [Nat.add_assoc]⟩⟩
        · cases h
      · rename_i τ y off
        refine ⟨_, h, good_one hc hx fun {a w N s' hd F} hm I hv => ?_⟩
        obtain ⟨b, o', es, h1, h2, h3, h4⟩ := hv
        exact ⟨_, run h1, b, o', es, by rw [Nat.add_assoc], h2, h3, h4⟩
      · cases h

theorem good_field {t : TypeId} {x : Operand} {i : Nat} (ho : o.op = .field t x i) (h : exOp E O o st K = some r) : ∃ e, K e = some r ∧ Good E X o st e := by
  have hx : x ∈ o.op.operands := by rw [ho]; simp [Op.operands]
  simp only [exOp, ho] at h
  split at h
  · rename_i f cs hf hc
    split at h
    · rename_i hif
      obtain ⟨hok, hl, h1⟩ := hif
      have hfs : ∃ fs, E.P.underlying t = some (.struct fs) ∧ fs[i]? = some f := by
        unfold fieldsP at hf
        split at hf
        · rename_i fs hu; exact ⟨fs, hu, by simpa using hf⟩
        · simp at hf
      obtain ⟨fs, hu, hfi⟩ := hfs
      refine ⟨_, h, Good.val fun st' he hm a w N hd' F I => ?_⟩
      have hv := I.eval x
      rw [he x hx, hc] at hv
      obtain ⟨us, e1, e2⟩ := hv
      have e3 := (e2.drop (n := f.offset)).take (n := szP E.P f.type)
      have hlu : ((us.drop f.offset).take (szP E.P f.type)).length = szP E.P f.type := by rw [e3.len]; exact hl
      cases hag : isAggP E.P f.type with
      | true =>
        refine ⟨.agg ⟨(us.drop f.offset).take (szP E.P f.type)⟩, ?_, _, rfl, e3⟩
        have hs : (sizeOf f.type).run E.P w = .ok (szP E.P f.type) w := by
          unfold okP at hok
          obtain ⟨d, hd⟩ := Option.isSome_iff_exists.1 hok
          obtain ⟨i, hi⟩ := info_of_underlying hd
          simp [sizeOf, typeInfo, hi, szP]
        have hex : (us.toArray.extract f.offset (f.offset + szP E.P f.type)) = ((us.drop f.offset).take (szP E.P f.type)).toArray := by
          simp [List.extract_toArray]
        simp [execOp, ho, Instr.field, run_underlying hu, hfi, e1, asAgg, part, run_isAgg hok, hag, hs]
      | false =>
        have hs1 := h1 hag
        rw [hs1] at hlu e3
        have hg : ∃ u, us[f.offset]? = some u ∧ (us.drop f.offset).take 1 = [u] := by
          cases hd : us.drop f.offset with
          | nil => rw [hd] at hlu; simp at hlu
          | cons u rr =>
            refine ⟨u, ?_, rfl⟩
            have := List.getElem?_drop (xs := us) (i := f.offset) (j := 0)
            rw [hd] at this; simpa using this.symm
        obtain ⟨u, hg, ht⟩ := hg
        rw [ht] at e3
        refine ⟨u, ?_, by rw [hs1]; exact (ofCells_rep (ag := false) e3 (by simp)).1⟩
        simp [execOp, ho, Instr.field, run_underlying hu, hfi, e1, asAgg, part, run_isAgg hok, hag, hg]
    · cases h
  · cases h

theorem good_unOp {op : UnOp} {t : TypeId} {x : Operand} (ho : o.op = .unOp op t x) (h : exOp E O o st K = some r) : ∃ e, K e = some r ∧ Good E X o st e := by
  have hx : x ∈ o.op.operands := by rw [ho]; simp [Op.operands]
  simp only [exOp, ho] at h
  obtain ⟨c, hc, h⟩ := one_some h
  unfold unC at h
  split at h
  · refine ⟨_, h, good_one hc hx fun {a w N s' hd F} hm I hv => ⟨_, ?_, rfl, rfl⟩⟩
    have e := hv.1
    simp at e
    simp [execOp, ho, e, Op.unary]
  · rename_i k y
    refine ⟨_, h, good_one hc hx fun {a w N s' hd F} hm I hv => ⟨_, ?_, rfl, rfl⟩⟩
    have e := hv.1
    simp at e
    simp [execOp, ho, e, Op.unary, Op.intArith]
  · refine ⟨_, h, good_one hc hx fun {a w N s' hd F} hm I hv => ⟨.int _ (bitsI .xor _ _ _), ?_, rfl, rfl⟩⟩
    have e := hv.1
    simp at e
    simp [execOp, ho, e, Op.unary, Op.intBits, bitsI]
  · cases h

theorem good_extract {x : Operand} {i : Nat} (ho : o.op = .extract x i) (h : exOp E O o st K = some r) : ∃ e, K e = some r ∧ Good E X o st e := by
  have hx : x ∈ o.op.operands := by rw [ho]; simp [Op.operands]
  simp only [exOp, ho] at h
  split at h
  · rename_i vs hc
    split at h
    · rename_i ag cs hg
      refine ⟨_, h, Good.val fun st' he hm a w N hd' F I => ?_⟩
      have hv := I.eval x
      rw [he x hx, hc] at hv
      obtain ⟨us, e1, e2⟩ := hv
      have key : ∀ (vs : List (Bool × List C)) (us : List Value) (i : Nat), RepPs (memOf w) N st'.o hd' vs us → vs[i]? = some (ag, cs) → ∃ u, us[i]? = some u ∧ RepP (memOf w) N st'.o hd' (ag, cs) u := by
        intro vs
        induction vs with
        | nil => intro us i _ h; simp at h
        | cons p vs ih =>
          intro us i hr h
          cases us with
          | nil => exact hr.elim
          | cons u us =>
            cases i with
            | zero => simp at h; subst h; exact ⟨u, rfl, hr.1⟩
            | succ i => simp at h; simpa using ih us i hr.2 h
      obtain ⟨u, hu, hp⟩ := key vs us i e2 hg
      refine ⟨u, by simp [execOp, ho, e1, Instr.extract, hu], ?_⟩
      cases ag with
      | true => exact hp
      | false =>
        match cs, hp with
        | [c], hp => exact hp
    · cases h
  · cases h
end

end Go.Proofs.YtofkhmedmeihiaaPn.Ev
