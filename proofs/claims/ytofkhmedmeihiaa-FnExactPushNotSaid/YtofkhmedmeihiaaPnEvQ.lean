/- The evaluator: the append operation. -/
import Derived.Test.YtofkhmedmeihiaaPnEvP
namespace Go.Proofs.YtofkhmedmeihiaaPn.Ev
open Go

theorem RepT.own_take {m : Mem} {N : Nat → Prop} {e : Ty} (he : e.isImm = true) {xs : List e.den} {v : Value} {F : List Nat} (h : RepT m N (.own e) xs [v] F) {hi : Nat} (hh : hi ≤ xs.length) : RepT m N (.own e) (xs.take hi) [subV v e.sz 0 hi] F := by
  rcases h with ⟨a, h1, h2, h3⟩ | ⟨g, cap, c, T, es, Fs, h1, h2, h3, h4, h5, h6, h7, h8, h9, h10⟩
  · subst h2
    have hv : v = .slice a 0 0 := by simpa using h1
    simp at hh; subst hh
    exact .inl ⟨a, by rw [hv]; simp [subV], by simp, h3⟩
  · have hv : v = .slice (some ⟨g, 0, none⟩) (List.length xs) cap := by simpa using h1
    have hlt : List.length (xs.take hi) = hi := by rw [List.length_take]; omega
    have hlen : ∀ y ∈ es, y.length = e.sz := by
      intro y hy
      obtain ⟨j, hj, rfl⟩ := List.mem_iff_getElem.1 hy
      exact (h8 j (by omega) hj (by omega)).len
    have hFs : ∀ l ∈ Fs, l = [] := by
      intro l hl
      obtain ⟨j, hj, rfl⟩ := List.mem_iff_getElem.1 hl
      exact RepT.imm he (h8 j (by omega) (by omega) hj)
    have hf0 : ∀ L : List (List Nat), (∀ l ∈ L, l = []) → L.flatten = [] := by
      intro L hL
      apply List.eq_nil_iff_forall_not_mem.2
      intro k hk
      obtain ⟨l, hl, hk⟩ := List.mem_flatten.1 hk
      rw [hL l hl] at hk; simp at hk
    refine .inr ⟨g, cap, c, T, es.take hi, Fs.take hi, ?_, h2, h3, by omega, h5, by rw [List.length_take, hlt]; omega, by rw [List.length_take, hlt]; omega, fun i hi1 hi2 hi3 => ?_, ?_, ?_⟩
    · rw [hv, hlt]
      by_cases hc : cap = 0 <;> simp [subV, hc, Addr.add_none]
    · have := h8 i (by omega) (by rw [List.length_take] at hi2; omega) (by rw [List.length_take] at hi3; omega)
      simpa using this
    · have e1 := flatten_take_of_len es hi hlen
      have h12 : es.flatten.length ≤ c.toList.length := by
        have := congrArg List.length h9
        rw [List.length_take] at this; omega
      rw [← e1]
      conv => rhs; rw [← h9]
      rw [List.take_take, List.length_take]
    · rw [h10, hf0 Fs hFs, hf0 (Fs.take hi) (fun l hl => hFs l (List.mem_of_mem_take hl))]

section
variable {E : Env} {O : Oracle E} {X : Ctx} {o : Oper} {st : St} {R : Type} {K : Eff → Option R} {r : R}

/-- An object gets a new version over a row that was appended to. -/
theorem left_row {st' : St} {w w' : World} {N : Nat → Prop} {hd : Nat → Value} {F : Nat → List Nat} (I : SInv (memOf w) N st'.o hd F w.heap.size) {id ver : Nat} {e : Ty} {xs : List e.den} {v' : Value} {G G' W : List Nat} {s0 : Sto} {rd : List Nat}
    (hver : (st'.o id).1 < ver) (hG : ∀ k ∈ G, k ∈ F id) (hmv : Moves w w' W) (hW : ∀ k ∈ W, k ∈ G) (hr : RepT (memOf w') N (.own e) xs [v'] G') (hG' : ∀ k ∈ G', (k ∈ G ∧ k < w'.heap.size) ∨ (w.heap.size ≤ k ∧ k < w'.heap.size)) (hnd : G'.Nodup) :
    ∃ s' N' hd' F', Left X st' { v := .one (.own id ver), s := s0.set id (ver, .vec e xs), w := [id], r := rd } w N hd F v' w' W s' N' hd' F' := by
  have hmN : ∀ b, N b → memOf w' b = memOf w b := fun b hb => hmv.block b (I.ltN b hb) (fun h => I.sep id b (hG b (hW b h)) hb)
  have hgo : Goes st'.o (st'.o.set id (ver, .vec e xs)) hd (fun i => if i = id then v' else hd i) := Goes.set_new id ver _ hver (fun i hi => by simp [hi])
  have hone := RepT.one' hr v' (by simp)
  refine ⟨st'.o.set id (ver, .vec e xs), N, _, _, fun i hi => ?_, fun i hi => ?_, hmv, fun k hk => ⟨id, hG k (hW k hk)⟩, I.upd (m' := memOf w') (N' := N) (hd' := fun i => if i = id then v' else hd i) id (ver, .vec e xs) G' hmv.size (fun b hb => ⟨hb, hmN b hb⟩) (fun k hk => ⟨Nat.lt_of_lt_of_le (I.ltN k hk) hmv.size, fun i _ hi => I.sep i k hi hk, fun h => ?_⟩)
    (fun i hi k hk => hmv.block k (I.ltF i k hk) (fun h => hi (I.once i id k hk (hG k (hW k h))))) hnd (fun k hk => ⟨?_, fun i hi h => ?_⟩) hgo (fun i hi => by simp [hi]) (by simp only [if_true]; exact hr), fun _ h => h, hgo, fun _ h => .inl h, fun i k hk => ?_, ?_⟩
  · simp at hi; subst hi
    show _ = (s0.set _ _) _
    rw [Sto.set_same, Sto.set_same]
  · simp at hi
    exact Sto.set_ne _ _ hi
  · rcases hG' k h with h' | h'
    · exact I.sep id k (hG k h'.1) hk
    · have := I.ltN k hk; omega
  · rcases hG' k hk with h' | h'
    · exact h'.2
    · exact h'.2
  · rcases hG' k hk with h' | h'
    · exact hi (I.once i id k h (hG k h'.1))
    · have := I.ltF i k h; omega
  · by_cases h : i = id
    · simp only [h, if_true] at hk
      rcases hG' k hk with h' | h'
      · exact .inl ⟨id, hG k h'.1⟩
      · exact .inr h'.1
    · simp only [h, if_false] at hk
      exact .inl ⟨i, hk⟩
  · refine ⟨by simp [Sto.set_same], hone, fun _ _ => by simp⟩

theorem deepOf_some {x : C} {s : Sto} {id v : Nat} {e : Ty} {ys : List e.den} (h : deepOf x s = some (id, v, ⟨e, ys⟩)) : x = .own id v ∧ s id = (v, .vec e ys) := by
  unfold deepOf at h
  split at h
  · split at h
    · rename_i hs
      split at h
      · rename_i hc
        have h' := Option.some.inj h
        simp only [Prod.mk.injEq] at h'
        obtain ⟨rfl, rfl, h3⟩ := h'
        injection h3 with h4 h5
        subst h4
        obtain rfl := eq_of_heq h5
        obtain ⟨rfl, _⟩ := hc
        exact ⟨rfl, hs⟩
      · cases h
    · cases h
  · cases h

/-- An object gets a new version over a row that was appended to; another one is handed over. -/
theorem left_rowD {st' : St} {w w' : World} {N : Nat → Prop} {hd : Nat → Value} {F : Nat → List Nat} (I : SInv (memOf w) N st'.o hd F w.heap.size) {id ver id2 v2 : Nat} {e : Ty} {ys zs : List e.den} (hne : id ≠ id2) (hs2 : st'.o id2 = (v2, .vec e ys)) {v' : Value} {G' W : List Nat} {s0 : Sto} {rd : List Nat}
    (hver : (st'.o id).1 < ver) (hmv : Moves w w' W) (hW : ∀ k ∈ W, k ∈ F id) (hr : RepT (memOf w') N (.own e) zs [v'] G') (hG' : ∀ k ∈ G', ((k ∈ F id ∨ k ∈ F id2) ∧ k < w'.heap.size) ∨ (w.heap.size ≤ k ∧ k < w'.heap.size)) (hnd : G'.Nodup) :
    ∃ s' N' hd' F', Left X st' { v := .one (.own id ver), s := (s0.set id2 (v2, .ovec e ys)).set id (ver, .vec e zs), w := [id, id2], r := rd } w N hd F v' w' W s' N' hd' F' := by
  have hob := I.obj id2
  rw [hs2] at hob
  obtain ⟨o1, o2⟩ := out_ok I id2 (.ovec e ys) (by rw [hs2]; exact fun _ => ⟨rfl, rfl, Nat.le_refl _⟩) (by simp [Obj.isB]) (fun s' => ⟨rfl, RepT.own_len hob⟩)
  have hv2 : (st'.o id2).1 = v2 := by rw [hs2]
  rw [hv2] at o1 o2
  have hmN : ∀ b, N b → memOf w' b = memOf w b := fun b hb => hmv.block b (I.ltN b hb) (fun h => I.sep id b (hW b h) hb)
  have hidx : (st'.o.set id2 (v2, .ovec e ys)) id = st'.o id := Sto.set_ne _ _ hne
  have hgo : Goes (st'.o.set id2 (v2, .ovec e ys)) ((st'.o.set id2 (v2, .ovec e ys)).set id (ver, .vec e zs)) hd (fun i => if i = id then v' else hd i) := Goes.set_new id ver _ (by rw [hidx]; exact hver) (fun i hi => by simp [hi])
  have hone := RepT.one' hr v' (by simp)
  refine ⟨_, N, _, _, fun i hi => ?_, fun i hi => ?_, hmv, fun k hk => ⟨id, hW k hk⟩, o1.upd (m' := memOf w') (N' := N) (hd' := fun i => if i = id then v' else hd i) id (ver, .vec e zs) G' hmv.size (fun b hb => ⟨hb, hmN b hb⟩) (fun k hk => ⟨Nat.lt_of_lt_of_le (I.ltN k hk) hmv.size, fun i _ hi => o1.sep i k hi hk, fun h => ?_⟩)
    (fun i hi k hk => ?_) hnd (fun k hk => ⟨?_, fun i hi h => ?_⟩) hgo (fun i hi => by simp [hi]) (by simp only [if_true]; exact hr), fun _ h => h, o2.trans hgo, fun _ h => .inl h, fun i k hk => ?_, ?_⟩
  · simp only [List.mem_cons, List.not_mem_nil, or_false] at hi
    show _ = (Sto.set (Sto.set _ _ _) _ _) i
    by_cases h1 : i = id
    · subst h1; rw [Sto.set_same, Sto.set_same]
    · rw [Sto.set_ne _ _ h1, Sto.set_ne _ _ h1]
      rcases hi with h | h
      · exact absurd h h1
      · rw [h, Sto.set_same, Sto.set_same]
  · simp only [List.mem_cons, List.not_mem_nil, or_false, not_or] at hi
    rw [Sto.set_ne _ _ hi.1, Sto.set_ne _ _ hi.2]
  · rcases hG' k h with ⟨h' | h', _⟩ | h'
    · exact I.sep id k h' hk
    · exact I.sep id2 k h' hk
    · have := I.ltN k hk; omega
  · by_cases h2 : i = id2
    · simp [h2] at hk
    · simp only [h2, if_false] at hk
      exact hmv.block k (I.ltF i k hk) (fun h => hi (I.once i id k hk (hW k h)))
  · rcases hG' k hk with ⟨_, h'⟩ | h'
    · exact h'
    · exact h'.2
  · by_cases h2 : i = id2
    · simp [h2] at h
    · simp only [h2, if_false] at h
      rcases hG' k hk with ⟨h' | h', _⟩ | h'
      · exact hi (I.once i id k h h')
      · exact h2 (I.once i id2 k h h')
      · have := I.ltF i k h; omega
  · by_cases h : i = id
    · simp only [h, if_true] at hk
      rcases hG' k hk with ⟨h' | h', _⟩ | h'
      · exact .inl ⟨id, h'⟩
      · exact .inl ⟨id2, h'⟩
      · exact .inr h'.1
    · simp only [h, if_false] at hk
      by_cases h2 : i = id2
      · simp [h2] at hk
      · simp only [h2, if_false] at hk
        exact .inl ⟨i, hk⟩
  · refine ⟨by simp [Sto.set_same], hone, fun _ _ => by simp⟩

theorem good_append {ca : Call} {x y : Operand} (ho : o.op = .call ca) (hca : ca.callee = .builtin .append) (hargs : ca.args.toList = [x, y]) (h : exOp E O o st K = some r) : ∃ e, K e = some r ∧ Good E X o st e := by
  have hargs' : ca.args = #[x, y] := by rw [← Array.toArray_toList (xs := ca.args), hargs]
  have hx : x ∈ o.op.operands := by rw [ho]; simp [Op.operands, Call.operands, hca, hargs']
  have hy : y ∈ o.op.operands := by rw [ho]; simp [Op.operands, Call.operands, hca, hargs']
  simp only [exOp, ho, hca, hargs] at h
  replace h := one_some h
  obtain ⟨c, hc, h⟩ := h
  replace h := one_some h
  obtain ⟨d, hd, h⟩ := h
  split at h
  · rename_i t t' hty
    have hty' : ca.argTypes = #[t, t'] := by rw [← Array.toArray_toList (xs := ca.argTypes), hty]
    split at h
    · rename_i id2 v2 e ys hdeep
      obtain ⟨rfl, hs2⟩ := deepOf_some hdeep
      split at h
      · rename_i htt
        subst htt
        unfold appendD at h
        dsimp only at h
        split at h
        · cases h
        · rename_i te hte
          have hu := elemP_some hte
          split at h
          · rename_i hz
            obtain ⟨hz, hb0, hsz, hes0⟩ := hz
            obtain ⟨it, z, hi1, hi2, hi3, hi4, hi5⟩ := hasZero_some hz
            have hes' : e.sz = it.size := by rw [hes0, hi3]
            have hrunop : ∀ a : Act, (execOp a.eval o) = (do let u ← Builtin.append_ #[t', t'] o.type #[a.eval x, a.eval y]; pure (.value u)) := by
              intro a
              simp [execOp, ho, resolve, hca, hargs', hty', invoke, builtin]
            split at h
            · split at h
              · rename_i hnn
                split at h
                · rename_i hroom
                  refine ⟨_, h, Good.make fun st' he hi a w N hd' F I => ?_⟩
                  have h1 := I.eval x; rw [he x hx, hc] at h1
                  have h2 := I.eval y; rw [he y hy, hd] at h2
                  have hid : st'.o (newId o.dst) = st.o (newId o.dst) := hi _ (.inl (by simp))
                  have hid2 := hi id2 (.inl (by simp)); rw [hs2] at hid2
                  have hob2 := I.s.obj id2; rw [hid2] at hob2
                  have e2 := RepC.own_hd (m := memOf w) (N := N) h2 hid2 rfl
                  obtain ⟨b, e1⟩ := h1
                  have hob2' : RepT (memOf w) N (.own e) ys [a.eval y] (F id2) := by rw [e2]; exact hob2
                  obtain ⟨v', w', G', W, hrun, hmv, hW, hr, hG', hnd⟩ := append_rowD (ty := o.type) hu hi1 hi2 hi4 (by rw [hi5]; exact hb0) hes' (xs := []) (v := a.eval x) (G := []) (.inl ⟨b, by rw [e1], rfl, rfl⟩) hob2' (fun k hk => ⟨I.s.ltN k hk, by simp⟩) (by simp) (fun k hk => I.s.ltF id2 k hk) List.nodup_nil (I.s.nodup id2) (by simp) (by rw [hi5]; simpa using hroom)
                  obtain ⟨s', N', hd2, F', L⟩ := left_rowD (X := X) I.s (id := newId o.dst) (ver := (st.o (newId o.dst)).1 + 1) (s0 := st.o) (rd := []) hnn hid2 (by rw [hid]; omega) hmv (fun k hk => absurd (hW k hk) (by simp)) hr (fun k hk => by
                    rcases hG' k hk with ⟨h' | h', h''⟩ | h'
                    · simp at h'
                    · exact .inl ⟨.inr h', h''⟩
                    · exact .inr h') hnd
                  exact ⟨v', w', W, s', N', hd2, F', by rw [hrunop]; simp [hrun], L⟩
                · cases h
              · cases h
            · rename_i id ver
              split at h
              · rename_i v e' xs hs
                split at h
                · rename_i hcv
                  obtain ⟨rfl, hnn⟩ := hcv
                  split at h
                  · rename_i hee
                    injection hee with hee
                    subst hee
                    split at h
                    · rename_i hroom
                      refine ⟨_, h, Good.make fun st' he hi a w N hd' F I => ?_⟩
                      have h1 := I.eval x; rw [he x hx, hc] at h1
                      have h2 := I.eval y; rw [he y hy, hd] at h2
                      have hid := hi id (.inl (by simp)); rw [hs] at hid
                      have hob := I.s.obj id; rw [hid] at hob
                      have e1 := RepC.own_hd (m := memOf w) (N := N) h1 hid rfl
                      have hid2 := hi id2 (.inl (by simp)); rw [hs2] at hid2
                      have hob2 := I.s.obj id2; rw [hid2] at hob2
                      have e2 := RepC.own_hd (m := memOf w) (N := N) h2 hid2 rfl
                      have hob' : RepT (memOf w) N (.own e) xs [a.eval x] (F id) := by rw [e1]; exact hob
                      have hob2' : RepT (memOf w) N (.own e) ys [a.eval y] (F id2) := by rw [e2]; exact hob2
                      obtain ⟨v', w', G', W, hrun, hmv, hW, hr, hG', hnd⟩ := append_rowD (ty := o.type) hu hi1 hi2 hi4 (by rw [hi5]; exact hb0) hes' hob' hob2' (fun k hk => ⟨I.s.ltN k hk, fun h => I.s.sep id k h hk⟩) (fun k hk => I.s.ltF id k hk) (fun k hk => I.s.ltF id2 k hk) (I.s.nodup id) (I.s.nodup id2) (fun k hk hk2 => hnn (I.s.once id id2 k hk hk2)) (by rw [hi5]; exact hroom)
                      obtain ⟨s', N', hd2, F', L⟩ := left_rowD (X := X) I.s (id := id) (ver := v + 1) (s0 := st.o) (rd := []) hnn hid2 (by rw [hid]; exact Nat.lt_succ_self v) hmv hW hr hG' hnd
                      exact ⟨v', w', W, s', N', hd2, F', by rw [hrunop]; simp [hrun], L⟩
                    · cases h
                  · cases h
                · cases h
              · cases h
            · cases h
          · cases h
      · cases h
    split at h
    · rename_i hcond
      unfold appendK at h
      dsimp only at h
      split at h
      · cases h
      · rename_i te hte
        have hu := elemP_some hte
        split at h
        · rename_i hz
          obtain ⟨hz, hb0, hsz⟩ := hz
          obtain ⟨it, z, hi1, hi2, hi3, hi4, hi5⟩ := hasZero_some hz
          have hrunop : ∀ a : Act, (execOp a.eval o) = (do let u ← Builtin.append_ #[t, t'] o.type #[a.eval x, a.eval y]; pure (.value u)) := by
            intro a
            simp [execOp, ho, resolve, hca, hargs', hty', invoke, builtin]
          have htys : ((∃ y, d = .imm .str y) → E.P.underlying t' = some .string) ∧ ((¬ ∃ y, d = .imm .str y) → ∃ te, E.P.underlying t' = some (.slice te)) := by
            constructor
            · rintro ⟨y, rfl⟩
              rcases hcond with ⟨_, h⟩ | ⟨h, _⟩
              · simp [isStrC] at h
              · unfold isStrT at h
                split at h
                · assumption
                · cases h
            · intro hn
              rcases hcond with ⟨rfl, _⟩ | ⟨_, h⟩
              · exact ⟨te, hu⟩
              · unfold isStrC at h
                split at h
                · exact absurd ⟨_, rfl⟩ hn
                · cases h
          split at h
          · have hS : ∀ {w : World} {v : Value} {N : Nat → Prop} {s : Sto} {hd : Nat → Value}, RepC (memOf w) N s hd .e0 v → AppSrc E.P w t' v it.size 0 [] := by
              intro w v N s hd hv
              obtain ⟨a, rfl⟩ := hv
              refine ⟨.inl (htys.2 (by simp)), fun w' => by simp [Builtin.lenOf], fun w' _ => ?_, by simp⟩
              cases a with
              | none => simp [Builtin.firstCells]
              | some a => exact run_firstCells_some w' it.size 0 a 0 0 [] (by simp) (by simp)
            split at h
            · refine ⟨_, h, good_two hc hx hd hy fun {a w N s' hd F} hm I h1 h2 => ⟨a.eval x, ?_, h1⟩⟩
              obtain ⟨b, e1⟩ := h1
              rw [hrunop, e1]
              simp [run_append_src_none hu hi1 (hS h2) (Nat.le_refl 0)]
            · rename_i id ver
              split at h
              · rename_i v e xs hs
                split at h
                · rename_i hv
                  subst hv
                  refine ⟨_, h, good_two hc hx hd hy fun {a w N s' hd F} hm I h1 h2 => ⟨a.eval x, ?_, h1⟩⟩
                  have hid := hm id (by simp); rw [hs] at hid
                  have hob := I.obj id; rw [hid] at hob
                  have e1 := RepC.own_hd h1 hid rfl
                  rw [hrunop]
                  rcases hob with ⟨b, q1, _⟩ | ⟨g, cap, c, T, es, Fs, q1, _, _, q4, _⟩
                  · have q1' : hd id = .slice b 0 0 := by simpa using q1
                    rw [e1, q1']
                    simp [run_append_src_none hu hi1 (hS h2) (Nat.le_refl 0)]
                  · have q1' : hd id = .slice (some ⟨g, 0, none⟩) (List.length xs) cap := by simpa using q1
                    rw [e1, q1']
                    simp [run_append_src_none hu hi1 (hS h2) q4]
                · cases h
              · cases h
            · cases h
          · replace h := srcK_ok h
            obtain ⟨e, ys, m, h, hg⟩ := h
            split at h
            · rename_i hc2
              obtain ⟨himm, hes⟩ := hc2
              have hes' : e.sz = it.size := by rw [hes, hi3]
              split at h
              · split at h
                · rename_i hmn
                  split at h
                  · rename_i hroom
                    refine ⟨_, h, Good.make fun st' he hi a w N hd F I => ?_⟩
                    have h1 := I.eval x; rw [he x hx, hc] at h1
                    have h2 := I.eval y; rw [he y hy, ‹st.eval y = _›] at h2
                    have hid : st'.o (newId o.dst) = st.o (newId o.dst) := hi _ (.inl (by simp))
                    have S := hg st'.o (fun i hi' => hi i (.inr hi')) I.s _ h2 t' htys.1 htys.2 himm
                    obtain ⟨b, e1⟩ := h1
                    obtain ⟨v', w', G', W, hrun, hmv, hW, hr, hG', hnd⟩ := append_row (ty := o.type) himm hu hi1 hi2 hi4 (by rw [hi5]; exact hb0) hes' (xs := []) (v := a.eval x) (G := []) (.inl ⟨b, by rw [e1], rfl, rfl⟩) (fun k hk => ⟨I.s.ltN k hk, by simp⟩) S (by rw [hi5]; simpa using hroom)
                    obtain ⟨s', N', hd', F', L⟩ := left_row (X := X) I.s (id := newId o.dst) (ver := (st.o (newId o.dst)).1 + 1) (s0 := st.o) (rd := m) (G := []) (by rw [hid]; omega) (by simp) hmv hW hr hG' hnd
                    exact ⟨v', w', W, s', N', hd', F', by rw [hrunop]; simp [hrun], L⟩
                  · cases h
                · cases h
              · rename_i id ver
                split at h
                · rename_i v e' xs hs
                  split at h
                  · rename_i hcv
                    obtain ⟨rfl, hmn⟩ := hcv
                    split at h
                    · rename_i hee
                      injection hee with hee
                      subst hee
                      split at h
                      · rename_i hroom
                        refine ⟨_, h, Good.make fun st' he hi a w N hd F I => ?_⟩
                        have h1 := I.eval x; rw [he x hx, hc] at h1
                        have h2 := I.eval y; rw [he y hy, ‹st.eval y = _›] at h2
                        have hid := hi id (.inl (by simp)); rw [hs] at hid
                        have hob := I.s.obj id; rw [hid] at hob
                        have e1 := RepC.own_hd (m := memOf w) (N := N) h1 hid rfl
                        have S := hg st'.o (fun i hi' => hi i (.inr hi')) I.s _ h2 t' htys.1 htys.2 himm
                        have hob' : RepT (memOf w) N (.own e) xs [a.eval x] (F id) := by rw [e1]; exact hob
                        obtain ⟨v', w', G', W, hrun, hmv, hW, hr, hG', hnd⟩ := append_row (ty := o.type) himm hu hi1 hi2 hi4 (by rw [hi5]; exact hb0) hes' hob' (fun k hk => ⟨I.s.ltN k hk, fun h => I.s.sep id k h hk⟩) S (by rw [hi5]; exact hroom)
                        obtain ⟨s', N', hd', F', L⟩ := left_row (X := X) I.s (id := id) (ver := v + 1) (s0 := st.o) (rd := m) (G := F id) (by rw [hid]; exact Nat.lt_succ_self v) (fun _ h => h) hmv hW hr hG' hnd
                        exact ⟨v', w', W, s', N', hd', F', by rw [hrunop]; simp [hrun], L⟩
                      · cases h
                    · cases h
                  · cases h
                · cases h
              · rename_i id ver lo u
                split at h
                · rename_i v e' xs hs
                  split at h
                  · rename_i hcv
                    obtain ⟨rfl, hmn, rfl⟩ := hcv
                    split at h
                    · rename_i hee
                      injection hee with hee
                      subst hee
                      split at h
                      · rename_i hroom
                        refine ⟨_, h, Good.make fun st' he hi a w N hd F I => ?_⟩
                        have h1 := I.eval x; rw [he x hx, hc] at h1
                        have h2 := I.eval y; rw [he y hy, ‹st.eval y = _›] at h2
                        have hid := hi id (.inl (by simp)); rw [hs] at hid
                        have hob := I.s.obj id; rw [hid] at hob
                        obtain ⟨e1, l1, l2⟩ := RepC.sub_hd (m := memOf w) (N := N) h1 hid rfl
                        have l2' : u ≤ List.length xs := l2
                        have S := hg st'.o (fun i hi' => hi i (.inr hi')) I.s _ h2 t' htys.1 htys.2 himm
                        have hob' : RepT (memOf w) N (.own e) (xs.take u) [a.eval x] (F id) := by rw [e1]; exact RepT.own_take himm hob l2'
                        have hlu : List.length (xs.take u) = u := by rw [List.length_take]; omega
                        obtain ⟨v', w', G', W, hrun, hmv, hW, hr, hG', hnd⟩ := append_row (ty := o.type) himm hu hi1 hi2 hi4 (by rw [hi5]; exact hb0) hes' hob' (fun k hk => ⟨I.s.ltN k hk, fun h => I.s.sep id k h hk⟩) S (by rw [hi5, hlu]; exact hroom)
                        obtain ⟨s', N', hd', F', L⟩ := left_row (X := X) I.s (id := id) (ver := v + 1) (s0 := st.o) (rd := m) (G := F id) (by rw [hid]; exact Nat.lt_succ_self v) (fun _ h => h) hmv hW hr hG' hnd
                        exact ⟨v', w', W, s', N', hd', F', by rw [hrunop]; simp [hrun], L⟩
                      · cases h
                    · cases h
                  · cases h
                · cases h
              · cases h
            · cases h
        · cases h
    · cases h
  · cases h
end

end Go.Proofs.YtofkhmedmeihiaaPn.Ev
