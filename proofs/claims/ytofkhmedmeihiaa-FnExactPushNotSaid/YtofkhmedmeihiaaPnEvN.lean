/- The evaluator: what is written. -/
import Derived.Test.YtofkhmedmeihiaaPnEvM
import Derived.Carry
namespace Go.Proofs.YtofkhmedmeihiaaPn.Ev
open Go

theorem Moves.setRow (w : World) (g : Nat) (cs : Array Value) : Moves w (w.setRow g cs) [g] :=
  ⟨rfl, rfl, rfl, by simp, fun k _ hW => setRow_other w g k cs (fun h => hW (by simp [h]))⟩
theorem memOf_setRow_other (w : World) {g k : Nat} (cs : Array Value) (h : k ≠ g) : memOf (w.setRow g cs) k = memOf w k := setRow_other w g k cs h
theorem memOf_setRow_same (w : World) {g : Nat} {old : Array Value} {T : TypeId} (cs : Array Value) (h : memOf w g = some (.cells old T (0, 0))) : memOf (w.setRow g cs) g = some (.cells cs T (0, 0)) := setRow_heap w g old cs T (0, 0) h

/-- A block that an object owns is written. -/
theorem SInv.write {w : World} {N : Nat → Prop} {s : Sto} {hd : Nat → Value} {F : Nat → List Nat} (I : SInv (memOf w) N s hd F w.heap.size) {id : Nat} {o : Obj} {g : Nat} {cs : Array Value} (hF : F id = [g])
    (hg : Goes s (s.set id ((s id).1, o)) hd hd) (ho : (∀ b, N b → N b ∧ memOf (w.setRow g cs) b = memOf w b) → ObjRep (memOf (w.setRow g cs)) N (s.set id ((s id).1, o)) hd o (hd id) [g]) :
    SInv (memOf (w.setRow g cs)) N (s.set id ((s id).1, o)) hd F (w.setRow g cs).heap.size := by
  have hne : ∀ b, N b → b ≠ g := fun b hb e => by subst e; exact I.sep id b (by rw [hF]; simp) hb
  have hN : ∀ b, N b → N b ∧ memOf (w.setRow g cs) b = memOf w b := fun b hb => ⟨hb, memOf_setRow_other w cs (hne b hb)⟩
  have := I.upd (m' := memOf (w.setRow g cs)) (N' := N) (hd' := hd) (size' := (w.setRow g cs).heap.size) id ((s id).1, o) [g] (by simp) hN (fun k hk => ⟨by simpa using I.ltN k hk, fun i _ hi => I.sep i k hi hk, by simpa using hne k hk⟩)
    (fun i hi k hk => memOf_setRow_other w cs (fun e => hi (I.once i id k hk (by rw [hF, e]; simp)))) (by simp) (fun k hk => by
      simp at hk; subst hk
      exact ⟨by simpa using I.ltF id k (by rw [hF]; simp), fun i hi h => hi (I.once i id k h (by rw [hF]; simp))⟩) hg (fun _ _ => rfl) (ho hN)
  have e : (fun i => if i = id then [g] else F i) = F := by
    funext i
    by_cases e : i = id
    · simp [e, hF]
    · simp [e]
  rwa [e] at this

theorem row_put (A x B us : List Value) (off : Nat) (h : off + us.length ≤ x.length) :
    (A ++ (x ++ B)).take (A.length + off) ++ us ++ (A ++ (x ++ B)).drop (A.length + off + us.length) = A ++ ((x.take off ++ us ++ x.drop (off + us.length)) ++ B) := by
  rw [List.take_append, List.take_of_length_le (show A.length ≤ A.length + off by omega), show A.length + off - A.length = off by omega, List.take_append_of_le_length (show off ≤ x.length by omega)]
  rw [List.drop_append, List.drop_eq_nil_of_le (show A.length ≤ A.length + off + us.length by omega), show A.length + off + us.length - A.length = off + us.length by omega, List.drop_append_of_le_length h]
  simp

section
variable {E : Env} {O : Oracle E} {X : Ctx} {o : Oper} {st : St} {R : Type} {K : Eff → Option R} {r : R}

theorem run_storeVar {P : Program} {w : World} {t : TypeId} {g off : Nat} {cur : Array Value} {T : TypeId} {u : Value} {us : List Value} (hs : szP P t ≠ 0) (hu : u.cells = ⟨us⟩) (hl : us.length = szP P t) (h1 : ∀ v ∈ us, v.oneCell' = true)
    (hg : memOf w g = some (.cells cur T (0, 0))) (hc : off + us.length ≤ cur.size) :
    (storeVar t ⟨g, off, none⟩ u).run P w = .ok () (w.setRow g (cur.toList.take off ++ us ++ cur.toList.drop (off + us.length)).toArray) := by
  have := run_storeCells_at P g off T us 0 cur w hg (by simpa using hc) h1
  simp only [Nat.add_zero] at this
  simp [storeVar, run_sizeOf hs, hu, hl, this]

theorem putAt_alike : ∀ (e : Ty) (x : e.den) (off : Nat) (cs : List C) (s : Sto) (q : Pr e.den), putAt e x off cs s = some q → ∀ (M : List Nat), (∀ i ∈ q.m, i ∈ M) → ∀ (s2 : Sto), (∀ i ∈ M, s2 i = s i) →
    ∃ s2', putAt e x off cs s2 = some { x := q.x, rest := q.rest, s := s2', m := q.m } ∧ ∀ i ∈ M, s2' i = q.s i := by
  intro e
  induction e with
  | agg fs ih =>
    intro x off cs s q h M hM s2 hs
    simp only [putAt] at h ⊢
    split at h
    · rename_i ho
      rw [if_pos ho]
      exact pr_alike false fs cs s [] q h M hM s2 hs
    · rename_i ho
      rw [if_neg ho]
      exact ih x off cs s q h M hM s2 hs
  | cons a r iha ihr =>
    intro x off cs s q h M hM s2 hs
    simp only [putAt] at h ⊢
    split at h
    · rename_i ho
      rw [if_pos ho]
      split at h
      · rename_i p hp
        obtain rfl := Option.some.inj h
        obtain ⟨s2', k1, k2⟩ := iha x.1 off cs s p hp M hM s2 hs
        exact ⟨s2', by rw [k1], k2⟩
      · cases h
    · rename_i ho
      rw [if_neg ho]
      split at h
      · rename_i p hp
        obtain rfl := Option.some.inj h
        obtain ⟨s2', k1, k2⟩ := ihr x.2 (off - a.sz) cs s p hp M hM s2 hs
        exact ⟨s2', by rw [k1], k2⟩
      · cases h
  | _ =>
    intro x off cs s q h M hM s2 hs
    simp only [putAt] at h ⊢
    split at h
    · rename_i ho
      rw [if_pos ho]
      exact pr_alike false _ cs s [] q h M hM s2 hs
    · cases h

/-- Data with some cells laid anew, and what goes into them. -/
theorem put_split {m : Mem} {hd : Nat → Value} {size : Nat} {N : Nat → Prop} {s : Sto} {F : Nat → List Nat} (I : SInv m N s hd F size) {cs : List C} {us : List Value} (hcs : RepCs m N s hd cs us) : ∀ (e : Ty) (x : e.den) (es : List Value) (L : List Nat) (off : Nat) (p : Pr e.den), RepT m N e x es L → putAt e x off cs s = some p → p.rest = [] →
    ∃ (τ : Ty) (y : τ.den) (N' : Nat → Prop) (F' : Nat → List Nat) (G : List Nat) (Fa Fb : List Nat), PrOK false m N s hd F size [] τ y [] p.s p.m us us [] N' F' G ∧ (Fa ++ Fb).Sublist L ∧
      ∀ (m2 : Mem) (N2 : Nat → Prop), (∀ b, N' b → N2 b ∧ m2 b = m b) → (∀ k ∈ Fa ++ (G ++ Fb), m2 k = m k) → RepT m2 N2 e p.x (es.take off ++ us ++ es.drop (off + us.length)) (Fa ++ (G ++ Fb)) := by
  have base : ∀ (e : Ty) (es : List Value) (L : List Nat) (off : Nat) (p : Pr e.den), es.length = e.sz → off = 0 ∧ cs.length = e.sz → pr false e cs s [] = some p → p.rest = [] →
      ∃ (τ : Ty) (y : τ.den) (N' : Nat → Prop) (F' : Nat → List Nat) (G : List Nat) (Fa Fb : List Nat), PrOK false m N s hd F size [] τ y [] p.s p.m us us [] N' F' G ∧ (Fa ++ Fb).Sublist L ∧
      ∀ (m2 : Mem) (N2 : Nat → Prop), (∀ b, N' b → N2 b ∧ m2 b = m b) → (∀ k ∈ Fa ++ (G ++ Fb), m2 k = m k) → RepT m2 N2 e p.x (es.take off ++ us ++ es.drop (off + us.length)) (Fa ++ (G ++ Fb)) := by
    intro e es L off p hl ho hp hrest
    obtain ⟨rfl, hlc⟩ := ho
    obtain ⟨v1, v2, N', F', G, k⟩ := pr_ok false e cs s [] p hp I hcs
    rw [hrest] at k
    have hv2 := RepCs.nil_inv k.rest
    have hvs := k.vs
    subst hv2
    rw [List.append_nil] at hvs
    subst hvs
    refine ⟨e, p.x, N', F', G, [], [], k, by simp, fun m2 N2 hN hF => ?_⟩
    have hul := hcs.len
    rw [List.take_zero, Nat.zero_add, List.drop_eq_nil_of_le (by omega)]
    simp only [List.nil_append, List.append_nil]
    exact RepT.mono hN (fun b hb => hF b (by simpa using hb)) k.rep
  intro e
  induction e with
  | agg fs ih =>
    intro x es L off p hr h hrest
    simp only [putAt] at h
    split at h
    · rename_i ho
      exact base fs es L off p hr.len ho h hrest
    · exact ih x es L off p hr h hrest
  | cons a r iha ihr =>
    intro x es L off p hr h hrest
    obtain ⟨c1, c2, F1, F2, rfl, rfl, h1, h2⟩ := hr
    have hl := h1.len
    simp only [putAt] at h
    split at h
    · rename_i ho
      split at h
      · rename_i q hq
        obtain rfl := Option.some.inj h
        obtain ⟨τ, y, N', F', G, Fa, Fb, k1, k2, k3⟩ := iha x.1 c1 F1 off q h1 hq hrest
        refine ⟨τ, y, N', F', G, Fa, Fb ++ F2, k1, by rw [← List.append_assoc]; exact List.Sublist.append k2 (List.Sublist.refl _), fun m2 N2 hN hF => ?_⟩
        have k4 := k3 m2 N2 hN (fun k hk => hF k (by
          rcases List.mem_append.1 hk with h | h
          · exact List.mem_append_left _ h
          · rcases List.mem_append.1 h with h | h
            · exact List.mem_append_right _ (List.mem_append_left _ h)
            · exact List.mem_append_right _ (List.mem_append_right _ (List.mem_append_left _ h))))
        have hlen := k4.len
        simp only [List.length_append, List.length_take, List.length_drop] at hlen
        refine ⟨_, c2, _, F2, ?_, ?_, k4, RepT.mono (fun b hb => hN b (k1.up b hb)) (fun k hk => hF k (List.mem_append_right _ (List.mem_append_right _ (List.mem_append_right _ hk)))) h2⟩
        · rw [List.take_append_of_le_length (by omega), List.drop_append_of_le_length (by omega)]
          simp
        · simp
      · cases h
    · rename_i ho
      split at h
      · rename_i q hq
        obtain rfl := Option.some.inj h
        obtain ⟨τ, y, N', F', G, Fa, Fb, k1, k2, k3⟩ := ihr x.2 c2 F2 (off - a.sz) q h2 hq hrest
        refine ⟨τ, y, N', F', G, F1 ++ Fa, Fb, k1, by rw [List.append_assoc]; exact List.Sublist.append (List.Sublist.refl _) k2, fun m2 N2 hN hF => ?_⟩
        have k4 := k3 m2 N2 hN (fun k hk => hF k (by
          rcases List.mem_append.1 hk with h | h
          · exact List.mem_append_left _ (List.mem_append_right _ h)
          · exact List.mem_append_right _ h))
        refine ⟨c1, _, F1, _, ?_, ?_, RepT.mono (fun b hb => hN b (k1.up b hb)) (fun k hk => hF k (List.mem_append_left _ (List.mem_append_left _ hk))) h1, k4⟩
        · rw [List.take_append, List.take_of_length_le (by omega), List.drop_append, List.drop_eq_nil_of_le (by omega), hl, show off + us.length - a.sz = off - a.sz + us.length by omega]
          simp
        · simp
      · cases h
  | _ =>
    intro x es L off p hr h hrest
    simp only [putAt] at h
    split at h
    · rename_i ho
      exact base _ es L off p hr.len ho h hrest
    · cases h

/-- A block that an object owns beside others is written. -/
theorem SInv.write2 {w : World} {N : Nat → Prop} {s : Sto} {hd : Nat → Value} {F : Nat → List Nat} (I : SInv (memOf w) N s hd F w.heap.size) {id : Nat} {o : Obj} {g : Nat} {cs : Array Value} {Fn : List Nat} (hF : g ∈ F id) (hn : Fn.Nodup) (hFn : ∀ k ∈ Fn, k < w.heap.size ∧ ¬ N k ∧ ∀ i, i ≠ id → k ∉ F i)
    (hg : Goes s (s.set id ((s id).1, o)) hd hd) (ho : (∀ b, N b → N b ∧ memOf (w.setRow g cs) b = memOf w b) → ObjRep (memOf (w.setRow g cs)) N (s.set id ((s id).1, o)) hd o (hd id) Fn) :
    SInv (memOf (w.setRow g cs)) N (s.set id ((s id).1, o)) hd (fun i => if i = id then Fn else F i) (w.setRow g cs).heap.size := by
  have hne : ∀ b, N b → b ≠ g := fun b hb e => by subst e; exact I.sep id b hF hb
  have hN : ∀ b, N b → N b ∧ memOf (w.setRow g cs) b = memOf w b := fun b hb => ⟨hb, memOf_setRow_other w cs (hne b hb)⟩
  exact I.upd (m' := memOf (w.setRow g cs)) (N' := N) (hd' := hd) (size' := (w.setRow g cs).heap.size) id ((s id).1, o) Fn (by simp) hN (fun k hk => ⟨by simpa using I.ltN k hk, fun i _ hi => I.sep i k hi hk, fun h => (hFn k h).2.1 hk⟩)
    (fun i hi k hk => memOf_setRow_other w cs (fun e => hi (I.once i id k hk (by rw [e]; exact hF)))) hn (fun k hk => ⟨by simpa using (hFn k hk).1, (hFn k hk).2.2⟩) hg (fun _ _ => rfl) (ho hN)

theorem good_store {t : TypeId} {x y : Operand} (ho : o.op = .store t x y) (h : exOp E O o st K = some r) : ∃ e, K e = some r ∧ Good E X o st e := by
  have hx : x ∈ o.op.operands := by rw [ho]; simp [Op.operands]
  have hy : y ∈ o.op.operands := by rw [ho]; simp [Op.operands]
  simp only [exOp, ho] at h
  replace h := one_some h
  obtain ⟨c, hc, h⟩ := h
  split at h
  · rename_i hlen
    obtain ⟨hl1, hl2⟩ := hlen
    have hsz : szP E.P t ≠ 0 := by rw [← hl1]; exact hl2
    split at h
    · rename_i id ver off
      split at h
      · rename_i v cs hs
        split at h
        · rename_i hcond
          obtain ⟨rfl, hfit⟩ := hcond
          refine ⟨_, h, Good.write rfl fun st' he hi a w N hd F I => ?_⟩
          have hid := hi id (.inl (by simp)); rw [hs] at hid
          have hob := I.s.obj id; rw [hid] at hob
          obtain ⟨g, vs, T, h1, h2, h3, h4⟩ := hob
          have hu := I.eval x; rw [he x hx, hc] at hu
          obtain ⟨g', e1, e2⟩ := hu.2.2 (by rw [hid]) (by rw [hid]; rfl)
          rw [h1] at e1
          injection e1 with e1; injection e1 with e1; injection e1 with e1
          subst e1
          have hv := I.eval y; rw [he y hy] at hv
          obtain ⟨us, u1, u2⟩ := RepV.cells hv (fun h0 => hl2 (by rw [h0]; rfl))
          have hul := u2.len
          have hcl := h3.len
          have hgo : Goes st'.o (st'.o.set id ((st'.o id).1, .box (setCs cs off (st.eval y).cells))) hd hd := Goes.set_like id _ (by simp [Obj.isV]) (fun _ => by rw [hid]; rfl)
          have hrun := run_storeVar (P := E.P) (w := w) hsz u1 (by rw [hul, hl1]) (RepCs.one' u2) h2 (off := off) (by simp; omega)
          have hset : st'.o.set id ((st'.o id).1, .box (setCs cs off (st.eval y).cells)) = st'.o.set id ((st.o id).1, .box (setCs cs off (st.eval y).cells)) := by rw [hid, hs]
          refine ⟨_, [g], st'.o.set id ((st'.o id).1, .box (setCs cs off (st.eval y).cells)), N, hd, F, by simp [execOp, ho, Instr.storeAt, Instr.sureAddr, e2, hrun]; rfl, ⟨fun i hi' => ?_, fun i hi' => ?_, Moves.setRow w g _, ?_, I.s.write h4 hgo ?_, fun _ h => h, hgo, fun _ h => .inl h, fun i k hk => .inl ⟨i, hk⟩, trivial⟩⟩
          · simp at hi'; subst hi'
            show _ = (st.o.set _ _) _
            rw [Sto.set_same, Sto.set_same, hid]
          · simp at hi'
            exact Sto.set_ne _ _ hi'
          · intro k hk
            simp at hk; subst hk
            exact ⟨id, by rw [h4]; simp⟩
          · intro hN
            refine ⟨g, _, T, h1, memOf_setRow_same w _ h2, ?_, rfl⟩
            have := RepCs.goes hN hgo (RepCs.setCs h3 u2 off)
            simpa using this
        · cases h
      · cases h
    · rename_i id ver i off
      split at h
      · rename_i v e xs hs
        split at h
        · rename_i hcond
          obtain ⟨rfl, himm⟩ := hcond
          obtain ⟨z, hz, h⟩ := Option.bind_eq_some_iff.1 h
          split at h
          · rename_i hfit
            split at h
            · rename_i x' s' mm hp
              split at h
              · cases h
              · rename_i hnm
                refine ⟨_, h, Good.write rfl fun st' he hi a w N hd F I => ?_⟩
                have hid := hi id (.inl (by simp)); rw [hs] at hid
                have hu := I.eval x; rw [he x hx, hc] at hu
                obtain ⟨g, len, cap, e1, e2⟩ := hu.2.2 (by rw [hid]) (by rw [hid]; rfl)
                rw [hid] at e2
                have e2' : a.eval x = .pointer (some ⟨g, i * e.sz + off, none⟩) := e2
                obtain ⟨p2, hp2, hp3⟩ := pr_alike false e _ _ _ _ hp (id :: mm) (fun i hi => List.mem_cons_of_mem _ hi) st'.o (fun i hi' => hi i (.inl hi'))
                have hv := I.eval y; rw [he y hy] at hv
                obtain ⟨us, u1, u2⟩ := RepV.cells hv (fun h0 => hl2 (by rw [h0]; rfl))
                have hul := u2.len
                have hob := I.s.obj id; rw [hid] at hob
                obtain ⟨hilt, hzx⟩ := List.getElem?_eq_some_iff.1 hz
                rcases hob with ⟨_, _, q2, _⟩ | ⟨g', cap', c, T, es, Fs, q1, q2, q3, q4, q5, q6, q7, q8, q9, q10⟩
                · rw [q2] at hilt; simp at hilt
                · rw [e1] at q1
                  simp at q1
                  obtain ⟨rfl, rfl, rfl⟩ := q1
                  have hF0 : ∀ (j : Nat) (h : j < Fs.length), Fs[j] = [] := fun j hj => RepT.imm himm (q8 j (by omega) (by omega) hj)
                  have hFl : Fs.flatten = [] := by
                    apply List.eq_nil_iff_forall_not_mem.2
                    intro k hk
                    obtain ⟨l, hl, hk⟩ := List.mem_flatten.1 hk
                    obtain ⟨j, hj, rfl⟩ := List.mem_iff_getElem.1 hl
                    rw [hF0 j hj] at hk; simp at hk
                  rw [hFl] at q10
                  have hri := q8 i hilt (by omega) (by omega)
                  rw [hF0 i (by omega), hzx] at hri
                  have hex : RepCs (memOf w) N st'.o hd (ex e z) es[i] := ex_rep himm hri
                  have hexl := hex.len
                  obtain ⟨v1, v2, N', F', G, k⟩ := pr_ok false e _ _ _ _ hp2 I.s (RepCs.setCs hex u2 off)
                  have hv2 := RepCs.nil_inv k.rest
                  have hvs : es[i].take off ++ us ++ es[i].drop (off + us.length) = v1 := by have h0 := k.vs; rw [hv2, List.append_nil] at h0; exact h0
                  have hG := RepT.imm himm k.rep
                  have hloc : p2 id = st'.o id ∧ F' id = F id := k.loc id (by simpa using hnm)
                  have hlen : ∀ y ∈ es, y.length = e.sz := by
                    intro y hy
                    obtain ⟨j, hj, rfl⟩ := List.mem_iff_getElem.1 hy
                    exact (q8 j (by omega) hj (by omega)).len
                  have hfl := flatten_len_of_len es hlen
                  have hcs : c.toList = es.flatten ++ c.toList.drop (es.length * e.sz) := by
                    conv => lhs; rw [← List.take_append_drop (es.length * e.sz) c.toList]
                    rw [← hfl, q9]
                  have hzl : es[i].length = e.sz := hlen _ (List.getElem_mem _)
                  have hrow : (i + 1) * e.sz ≤ es.length * e.sz := Nat.mul_le_mul_right _ (by omega)
                  rw [Nat.add_mul, Nat.one_mul] at hrow
                  have hcap : es.length * e.sz ≤ c.size := by rw [q3, q6]; exact Nat.mul_le_mul_right _ q4
                  have hrun := run_storeVar (P := E.P) (w := w) hsz u1 (by rw [hul, hl1]) (RepCs.one' u2) q2 (off := i * e.sz + off) (by omega)
                  have hnew : c.toList.take (i * e.sz + off) ++ us ++ c.toList.drop (i * e.sz + off + us.length) = (es.set i v1).flatten ++ c.toList.drop (es.length * e.sz) := by
                    have hes : es = es.take i ++ es[i] :: es.drop (i + 1) := by
                      rw [← List.drop_eq_getElem_cons (by omega), List.take_append_drop]
                    have hA : (es.take i).flatten.length = i * e.sz := by
                      rw [flatten_len_of_len _ (fun y hy => hlen y (List.mem_of_mem_take hy)), List.length_take]
                      congr 1; omega
                    have hset : (es.set i v1).flatten = (es.take i).flatten ++ (v1 ++ (es.drop (i + 1)).flatten) := by
                      rw [List.set_eq_take_append_cons_drop, if_pos (by omega)]; simp
                    have hfe : es.flatten = (es.take i).flatten ++ (es[i] ++ (es.drop (i + 1)).flatten) := by
                      have := congrArg List.flatten hes
                      rw [List.flatten_append, List.flatten_cons] at this
                      exact this
                    have hc2 : c.toList = (es.take i).flatten ++ (es[i] ++ ((es.drop (i + 1)).flatten ++ c.toList.drop (es.length * e.sz))) :=
                      hcs.trans (by rw [hfe]; simp only [List.append_assoc])
                    have := row_put (es.take i).flatten es[i] ((es.drop (i + 1)).flatten ++ c.toList.drop (es.length * e.sz)) us off (by omega)
                    rw [hA, ← hc2, hvs] at this
                    rw [this, hset]
                    simp
                  have hv1 := k.rep.len
                  have hgo : Goes p2 (p2.set id ((p2 id).1, .vec e (xs.set i x'))) hd hd := Goes.set_like id _ (fun _ => by rw [hloc.1, hid]; exact ⟨rfl, rfl, by simp [Obj.vlen]⟩) (by simp [Obj.isB])
                  refine ⟨w.setRow g (c.toList.take (i * e.sz + off) ++ us ++ c.toList.drop (i * e.sz + off + us.length)).toArray, [g], p2.set id ((p2 id).1, .vec e (xs.set i x')), N', hd, F', by simp [execOp, ho, Instr.storeAt, Instr.sureAddr, e2', hrun], ⟨fun j hj => ?_, fun j hj => ?_, Moves.setRow w g _, ?_, k.inv.write (by rw [hloc.2, q10]) hgo ?_, k.up, k.goes.trans hgo, fun b hb => ?_, fun j b hb => .inl ⟨j, k.sub j b hb⟩, trivial⟩⟩
                  · show _ = (s'.set id _) j
                    rw [hloc.1, hid]
                    exact alike_set (M := id :: mm) hp3 id _ j hj
                  · have h1 : j ≠ id := fun h => hj (by rw [h]; exact List.mem_cons_self ..)
                    rw [Sto.set_ne _ _ h1]
                    exact (k.loc j (fun h => hj (List.mem_cons_of_mem _ h))).1
                  · intro b hb
                    simp at hb; subst hb
                    exact ⟨id, by rw [q10]; simp⟩
                  · intro hN
                    have hmem := memOf_setRow_same w (c.toList.take (i * e.sz + off) ++ us ++ c.toList.drop (i * e.sz + off + us.length)).toArray q2
                    have hsz' : (c.toList.take (i * e.sz + off) ++ us ++ c.toList.drop (i * e.sz + off + us.length)).length = c.size := by
                      simp only [List.length_append, List.length_take, List.length_drop, Array.length_toList]; omega
                    have hNg : ∀ b, N b → memOf (w.setRow g (c.toList.take (i * e.sz + off) ++ us ++ c.toList.drop (i * e.sz + off + us.length)).toArray) b = memOf w b := fun b hb => (hN b (k.up b hb)).2
                    refine .inr ⟨g, cap, _, T, es.set i v1, Fs, by simpa using e1, hmem, ?_, by simpa using q4, q5, by simp [q6], by simp [q7], fun j hj hj' hj'' => ?_, ?_, by rw [hFl]⟩
                    · simp only [List.size_toArray]
                      rw [hsz', q3]
                    · rw [hF0 j hj'']
                      by_cases hji : j = i
                      · subst hji
                        simp only [List.getElem_set_self]
                        rw [← hG]
                        exact RepT.mono hN (fun b hb => by rw [hG] at hb; simp at hb) k.rep
                      · simp only [List.getElem_set_ne (Ne.symm hji)]
                        have := q8 j (by simpa using hj) (by simpa using hj') hj''
                        rw [hF0 j hj''] at this
                        exact RepT.mono (fun b hb => ⟨k.up b hb, hNg b hb⟩) (by simp) this
                    · simp only
                      rw [hnew]
                      simp
                  · rcases k.new b hb with h | h
                    · exact .inl h
                    · exact .inr (.inl h)
            · cases h
          · cases h
        · split at h
          · rename_i hv
            subst hv
            obtain ⟨z, hz, h⟩ := Option.bind_eq_some_iff.1 h
            split at h
            · rename_i x' s' mm hp
              split at h
              · cases h
              · rename_i hnm
                refine ⟨_, h, Good.write rfl fun st' he hi a w N hd F I => ?_⟩
                have hid := hi id (.inl (by simp)); rw [hs] at hid
                have hu := I.eval x; rw [he x hx, hc] at hu
                obtain ⟨g, len, cap, e1, e2⟩ := hu.2.2 (by rw [hid]) (by rw [hid]; rfl)
                rw [hid] at e2
                have e2' : a.eval x = .pointer (some ⟨g, i * e.sz + off, none⟩) := e2
                obtain ⟨p2, hp2, hp3⟩ := putAt_alike e z off _ _ _ hp (id :: mm) (fun i hi => List.mem_cons_of_mem _ hi) st'.o (fun i hi' => hi i (.inl hi'))
                have hv := I.eval y; rw [he y hy] at hv
                obtain ⟨us, u1, u2⟩ := RepV.cells hv (fun h0 => hl2 (by rw [h0]; rfl))
                have hul := u2.len
                have hob := I.s.obj id; rw [hid] at hob
                obtain ⟨hilt, hzx⟩ := List.getElem?_eq_some_iff.1 hz
                rcases hob with ⟨_, _, q2, _⟩ | ⟨g', cap', c, T, es, Fs, q1, q2, q3, q4, q5, q6, q7, q8, q9, q10⟩
                · rw [q2] at hilt; simp at hilt
                · rw [e1] at q1
                  simp at q1
                  obtain ⟨rfl, rfl, rfl⟩ := q1
                  have hri := q8 i hilt (by omega) (by omega)
                  rw [hzx] at hri
                  obtain ⟨τ, yv, N', F', G, Fa, Fb, k, ksub, kput⟩ := put_split I.s u2 e z es[i] Fs[i] off _ hri hp2 rfl
                  have hloc : p2 id = st'.o id ∧ F' id = F id := k.loc id (by simpa using hnm)
                  have hlen : ∀ y ∈ es, y.length = e.sz := by
                    intro y hy
                    obtain ⟨j, hj, rfl⟩ := List.mem_iff_getElem.1 hy
                    exact (q8 j (by omega) hj (by omega)).len
                  have hput0 := kput (memOf w) N' (fun b hb => ⟨hb, rfl⟩) (fun _ _ => rfl)
                  have hv1 := hput0.len
                  have hfit : off + us.length ≤ es[i].length := by
                    simp only [List.length_append, List.length_take, List.length_drop, hlen _ (List.getElem_mem (show i < es.length by omega))] at hv1 ⊢
                    omega
                  obtain ⟨v1, hvs⟩ : ∃ v1, es[i].take off ++ us ++ es[i].drop (off + us.length) = v1 := ⟨_, rfl⟩
                  rw [hvs] at kput
                  have hfl := flatten_len_of_len es hlen
                  have hcs : c.toList = es.flatten ++ c.toList.drop (es.length * e.sz) := by
                    conv => lhs; rw [← List.take_append_drop (es.length * e.sz) c.toList]
                    rw [← hfl, q9]
                  have hzl : es[i].length = e.sz := hlen _ (List.getElem_mem _)
                  have hrow : (i + 1) * e.sz ≤ es.length * e.sz := Nat.mul_le_mul_right _ (by omega)
                  rw [Nat.add_mul, Nat.one_mul] at hrow
                  have hcap : es.length * e.sz ≤ c.size := by rw [q3, q6]; exact Nat.mul_le_mul_right _ q4
                  have hrun := run_storeVar (P := E.P) (w := w) hsz u1 (by rw [hul, hl1]) (RepCs.one' u2) q2 (off := i * e.sz + off) (by omega)
                  have hnew : c.toList.take (i * e.sz + off) ++ us ++ c.toList.drop (i * e.sz + off + us.length) = (es.set i v1).flatten ++ c.toList.drop (es.length * e.sz) := by
                    have hes : es = es.take i ++ es[i] :: es.drop (i + 1) := by
                      rw [← List.drop_eq_getElem_cons (by omega), List.take_append_drop]
                    have hA : (es.take i).flatten.length = i * e.sz := by
                      rw [flatten_len_of_len _ (fun y hy => hlen y (List.mem_of_mem_take hy)), List.length_take]
                      congr 1; omega
                    have hset := flatten_set es i v1 (by omega)
                    have hfe := flatten_at es i (by omega)
                    have hc2 : c.toList = (es.take i).flatten ++ (es[i] ++ ((es.drop (i + 1)).flatten ++ c.toList.drop (es.length * e.sz))) :=
                      hcs.trans (by rw [hfe]; simp only [List.append_assoc])
                    have := row_put (es.take i).flatten es[i] ((es.drop (i + 1)).flatten ++ c.toList.drop (es.length * e.sz)) us off (by omega)
                    rw [hA, ← hc2, hvs] at this
                    rw [this, hset]
                    simp
                  have hgo : Goes p2 (p2.set id ((p2 id).1, .vec e (xs.set i x'))) hd hd := Goes.set_like id _ (fun _ => by rw [hloc.1, hid]; exact ⟨rfl, rfl, by simp [Obj.vlen]⟩) (by simp [Obj.isB])
                  have hgF : g ∈ F id := by rw [q10]; simp
                  have hFid : ∀ l ∈ Fs, ∀ b ∈ l, b ∈ F id := fun l hl b hb => by rw [q10]; exact List.mem_cons_of_mem _ (List.mem_flatten.2 ⟨l, hl, hb⟩)
                  have hnod := I.s.nodup id
                  rw [q10] at hnod
                  have hgn : ∀ l ∈ Fs, g ∉ l := fun l hl hb => (List.nodup_cons.1 hnod).1 (List.mem_flatten.2 ⟨l, hl, hb⟩)
                  have hGid : ∀ b ∈ G, b ∉ F id := fun b hb => by rw [← hloc.2]; exact (k.own b hb).2.2 id
                  have hFab : ∀ b ∈ Fa ++ Fb, b ∈ Fs[i] := fun b hb => ksub.subset hb
                  have hset2 := flatten_set Fs i (Fa ++ (G ++ Fb)) (by omega)
                  have hat2 := flatten_at Fs i (show i < Fs.length by omega)
                  obtain ⟨Fn, hFn⟩ : ∃ Fn, Fn = g :: (Fs.set i (Fa ++ (G ++ Fb))).flatten := ⟨_, rfl⟩
                  have hFnm : ∀ b ∈ Fn, b ∈ F id ∨ b ∈ G := by
                    intro b hb
                    rw [hFn, hset2] at hb
                    simp only [List.mem_cons, List.mem_append] at hb
                    rcases hb with rfl | hb | (hb | hb | hb) | hb
                    · exact .inl hgF
                    · obtain ⟨l, hl, hb⟩ := List.mem_flatten.1 hb
                      exact .inl (hFid l (List.mem_of_mem_take hl) b hb)
                    · exact .inl (hFid _ (List.getElem_mem _) b (hFab b (List.mem_append_left _ hb)))
                    · exact .inr hb
                    · exact .inl (hFid _ (List.getElem_mem _) b (hFab b (List.mem_append_right _ hb)))
                    · obtain ⟨l, hl, hb⟩ := List.mem_flatten.1 hb
                      exact .inl (hFid l (List.mem_of_mem_drop hl) b hb)
                  have hFnn : Fn.Nodup := by
                    have hp1 : (Fs.set i (Fa ++ (G ++ Fb))).flatten.Perm (G ++ ((Fs.take i).flatten ++ ((Fa ++ Fb) ++ (Fs.drop (i + 1)).flatten))) := by
                      rw [hset2, List.perm_iff_count]
                      intro b
                      simp only [List.count_append]
                      omega
                    have hsubl : ((Fs.take i).flatten ++ ((Fa ++ Fb) ++ (Fs.drop (i + 1)).flatten)).Sublist Fs.flatten := by
                      rw [hat2]
                      exact List.Sublist.append (List.Sublist.refl _) (List.Sublist.append ksub (List.Sublist.refl _))
                    rw [hFn, List.nodup_cons]
                    refine ⟨fun hm => ?_, hp1.nodup_iff.2 (List.nodup_append.2 ⟨k.nod, hsubl.nodup (List.nodup_cons.1 hnod).2, fun b hb b' hb' e => ?_⟩)⟩
                    · rcases List.mem_append.1 (hp1.subset hm) with hm | hm
                      · exact hGid g hm hgF
                      · exact (List.nodup_cons.1 hnod).1 (hsubl.subset hm)
                    · subst e
                      exact hGid b hb (by rw [q10]; exact List.mem_cons_of_mem _ (hsubl.subset hb'))
                  have hFnok : ∀ b ∈ Fn, b < w.heap.size ∧ ¬ N' b ∧ ∀ j, j ≠ id → b ∉ F' j := by
                    intro b hb
                    rcases hFnm b hb with hb | hb
                    · exact ⟨I.s.ltF id b hb, k.inv.sep id b (by rw [hloc.2]; exact hb), fun j hj hb' => hj (k.inv.once j id b hb' (by rw [hloc.2]; exact hb))⟩
                    · obtain ⟨⟨j0, hj0⟩, r1, r2⟩ := k.own b hb
                      exact ⟨I.s.ltF j0 b hj0, r1, fun j _ => r2 j⟩
                  refine ⟨w.setRow g (c.toList.take (i * e.sz + off) ++ us ++ c.toList.drop (i * e.sz + off + us.length)).toArray, [g], p2.set id ((p2 id).1, .vec e (xs.set i x')), N', hd, fun j => if j = id then Fn else F' j, by simp [execOp, ho, Instr.storeAt, Instr.sureAddr, e2', hrun], ⟨fun j hj => ?_, fun j hj => ?_, Moves.setRow w g _, ?_, k.inv.write2 (by rw [hloc.2]; exact hgF) hFnn hFnok hgo ?_, k.up, k.goes.trans hgo, fun b hb => ?_, fun j b hb => ?_, trivial⟩⟩
                  · show _ = (s'.set id _) j
                    rw [hloc.1, hid]
                    exact alike_set (M := id :: mm) hp3 id _ j hj
                  · have h1 : j ≠ id := fun h => hj (by rw [h]; exact List.mem_cons_self ..)
                    rw [Sto.set_ne _ _ h1]
                    exact (k.loc j (fun h => hj (List.mem_cons_of_mem _ h))).1
                  · intro b hb
                    simp at hb; subst hb
                    exact ⟨id, hgF⟩
                  · intro hN
                    have hmem := memOf_setRow_same w (c.toList.take (i * e.sz + off) ++ us ++ c.toList.drop (i * e.sz + off + us.length)).toArray q2
                    have hsz' : (c.toList.take (i * e.sz + off) ++ us ++ c.toList.drop (i * e.sz + off + us.length)).length = c.size := by
                      simp only [List.length_append, List.length_take, List.length_drop, Array.length_toList]; omega
                    have hother : ∀ b, b ≠ g → memOf (w.setRow g (c.toList.take (i * e.sz + off) ++ us ++ c.toList.drop (i * e.sz + off + us.length)).toArray) b = memOf w b := fun b hb => memOf_setRow_other w _ hb
                    rw [hFn]
                    refine .inr ⟨g, cap, _, T, es.set i v1, Fs.set i (Fa ++ (G ++ Fb)), by simpa using e1, hmem, ?_, by simpa using q4, q5, by simp [q6], by simp [q7], fun j hj hj' hj'' => ?_, ?_, rfl⟩
                    · simp only [List.size_toArray]
                      rw [hsz', q3]
                    · by_cases hji : j = i
                      · subst hji
                        simp only [List.getElem_set_self]
                        refine kput _ _ hN (fun b hb => hother b (fun hbg => ?_))
                        subst hbg
                        rcases List.mem_append.1 hb with hb | hb
                        · exact hgn _ (List.getElem_mem _) (hFab b (List.mem_append_left _ hb))
                        · rcases List.mem_append.1 hb with hb | hb
                          · exact hGid b hb hgF
                          · exact hgn _ (List.getElem_mem _) (hFab b (List.mem_append_right _ hb))
                      · simp only [List.getElem_set_ne (Ne.symm hji)]
                        have := q8 j (by simpa using hj) (by simpa using hj') (by simpa using hj'')
                        exact RepT.mono (fun b hb => ⟨k.up b hb, (hN b (k.up b hb)).2⟩) (fun b hb => hother b (fun hbg => by subst hbg; exact hgn _ (List.getElem_mem _) hb)) this
                    · simp only
                      rw [hnew]
                      simp
                  · rcases k.new b hb with h | h
                    · exact .inl h
                    · exact .inr (.inl h)
                  · by_cases hj : j = id
                    · simp only [hj, if_true] at hb
                      rcases hFnm b hb with h | h
                      · exact .inl ⟨id, h⟩
                      · exact .inl (k.own b h).1
                    · simp only [hj, if_false] at hb
                      exact .inl ⟨j, k.sub j b hb⟩
            · cases h
          · cases h
      · cases h
    · cases h
  · cases h

/-- A map's entries as the data tell. -/
def RepEs (m : Mem) (N : Nat → Prop) (v : Ty) : List (Int × v.den) → List MapEntry → Prop
  | [], [] => True
  | p :: xs, e :: es => e.key = .int .i64 p.1 ∧ RepT m N v p.2 [e.val] [] ∧ RepEs m N v xs es
  | _, _ => False
theorem RepEs.of {m : Mem} {N : Nat → Prop} {v : Ty} : ∀ {xs : List (Int × v.den)} {es : List MapEntry}, es.length = xs.length → (∀ (i : Nat) (h : i < xs.length) (h' : i < es.length), es[i].key = .int .i64 xs[i].1 ∧ RepT m N v xs[i].2 [es[i].val] []) → RepEs m N v xs es
  | [], [], _, _ => trivial
  | p :: xs, e :: es, hl, h => ⟨(h 0 (by simp) (by simp)).1, (h 0 (by simp) (by simp)).2, RepEs.of (by simpa using hl) (fun i h1 h2 => by have := h (i + 1) (by simpa using h1) (by simpa using h2); simp only [List.getElem_cons_succ] at this; exact this)⟩
  | [], _ :: _, hl, _ => by simp at hl
  | _ :: _, [], hl, _ => by simp at hl
theorem RepEs.to {m : Mem} {N : Nat → Prop} {v : Ty} : ∀ {xs : List (Int × v.den)} {es : List MapEntry}, RepEs m N v xs es → es.length = xs.length ∧ ∀ (i : Nat) (h : i < xs.length) (h' : i < es.length), es[i].key = .int .i64 xs[i].1 ∧ RepT m N v xs[i].2 [es[i].val] []
  | [], [], _ => ⟨rfl, fun i h => absurd h (by simp)⟩
  | p :: xs, e :: es, ⟨h1, h2, h3⟩ => by
    obtain ⟨k1, k2⟩ := RepEs.to h3
    refine ⟨by simp [k1], fun i h h' => ?_⟩
    cases i with
    | zero => exact ⟨h1, h2⟩
    | succ i => simpa using k2 i (by simpa using h) (by simpa using h')
theorem RepEs.keys {m : Mem} {N : Nat → Prop} {v : Ty} : ∀ {xs : List (Int × v.den)} {es : List MapEntry}, RepEs m N v xs es → ∀ x ∈ es, MapKept.IsKey (.int .i64) x.key
  | [], [], _, x, hx => by simp at hx
  | p :: xs, e :: es, ⟨h1, _, h3⟩, x, hx => by
    rcases List.mem_cons.1 hx with rfl | hx
    · rw [h1]; rfl
    · exact RepEs.keys h3 x hx

theorem RepEs.app {m : Mem} {N : Nat → Prop} {v : Ty} : ∀ {xs ys : List (Int × v.den)} {es fs : List MapEntry}, RepEs m N v xs es → RepEs m N v ys fs → RepEs m N v (xs ++ ys) (es ++ fs)
  | [], _, [], _, _, h => h
  | _ :: _, _, _ :: _, _, ⟨h1, h2, h3⟩, h => ⟨h1, h2, RepEs.app h3 h⟩
/-- What a search finds. -/
theorem RepEs.find {m : Mem} {N : Nat → Prop} {v : Ty} (k : Int) (z : v.den) : ∀ {xs : List (Int × v.den)} {es : List MapEntry} (i : Nat), RepEs m N v xs es →
    (Instr.findNow (.int .i64) (.int .i64 k) es i = some none ∧ mget xs k z = z ∧ mhas xs k = false ∧ (∀ y, mput xs k y = xs ++ [(k, y)])) ∨
    ∃ j e, Instr.findNow (.int .i64) (.int .i64 k) es i = some (some (i + j, e.val)) ∧ es[j]? = some e ∧ e.key = .int .i64 k ∧ RepT m N v (mget xs k z) [e.val] [] ∧ mhas xs k = true ∧
      (∀ (y : v.den) (u : Value), RepT m N v y [u] [] → RepEs m N v (mput xs k y) (es.modify j fun e => { e with key := .int .i64 k, val := u }))
  | [], [], i, _ => .inl ⟨rfl, rfl, rfl, fun _ => rfl⟩
  | p :: xs, e :: es, i, ⟨h1, h2, h3⟩ => by
    obtain ⟨a, b⟩ := p
    simp only at h1 h2
    by_cases hak : a = k
    · subst hak
      refine .inr ⟨0, e, by simp [Instr.findNow, h1, Instr.sameNow], rfl, h1, by simpa [mget] using h2, by simp [mhas], fun y u hu => ?_⟩
      simp only [mput, if_pos, List.modify_zero_cons]
      exact ⟨rfl, hu, h3⟩
    · have hne : (k == a) = false := by simp; exact fun h => hak h.symm
      rcases RepEs.find k z (i + 1) h3 with ⟨f1, f2, f3, f4⟩ | ⟨j, e', f1, f2, f3, f4, f5, f6⟩
      · exact .inl ⟨by simp [Instr.findNow, h1, Instr.sameNow, hne, f1], by simp [mget, hak, f2], by simp [mhas, hak, f3], fun y => by simp [mput, hak, f4 y]⟩
      · refine .inr ⟨j + 1, e', by simp [Instr.findNow, h1, Instr.sameNow, hne, f1]; omega, by simpa using f2, f3, by simpa [mget, hak] using f4, by simp [mhas, hak, f5], fun y u hu => ?_⟩
        simp only [mput, if_neg hak, List.modify_succ_cons]
        exact ⟨h1, h2, f6 y u hu⟩

theorem mapInt_some {P : Program} {t e : TypeId} (h : mapInt P t = some e) : ∃ k, P.underlying t = some (.map k e) ∧ P.underlying k = some (.int .i64) := by
  unfold mapInt at h
  split at h
  · rename_i k e' hu
    split at h
    · rename_i hk
      obtain rfl := Option.some.inj h
      exact ⟨k, hu, hk⟩
    · cases h
  · cases h

theorem good_makeMap {t : TypeId} {rs : Option Operand} (ho : o.op = .makeMap t rs) (h : exOp E O o st K = some r) : ∃ e, K e = some r ∧ Good E X o st e := by
  simp only [exOp, ho] at h
  split at h
  · split at h
    · split at h
      · rename_i τ hτ
        refine ⟨_, h, Good.make fun st' he hi a w N hd F I => ?_⟩
        have hid : st'.o (newId o.dst) = st.o (newId o.dst) := hi _ (.inl (by simp))
        have hmem : ∀ k, k < w.heap.size → memOf (w.alloc (.map #[] 0)) k = memOf w k := fun k hk => memOf_alloc_old w _ hk
        have I1 : SInv (memOf (w.alloc (.map #[] 0))) N st'.o hd F (w.alloc (.map #[] 0)).heap.size := I.s.world (by simp) hmem
        have hF : Fresh N F (w.alloc (.map #[] 0)).heap.size [w.heap.size] := ⟨by simp, by simp, by intro k hk; simp at hk; subst hk; exact fun h => Nat.lt_irrefl _ (I.s.ltN _ h), by
          intro k hk i hk'; simp at hk; subst hk; exact Nat.lt_irrefl _ (I.s.ltF i _ hk')⟩
        have k := new_ok I1 (newId o.dst) ((st.o (newId o.dst)).1 + 1) (.mapo τ []) (.map (some w.heap.size)) [w.heap.size] hF (by rw [hid]; omega) (fun s' hd' _ _ => ⟨w.heap.size, #[], 0, rfl, memOf_alloc_new w _, rfl, fun i h => absurd h (by simp), rfl⟩)
        refine ⟨.map (some w.heap.size), w.alloc (.map #[] 0), [], _, N, _, _, by simp [execOp, ho, Go.RowKit.run_makeMap], ⟨fun i hi' => ?_, fun i hi' => ?_, Moves.alloc w _, by simp, k.inv, fun _ h => h, k.goes, fun _ h => .inl h, fun i k' hk => ?_, ?_⟩⟩
        · simp at hi'; subst hi'
          show _ = (st.o.set _ _) _
          rw [Sto.set_same, Sto.set_same]
        · simp at hi'
          exact Sto.set_ne _ _ hi'
        · rcases k.sub i k' hk with h | h
          · exact .inl ⟨i, h⟩
          · simp at h; subst h; exact .inr (Nat.le_refl _)
        · exact ⟨by simp [Sto.set_same], rfl, fun _ _ => by simp⟩
      · cases h
    · cases h
  · cases h

theorem good_lookup {t : TypeId} {x i : Operand} {ok : Bool} (ho : o.op = .lookup t x i ok) (h : exOp E O o st K = some r) : ∃ e, K e = some r ∧ Good E X o st e := by
  have hx : x ∈ o.op.operands := by rw [ho]; simp [Op.operands]
  have hi : i ∈ o.op.operands := by rw [ho]; simp [Op.operands]
  simp only [exOp, ho] at h
  replace h := one_some h
  obtain ⟨c, hc, h⟩ := h
  replace h := one_some h
  obtain ⟨d, hd, h⟩ := h
  split at h
  · rename_i id ver k
    split at h
    · rename_i v τ xs e hs hm
      obtain ⟨kt, hu, hk⟩ := mapInt_some hm
      split at h
      · rename_i σ z hz
        split at h
        · rename_i hv
          obtain ⟨rfl, hzo⟩ := hv
          split at h
          · rename_i hσ
            subst hσ
            have main : ∀ {a : Act} {w : World} {N : Nat → Prop} {s' : Sto} {hd' : Nat → Value} {F : Nat → List Nat}, (∀ i ∈ [id], s' i = st.o i) → SInv (memOf w) N s' hd' F w.heap.size → RepC (memOf w) N s' hd' (.mp id v) (a.eval x) → RepC (memOf w) N s' hd' (.imm (.int .i64) k) (a.eval i) →
                ∃ u b, (Instr.lookup t (a.eval x) (a.eval i) ok).run E.P w = .ok (if ok = true then .tuple #[u, .bool b] else u) w ∧ RepT (memOf w) N σ (mget xs k (castDen rfl z)) [u] [] ∧ b = mhas xs k := by
              intro a w N s' hd' F hm' I h1 h2
              have hid := hm' id (by simp); rw [hs] at hid
              have hob := I.obj id; rw [hid] at hob
              have e0 : a.eval x = hd' id := h1.2.2 (by rw [hid]) (by rw [hid]; rfl)
              obtain ⟨g, es, clock, e1, e2, e3, e4, _⟩ := hob
              have e1' : hd' id = .map (some g) := by simpa using e1
              rw [e1'] at e0
              have e5 := imm_int h2
              have hg : w.heap[g]? = some (.map es clock) := e2
              have hR : RepEs (memOf w) N σ xs es.toList := RepEs.of (by simpa using e3) (fun i h h' => by simpa using e4 i h (by simpa using h'))
              obtain ⟨it, zv, hi1, hi2, hi3, hi4⟩ := run_zeroValue hz
              have hkey : MapKept.IsKey (.int .i64) (.int .i64 k) := rfl
              rcases RepEs.find k (castDen rfl z) 0 hR with ⟨f1, f2, f3, _⟩ | ⟨j, e', f1, f2, f3, f4, f5, _⟩
              · have hzr : RepCs (memOf w) N s' hd' [.imm σ z] zv.cells.toList := constCs_rep hi3
                match hzl : zv.cells.toList, hzr with
                | [u], ⟨hzr, _⟩ =>
                  have hone : zv = u := by
                    have h1 : zv.oneCell' = true := by
                      simp only [zeroOne, hi1, hi2, Option.bind_some] at hzo
                      cases zv <;> first | rfl | cases hzo
                    rw [cells_one h1] at hzl
                    simpa using hzl
                  refine ⟨u, false, ?_, by rw [f2]; exact hzr, f3.symm⟩
                  subst hone
                  cases ok <;> simp [Instr.lookup, run_underlying hu, e0, MapKept.run_getObj_map hg, e5, MapKept.run_checkKey hk hkey, MapKept.run_findKey hk f1, hi4, Result.andThen]
              · refine ⟨e'.val, true, ?_, f4, f5.symm⟩
                cases ok <;> simp [Instr.lookup, run_underlying hu, e0, MapKept.run_getObj_map hg, e5, MapKept.run_checkKey hk hkey, MapKept.run_findKey hk f1, Result.andThen]
            split at h
            · rename_i hok
              subst hok
              refine ⟨_, h, good_two hc hx hd hi fun {a w N s' hd' F} hm' I h1 h2 => ?_⟩
              obtain ⟨u, b, hrun, hr, hb⟩ := main hm' I h1 h2
              subst hb
              exact ⟨.tuple #[u, .bool (mhas xs k)], by simp [execOp, ho, hrun], [u, .bool (mhas xs k)], rfl, hr, ⟨rfl, rfl⟩, trivial⟩
            · rename_i hok
              have hok' : ok = false := by simpa using hok
              subst hok'
              refine ⟨_, h, good_two hc hx hd hi fun {a w N s' hd' F} hm' I h1 h2 => ?_⟩
              obtain ⟨u, b, hrun, hr, hb⟩ := main hm' I h1 h2
              exact ⟨u, by simp [execOp, ho, hrun], hr⟩
          · cases h
        · cases h
      · cases h
    · cases h
  · cases h

theorem Moves.setHeap (w : World) (g : Nat) (o' : Go.Obj) : Moves w { w with heap := w.heap.setIfInBounds g o' } [g] :=
  ⟨rfl, rfl, rfl, by simp, fun k _ hW => by simp [Ne.symm (fun h => hW (by simp [h]) : k ≠ g)]⟩

theorem good_mapUpdate {t : TypeId} {x i y : Operand} (ho : o.op = .mapUpdate t x i y) (h : exOp E O o st K = some r) : ∃ e, K e = some r ∧ Good E X o st e := by
  have hx : x ∈ o.op.operands := by rw [ho]; simp [Op.operands]
  have hi : i ∈ o.op.operands := by rw [ho]; simp [Op.operands]
  have hy : y ∈ o.op.operands := by rw [ho]; simp [Op.operands]
  simp only [exOp, ho] at h
  replace h := one_some h
  obtain ⟨c, hc, h⟩ := h
  replace h := one_some h
  obtain ⟨d, hd, h⟩ := h
  replace h := one_some h
  obtain ⟨f, hf, h⟩ := h
  split at h
  · rename_i id ver n σ z
    split at h
    · rename_i v τ xs e hs hm
      obtain ⟨kt, hu, hk⟩ := mapInt_some hm
      split at h
      · rename_i hv
        obtain ⟨rfl, himm⟩ := hv
        split at h
        · rename_i hσ
          subst hσ
          refine ⟨_, h, Good.write rfl fun st' he hi' a w N hd' F I => ?_⟩
          have hid := hi' id (.inl (by simp)); rw [hs] at hid
          have h1 := I.eval x; rw [he x hx, hc] at h1
          have h2 := I.eval i; rw [he i hi, hd] at h2
          have h3 := I.eval y; rw [he y hy, hf] at h3
          have hob := I.s.obj id; rw [hid] at hob
          have e0 : a.eval x = hd' id := h1.2.2 (by rw [hid]) (by rw [hid]; rfl)
          obtain ⟨g, es, clock, e1, e2, e3, e4, e5⟩ := hob
          have e1' : hd' id = .map (some g) := by simpa using e1
          rw [e1'] at e0
          have e6 : a.eval i = .int .i64 n := imm_int (m := memOf w) (N := N) (s := st'.o) (hd := hd') h2
          have h3' : RepT (memOf w) N σ z [a.eval y] [] := h3
          have hg : w.heap[g]? = some (.map es clock) := e2
          have hR : RepEs (memOf w) N σ xs es.toList := RepEs.of (by simpa using e3) (fun i h h' => by simpa using e4 i h (by simpa using h'))
          have hkey : MapKept.IsKey (.int .i64) (.int .i64 n) := rfl
          obtain ⟨es', clock', hrun, hR'⟩ : ∃ es' clock', (Instr.mapUpdate t (.map (some g)) (.int .i64 n) (a.eval y)).run E.P w = .ok () { w with heap := w.heap.setIfInBounds g (.map es' clock') } ∧ RepEs (memOf w) N σ (mput xs n z) es'.toList := by
            rcases RepEs.find n z 0 hR with ⟨f1, _, _, f4⟩ | ⟨j, e', f1, f2, f3, _, _, f6⟩
            · refine ⟨es.push { key := .int .i64 n, val := a.eval y, born := clock }, clock + 1, by simp [Instr.mapUpdate, run_underlying hu, MapKept.run_getObj_map hg, MapKept.run_checkKey hk hkey, MapKept.run_findKey hk f1, MapKept.run_setObj_map _ hg, Result.andThen], ?_⟩
              rw [f4 z, Array.toList_push]
              exact RepEs.app hR ⟨rfl, h3', trivial⟩
            · have hj : es[j]? = some e' := by simpa using f2
              rw [Nat.zero_add] at f1
              refine ⟨es.modify j fun e => { e with key := .int .i64 n, val := a.eval y }, clock, by simp [Instr.mapUpdate, run_underlying hu, MapKept.run_getObj_map hg, MapKept.run_checkKey hk hkey, MapKept.run_findKey hk f1, hj, f3, MapKept.run_keyThatStays hkey, MapKept.run_setObj_map _ hg, Result.andThen], ?_⟩
              rw [Array.toList_modify]
              exact f6 z _ h3'
          have hset := MapKept.heap_set (o' := .map es' clock') hg
          have hgo : Goes st'.o (st'.o.set id ((st'.o id).1, .mapo σ (mput xs n z))) hd' hd' := Goes.set_like id _ (by simp [Obj.isV]) (fun _ => by rw [hid]; rfl)
          have hne : ∀ b, N b → b ≠ g := fun b hb e => by subst e; exact I.s.sep id b (by rw [e5]; simp) hb
          have hN : ∀ b, N b → N b ∧ memOf { w with heap := w.heap.setIfInBounds g (.map es' clock') } b = memOf w b := fun b hb => ⟨hb, hset.2 b (hne b hb)⟩
          have hR2 := RepEs.to hR'
          have hinv := I.s.upd (m' := memOf { w with heap := w.heap.setIfInBounds g (.map es' clock') }) (N' := N) (hd' := hd') (size' := w.heap.size) id ((st'.o id).1, .mapo σ (mput xs n z)) [g] (Nat.le_refl _) hN (fun k hk => ⟨I.s.ltN k hk, fun i _ hi => I.s.sep i k hi hk, by simpa using hne k hk⟩)
            (fun i hi k hk => hset.2 k (fun e => hi (I.s.once i id k hk (by rw [e5, e]; simp)))) (by simp) (fun k hk => by
              simp at hk; subst hk
              exact ⟨I.s.ltF id k (by rw [e5]; simp), fun i hi h => hi (I.s.once i id k h (by rw [e5]; simp))⟩) hgo (fun _ _ => rfl) ⟨g, es', clock', by simpa using e1', hset.1, by simpa using hR2.1, fun i h h' => ⟨(hR2.2 i h (by simpa using h')).1, RepT.mono hN (by simp) (hR2.2 i h (by simpa using h')).2⟩, rfl⟩
          have hF : (fun i => if i = id then [g] else F i) = F := by
            funext i
            by_cases e : i = id
            · simp [e, e5]
            · simp [e]
          rw [hF] at hinv
          refine ⟨{ w with heap := w.heap.setIfInBounds g (.map es' clock') }, [g], st'.o.set id ((st'.o id).1, .mapo σ (mput xs n z)), N, hd', F, by simp [execOp, ho, e0, e6, hrun], ⟨fun j hj => ?_, fun j hj => ?_, Moves.setHeap w g _, ?_, by simpa using hinv, fun _ h => h, hgo, fun _ h => .inl h, fun j b hb => .inl ⟨j, hb⟩, trivial⟩⟩
          · simp at hj; subst hj
            show _ = (st.o.set _ _) _
            rw [Sto.set_same, Sto.set_same, hid]; rfl
          · simp at hj
            exact Sto.set_ne _ _ hj
          · intro b hb
            simp at hb; subst hb
            exact ⟨id, by rw [e5]; simp⟩
        · cases h
      · cases h
    · cases h
  · cases h
end

end Go.Proofs.YtofkhmedmeihiaaPn.Ev
