/- The evaluator: slices, indices, conversions. -/
import Derived.Test.YtofkhmedmeihiaaPnEvI
namespace Go.Proofs.YtofkhmedmeihiaaPn.Ev
open Go

section
variable {R : Type} {r : R}
theorem boundsK_ok {n : Nat} {st : St} {lo hi : Option Operand} {K : Nat → Nat → Option R} (h : boundsK (n : Int) (lo.map st.eval) (hi.map st.eval) K = some r) :
    ∃ l u, K l u = some r ∧ l ≤ u ∧ u ≤ n ∧ ∀ ev : Operand → Value, (∀ x, lo = some x ∨ hi = some x → ∀ k i, st.eval x = .one (.imm (.int k) i) → ev x = .int k i) →
      ∀ (P : Program) (w : World) (b : Bool) (cap : Nat), n ≤ cap → (Instr.sliceBounds b n cap (lo.map ev) (hi.map ev) none).run P w = .ok (l, u, cap) w := by
  have fin : ∀ (l u : Int), (if 0 ≤ l ∧ l ≤ u ∧ u ≤ (n : Int) then K l.toNat u.toNat else none) = some r → (∀ (ev : Operand → Value), (∀ x, lo = some x ∨ hi = some x → ∀ k i, st.eval x = .one (.imm (.int k) i) → ev x = .int k i) →
      ((lo = none ∧ l = 0) ∨ ∃ x k, lo = some x ∧ ev x = .int k l) ∧ ((hi = none ∧ u = n) ∨ ∃ x k, hi = some x ∧ ev x = .int k u)) →
      ∃ l u, K l u = some r ∧ l ≤ u ∧ u ≤ n ∧ ∀ ev : Operand → Value, (∀ x, lo = some x ∨ hi = some x → ∀ k i, st.eval x = .one (.imm (.int k) i) → ev x = .int k i) →
      ∀ (P : Program) (w : World) (b : Bool) (cap : Nat), n ≤ cap → (Instr.sliceBounds b n cap (lo.map ev) (hi.map ev) none).run P w = .ok (l, u, cap) w := by
    intro l u hk hv
    split at hk
    · rename_i hb
      obtain ⟨b1, b2, b3⟩ := hb
      refine ⟨l.toNat, u.toNat, hk, by omega, by omega, fun ev he P w b cap hc => ?_⟩
      have hu : ((u.toNat : Nat) : Int) = u := Int.toNat_of_nonneg (by omega)
      have hl : ((l.toNat : Nat) : Int) = l := Int.toNat_of_nonneg b1
      obtain ⟨h1, h2⟩ := hv ev he
      have s1 : ∀ k c, (Instr.sliceBound (.int k u) cap c).run P w = .ok u.toNat w := fun k c => run_sliceBound w k u cap c (by omega) (by omega)
      have s2 : ∀ k c, (Instr.sliceBound (.int k l) u.toNat c).run P w = .ok l.toNat w := fun k c => run_sliceBound w k l _ c b1 (by omega)
      rcases h2 with ⟨rfl, e2⟩ | ⟨y, k2, rfl, e2⟩
      · have e3 : u.toNat = n := by omega
        rw [e3] at s2
        rw [e3]
        rcases h1 with ⟨rfl, e1⟩ | ⟨x, k, rfl, e1⟩
        · have e4 : l.toNat = 0 := by omega
          rw [e4]; cases b <;> simp [Instr.sliceBounds]
        · cases b <;> simp [Instr.sliceBounds, e1, s2]
      · rcases h1 with ⟨rfl, e1⟩ | ⟨x, k, rfl, e1⟩
        · have e4 : l.toNat = 0 := by omega
          rw [e4]; cases b <;> simp [Instr.sliceBounds, e2, s1]
        · cases b <;> simp [Instr.sliceBounds, e1, e2, s1, s2]
    · cases hk
  unfold boundsK at h
  dsimp only at h
  cases lo with
  | none =>
    cases hi with
    | none => exact fin _ _ h fun ev he => ⟨.inl ⟨rfl, rfl⟩, .inl ⟨rfl, rfl⟩⟩
    | some y =>
      simp only [Option.map_none, Option.map_some] at h
      split at h
      · cases ‹some (st.eval y) = none›
      · rename_i k i hy
        simp only [Option.some.injEq] at hy
        exact fin _ _ h fun ev he => ⟨.inl ⟨rfl, rfl⟩, .inr ⟨y, k, rfl, he y (.inr rfl) k i hy⟩⟩
      · cases h
  | some x =>
    simp only [Option.map_some] at h
    split at h
    · cases ‹some (st.eval x) = none›
    · rename_i k i hx
      simp only [Option.some.injEq] at hx
      cases hi with
      | none => exact fin _ _ h fun ev he => ⟨.inr ⟨x, k, rfl, he x (.inl rfl) k i hx⟩, .inl ⟨rfl, rfl⟩⟩
      | some y =>
        simp only [Option.map_some] at h
        split at h
        · cases ‹some (st.eval y) = none›
        · rename_i k' i' hy
          simp only [Option.some.injEq] at hy
          exact fin _ _ h fun ev he => ⟨.inr ⟨x, k, rfl, he x (.inl rfl) k i hx⟩, .inr ⟨y, k', rfl, he y (.inr rfl) k' i' hy⟩⟩
        · cases h
    · cases h
end

section
variable {E : Env} {O : Oracle E} {X : Ctx} {o : Oper} {st : St} {R : Type} {K : Eff → Option R} {r : R}

theorem run_slice_sub {P : Program} {w : World} {t te : TypeId} (ht : P.underlying t = some (.slice te)) (hs : szP P te ≠ 0) {a : Option Addr} {n cap l u : Nat} {lo hi : Option Value}
    (hb : (Instr.sliceBounds true n cap lo hi none).run P w = .ok (l, u, cap) w) : (Instr.sliceAt t (.slice a n cap) lo hi none).run P w = .ok (subV (.slice a n cap) (szP P te) l u) w := by
  have hsz := run_sizeOf hs w
  simp [Instr.sliceAt, Instr.slice, run_underlying ht, hb, hsz, subV]

theorem good_slice {t : TypeId} {x : Operand} {lo hi mx : Option Operand} (ho : o.op = .slice t x lo hi mx) (h : exOp E O o st K = some r) : ∃ e, K e = some r ∧ Good E X o st e := by
  have hx : x ∈ o.op.operands := by rw [ho]; simp [Op.operands]
  have hlo : ∀ y, lo = some y ∨ hi = some y → y ∈ o.op.operands := by
    intro y hy; rw [ho]; rcases hy with rfl | rfl <;> simp [Op.operands]
  simp only [exOp, ho] at h
  cases mx with
  | some _ => cases h
  | none =>
  replace h := one_some h
  obtain ⟨c, hc, h⟩ := h
  have gen : ∀ {v : V} {s : Sto} {rd : List Nat}, (∀ {a : Act} {w : World} {N : Nat → Prop} {s' : Sto} {hd : Nat → Value} {F : Nat → List Nat}, (∀ i ∈ rd, s' i = st.o i) → SInv (memOf w) N s' hd F w.heap.size → RepC (memOf w) N s' hd c (a.eval x) →
      (∀ y, lo = some y ∨ hi = some y → ∀ k i, st.eval y = .one (.imm (.int k) i) → a.eval y = .int k i) →
      ∃ u, (Instr.sliceAt t (a.eval x) (lo.map a.eval) (hi.map a.eval) none).run E.P w = .ok u w ∧ RepV (memOf w) N s' hd v u) → Good E X o st { v, s, r := rd } := by
    intro v s rd hg
    refine Good.val fun st' he hm a w N hd' F I => ?_
    have h1 := I.eval x
    rw [he x hx, hc] at h1
    obtain ⟨u, h2, h3⟩ := hg hm I.s h1 fun y hy k i hyi => by
      have h2 := I.eval y
      rw [he y (hlo y hy), hyi] at h2
      exact imm_int (m := memOf w) (N := N) (s := st'.o) (hd := hd') h2
    exact ⟨u, by simp [execOp, ho, h2], h3⟩
  have ew : ∀ {d : TypeDesc}, E.P.underlying t = some d → ∀ {te}, d = .slice te → (elemP E.P t).getD 0 = te := by
    intro d hd te e; subst e; simp [elemP, hd]
  unfold sliceK at h
  split at h
  · rename_i y hu
    obtain ⟨l, u, h, h1, h2, hb⟩ := boundsK_ok h
    refine ⟨_, h, gen fun {a w N s' hd F} hm I hv he => ⟨.string ⟨⟨(y.take u).drop l⟩⟩, ?_, rfl, rfl⟩⟩
    have e1 := imm_str hv
    have hb' := hb a.eval he E.P w false _ (Nat.le_refl _)
    simp [Instr.sliceAt, Instr.slice, run_underlying hu, e1, size_mk, hb', extract_mk]
  · rename_i te e y hu
    split at h
    · rename_i hsz
      obtain ⟨l, u, h, h1, h2, hb⟩ := boundsK_ok h
      rw [ew hu rfl] at hsz
      refine ⟨_, h, gen fun {a w N s' hd F} hm I hv he => ?_⟩
      have hv' := RepT.slice hv h1 h2
      obtain ⟨_, ad, cap, es, e1, hcap, _⟩ := hv
      have e1' : a.eval x = .slice ad (List.length y) cap := by simpa using e1
      rw [e1'] at hv' ⊢
      rw [hsz.1] at hv'
      exact ⟨_, run_slice_sub hu hsz.2 (hb a.eval he E.P w true cap hcap), hv'⟩
    · cases h
  · rename_i te hu
    split at h
    · rename_i hsz
      rw [ew hu rfl] at hsz
      obtain ⟨l, u, h, h1, h2, hb⟩ := boundsK_ok (n := 0) h
      refine ⟨_, h, gen fun {a w N s' hd F} hm I hv he => ?_⟩
      obtain ⟨ad, e1⟩ := hv
      have hu0 : u = 0 := by omega
      have hl0 : l = 0 := by omega
      subst hu0; subst hl0
      rw [e1]
      exact ⟨_, run_slice_sub hu hsz (hb a.eval he E.P w true 0 (Nat.le_refl _)), ad, by simp [subV]⟩
    · cases h
  · rename_i te id ver hu
    split at h
    · rename_i v e xs hs
      split at h
      · rename_i hsz
        obtain ⟨rfl, hsz, hsz'⟩ := hsz
        rw [ew hu rfl] at hsz hsz'
        obtain ⟨l, u, h, h1, h2, hb⟩ := boundsK_ok h
        refine ⟨_, h, gen fun {a w N s' hd F} hm I hv he => ?_⟩
        have hid := hm id (by simp); rw [hs] at hid
        have hob := I.obj id; rw [hid] at hob
        have e1 := RepC.own_hd hv hid rfl
        obtain ⟨ad, cap, hl⟩ := RepT.own_len hob
        have hcap : List.length xs ≤ cap := by
          rcases hob with ⟨_, q1, q2, _⟩ | ⟨g, cap', c, T, es, Fs, q1, q2, q3, q4, _⟩
          · subst q2; simp
          · rw [hl] at q1
            simp at q1
            obtain ⟨_, rfl⟩ := q1
            exact q4
        rw [e1, hl]
        refine ⟨_, run_slice_sub hu hsz' (hb a.eval he E.P w true cap hcap), ?_, ?_, fun q1 q2 => ⟨?_, h1, ?_⟩⟩
        · rw [hid]; exact Nat.le_refl _
        · exact subV_one rfl _ _ _
        · rw [hid, hl]
          show _ = subV _ e.sz l u
          rw [hsz]
        · rw [hid]; exact h2
      · cases h
    · rename_i v e xs hs
      split at h
      · rename_i hsz
        obtain ⟨rfl, hsz, hsz'⟩ := hsz
        rw [ew hu rfl] at hsz hsz'
        obtain ⟨l, u, h, h1, h2, hb⟩ := boundsK_ok h
        refine ⟨_, h, gen fun {a w N s' hd F} hm I hv he => ?_⟩
        have hid := hm id (by simp); rw [hs] at hid
        have hob := I.obj id; rw [hid] at hob
        have e1 := RepC.own_hd hv hid rfl
        have hv' := RepT.slice hob.2 h1 h2
        obtain ⟨_, _, ad, cap, es, e2, hcap, _⟩ := hob
        have e2' : hd id = .slice ad (List.length xs) cap := by simpa using e2
        rw [e1, e2']
        rw [e2', hsz] at hv'
        exact ⟨_, run_slice_sub hu hsz' (hb a.eval he E.P w true cap hcap), hv'⟩
      · cases h
    · cases h
  · cases h

theorem idx_some {α : Type} {xs : List α} {i : Int} {x : α} (h : idx xs i = some x) : 0 ≤ i ∧ i.toNat < xs.length ∧ xs[i.toNat]? = some x := by
  unfold idx at h
  split at h
  · rename_i h0
    exact ⟨h0, (List.getElem?_eq_some_iff.1 h).1, h⟩
  · cases h

theorem run_indexAt' {P : Program} {w : World} {t te : TypeId} (ht : P.underlying t = some (.slice te)) (hs : szP P te ≠ 0) {a : Addr} {n cap : Nat} {k : IntKind} {i : Int} (h0 : 0 ≤ i) (h1 : i < n) :
    (Instr.indexAt t (.slice (some a) n cap) (.int k i)).run P w = .ok (.pointer (some (a.add (i.toNat * szP P te)))) w := by
  have hsz := run_sizeOf hs w
  simp [Instr.indexAt, run_underlying ht, asIntOf, h0, h1, hsz]

/-- One element of data that is read, as a pointer to it. -/
theorem RepT.elem {m : Mem} {N : Nat → Prop} {e : Ty} {xs : List e.den} {v : Value} (h : RepT m N (.sl e) xs [v] []) {j : Nat} {x : e.den} (hj : xs[j]? = some x) :
    ∃ b off cap es, v = .slice (some ⟨b, off, none⟩) (List.length xs) cap ∧ N b ∧ RepT m N e x es [] ∧ cellsIn m b (off + j * e.sz) es := by
  obtain ⟨_, a, cap, es, e1, hcap, hl, hr, hm⟩ := h
  obtain ⟨hlt, hx⟩ := List.getElem?_eq_some_iff.1 hj
  have hne : xs ≠ [] := by intro hh; rw [hh] at hlt; simp at hlt
  obtain ⟨b, off, rfl, hb, hc⟩ := hm hne
  have hr' := hr j hlt (by omega)
  rw [hx] at hr'
  refine ⟨b, off, cap, es[j]'(by omega), by simpa using e1, hb, hr', ?_⟩
  have hlen : ∀ y ∈ es, y.length = e.sz := by
    intro y hy
    obtain ⟨i, hi, rfl⟩ := List.mem_iff_getElem.1 hy
    exact (hr i (by omega) hi).len
  have hs := hc.sub (j * e.sz) (1 * e.sz)
  rw [flatten_drop_of_len es j hlen, flatten_take_of_len (es.drop j) 1 (fun x hx => hlen x (List.mem_of_mem_drop hx))] at hs
  have he : (es.drop j).take 1 = [es[j]'(by omega)] := by
    rw [List.drop_eq_getElem_cons (show j < es.length by omega)]; rfl
  rw [he] at hs
  simpa using hs

theorem good_indexAddr {t : TypeId} {x i : Operand} (ho : o.op = .indexAddr t x i) (h : exOp E O o st K = some r) : ∃ e, K e = some r ∧ Good E X o st e := by
  have hx : x ∈ o.op.operands := by rw [ho]; simp [Op.operands]
  have hi : i ∈ o.op.operands := by rw [ho]; simp [Op.operands]
  simp only [exOp, ho] at h
  replace h := one_some h
  obtain ⟨c, hc, h⟩ := h
  replace h := one_some h
  obtain ⟨d, hd, h⟩ := h
  split at h
  · rename_i k j0
    obtain ⟨j, hj'⟩ : ∃ z : Int, z = j0 := ⟨j0, rfl⟩
    subst hj'
    split at h
    · cases h
    · rename_i te hte
      have hu := elemP_some hte
      split at h
      · cases h
      · rename_i hsz
        split at h
        · rename_i e xs
          split at h
          · rename_i hez
            obtain ⟨y, hy, h⟩ := Option.bind_eq_some_iff.1 h
            obtain ⟨y0, y1, y2⟩ := idx_some hy
            refine ⟨_, h, good_two hc hx hd hi fun {a w N s' hd F} hm I h1 h2 => ?_⟩
            have e2 := imm_int h2
            obtain ⟨b, off, cap, es, e1, hb, hr, hcl⟩ := RepT.elem h1 y2
            refine ⟨_, ?_, b, _, es, rfl, hb, hr, hcl⟩
            have hlt : j < ((List.length xs : Nat) : Int) := by omega
            simp [execOp, ho, e1, e2, run_indexAt' hu hsz y0 hlt, Addr.add_none, hez]
          · cases h
        · rename_i id ver
          split at h
          · rename_i v e xs hs
            split at h
            · rename_i hez
              obtain ⟨rfl, hez⟩ := hez
              split at h
              · rename_i hb0
                have hb : 0 ≤ j ∧ j < ((List.length xs : Nat) : Int) := hb0
                refine ⟨_, h, good_two hc hx hd hi fun {a w N s' hd F} hm I h1 h2 => ?_⟩
                have hid := hm id (by simp); rw [hs] at hid
                have hob := I.obj id; rw [hid] at hob
                have e1 := RepC.own_hd h1 hid rfl
                have e2 := imm_int h2
                rcases hob with ⟨_, q1, q2, _⟩ | ⟨g, cap, c, T, es, Fs, q1, _⟩
                · subst q2; simp at hb; omega
                · have q1' : hd id = .slice (some ⟨g, 0, none⟩) (List.length xs) cap := by simpa using q1
                  rw [q1'] at e1
                  refine ⟨.pointer (some ⟨g, j.toNat * szP E.P te, none⟩), by simp [execOp, ho, e1, e2, run_indexAt' hu hsz hb.1 hb.2, Addr.add_none], ?_, rfl, fun z1 z2 => ⟨g, _, _, q1', ?_⟩⟩
                  · rw [hid]; exact Nat.le_refl _
                  · rw [hid]
                    show _ = Value.pointer (some ⟨g, j.toNat * e.sz + 0, none⟩)
                    rw [hez]; rfl
              · cases h
            · cases h
          · rename_i v e xs hs
            split at h
            · rename_i hez
              obtain ⟨rfl, hez⟩ := hez
              obtain ⟨y, hy, h⟩ := Option.bind_eq_some_iff.1 h
              obtain ⟨y0, y1, y2⟩ := idx_some hy
              refine ⟨_, h, good_two hc hx hd hi fun {a w N s' hd F} hm I h1 h2 => ?_⟩
              have hid := hm id (by simp); rw [hs] at hid
              have hob := I.obj id; rw [hid] at hob
              have e0 := RepC.own_hd h1 hid rfl
              have e2 := imm_int h2
              obtain ⟨b, off, cap, es, e1, hb, hr, hcl⟩ := RepT.elem hob.2 y2
              rw [e1] at e0
              refine ⟨_, ?_, b, _, es, rfl, hb, hr, hcl⟩
              have hlt : j < ((List.length xs : Nat) : Int) := by omega
              simp [execOp, ho, e0, e2, run_indexAt' hu hsz y0 hlt, Addr.add_none, hez]
            · cases h
          · rename_i v e xs i1 x1 off1 id1 ver1 hs
            split at h
            · rename_i hez
              obtain ⟨rfl, hez⟩ := hez
              split at h
              · rename_i hb0
                have hb : 0 ≤ j ∧ j < ((List.length xs : Nat) : Int) := hb0
                refine ⟨_, h, good_two hc hx hd hi fun {a w N s' hd F} hm I h1 h2 => ?_⟩
                have hid := hm id (by simp); rw [hs] at hid
                have hob := I.obj id; rw [hid] at hob
                have e1 := RepC.own_hd h1 hid rfl
                have e2 := imm_int h2
                obtain ⟨_, _, _, _, _, _, ⟨g, cap, q1'⟩, _⟩ := hob
                rw [q1'] at e1
                refine ⟨.pointer (some ⟨g, j.toNat * szP E.P te, none⟩), by simp [execOp, ho, e1, e2, run_indexAt' hu hsz hb.1 hb.2, Addr.add_none], ?_, rfl, fun z1 z2 => ⟨g, _, _, q1', ?_⟩⟩
                · rw [hid]; exact Nat.le_refl _
                · rw [hid]
                  show _ = Value.pointer (some ⟨g, j.toNat * e.sz + 0, none⟩)
                  rw [hez]; rfl
              · cases h
            · cases h
          · cases h
        · rename_i id ver lo u
          split at h
          · rename_i v e xs hs
            split at h
            · rename_i hez
              obtain ⟨rfl, hez⟩ := hez
              split at h
              · rename_i hb0
                have hb : 0 ≤ j ∧ j < ((u : Nat) : Int) - ((lo : Nat) : Int) := hb0
                refine ⟨_, h, good_two hc hx hd hi fun {a w N s' hd F} hm I h1 h2 => ?_⟩
                have hid := hm id (by simp); rw [hs] at hid
                have hob := I.obj id; rw [hid] at hob
                obtain ⟨e1, l1, l2⟩ := RepC.sub_hd h1 hid rfl
                have l2' : u ≤ List.length xs := l2
                have e2 := imm_int h2
                rcases hob with ⟨_, q1, q2, _⟩ | ⟨g, cap, c, T, es, Fs, q1, _, _, q4, _⟩
                · subst q2; simp at l2'; omega
                · have q1' : hd id = .slice (some ⟨g, 0, none⟩) (List.length xs) cap := by simpa using q1
                  rw [q1'] at e1
                  have e1' : a.eval x = .slice (some ⟨g, lo * e.sz, none⟩) (u - lo) (cap - lo) := by
                    rw [e1]
                    show subV _ e.sz lo u = _
                    have hne : cap ≠ lo := by omega
                    simp [subV, hne, Addr.add_none]
                  have hlt : j < ((u - lo : Nat) : Int) := by omega
                  refine ⟨.pointer (some ⟨g, lo * e.sz + j.toNat * szP E.P te, none⟩), by simp [execOp, ho, e1', e2, run_indexAt' hu hsz hb.1 hlt, Addr.add_none], ?_, rfl, fun z1 z2 => ⟨g, _, _, q1', ?_⟩⟩
                  · rw [hid]; exact Nat.le_refl _
                  · rw [hid]
                    show _ = Value.pointer (some ⟨g, (lo + j.toNat) * e.sz + 0, none⟩)
                    rw [hez, Nat.add_mul]; rfl
              · cases h
            · cases h
          · cases h
        · cases h
  · cases h

theorem flatten_ones (xs : List Int) : (xs.map fun n => [Value.int .u8 n]).flatten = xs.map (Value.int .u8) := by
  induction xs with
  | nil => rfl
  | cons n xs ih => simp [ih]

theorem loadCells_ints {m : Mem} {N : Nat → Prop} {xs : List Int} {v : Value} (h : RepT m N (.sl (.int .u8)) xs [v] []) (hne : xs ≠ []) : ∃ b off cap, v = .slice (some ⟨b, off, none⟩) xs.length cap ∧ cellsIn m b off (xs.map (Value.int .u8)) := by
  obtain ⟨_, a, cap, es, e1, hcap, hl, hr, hm⟩ := h
  obtain ⟨b, off, rfl, hb, hc⟩ := hm hne
  refine ⟨b, off, cap, by simpa using e1, ?_⟩
  have : es.flatten = xs.map (Value.int .u8) := by
    have he : es = xs.map fun n => [Value.int .u8 n] := by
      apply List.ext_getElem
      · rw [List.length_map]; exact hl
      · intro i h1 h2
        have hi : i < List.length xs := by rw [← hl]; exact h1
        have := (hr i hi h1).1
        rw [this]
        simp
    rw [he]
    exact flatten_ones xs
  rwa [this] at hc

theorem good_convert {src dst : TypeId} {x : Operand} (ho : o.op = .convert src dst x) (h : exOp E O o st K = some r) : ∃ e, K e = some r ∧ Good E X o st e := by
  have hx : x ∈ o.op.operands := by rw [ho]; simp [Op.operands]
  simp only [exOp, ho] at h
  replace h := one_some h
  obtain ⟨c, hc, h⟩ := h
  obtain ⟨c0, hc0⟩ : ∃ c0, c0 = c := ⟨c, rfl⟩
  rw [← hc0] at hc
  split at h
  · rename_i d k k' n hs hd
    subst hc0
    refine ⟨_, h, good_one hc hx fun {a w N s' hd' F} hm I hv => ⟨.int k (k.wrap n), ?_, rfl, rfl⟩⟩
    have e1 := imm_int hv
    have hk : E.P.intKind dst = k := by simp [Program.intKind, hd]
    have := run_convert_int (P := E.P) w src dst k' n (by rw [hs]; rfl) (by rw [hk]; exact hd)
    rw [hk] at this
    simp [execOp, ho, e1, this]
  · rename_i d y hs hd
    subst hc0
    refine ⟨_, h, good_one hc hx fun {a w N s' hd' F} hm I hv => ⟨.string ⟨⟨y⟩⟩, ?_, rfl, rfl⟩⟩
    have e1 := imm_str hv
    simp [execOp, ho, e1, convert, run_underlying hs, run_underlying hd]
  · rename_i e hs hd _
    subst hc0
    split at h
    · rename_i he
      have key : ∀ {m : List Nat} {xs : List Int}, (∀ s' : Sto, (∀ i ∈ m, s' i = st.o i) → ∀ {mem : Mem} {N : Nat → Prop} {hd : Nat → Value} {F : Nat → List Nat} {size : Nat}, SInv mem N s' hd F size → ∀ v, RepC mem N s' hd c0 v →
          ∃ N', RepT mem N' (.sl (.int .u8)) xs [v] []) → Good E X o st { v := .one (.imm .str (bytesStr xs)), s := st.o, r := m } := by
        intro m xs hg
        refine good_one hc hx fun {a w N s' hd' F} hm I hv => ⟨.string ⟨⟨bytesStr xs⟩⟩, ?_, rfl, rfl⟩
        obtain ⟨N', hr⟩ := hg s' hm I _ hv
        by_cases hne : xs = []
        · subst hne
          obtain ⟨_, ad, cap, es, e1, _⟩ := hr
          have e1' : a.eval x = .slice ad 0 cap := by simpa using e1
          have hz : (loadCells (ad.getD ⟨0, 0, none⟩) 0).run E.P w = .ok #[] w := by
            have := run_loadCells_list (P := E.P) w (ad.getD ⟨0, 0, none⟩) [] (fun j v hj => by simp at hj)
            simpa using this
          cases ad with
          | none => 
            have := run_convert_bytes_nil (P := E.P) w src e hs he 0 cap dst hd
            simp [execOp, ho, e1', this, bytesStr]; rfl
          | some ad =>
            rw [show (execOp a.eval o) = (do pure (.value (← convert src dst (a.eval x)))) by simp [execOp, ho]]
            rw [e1', Sem.run_bind, run_convert_bytes_string w src dst e ad 0 cap hs he hd, run_bytesToString w ad 0 cap [] (by simpa using hz)]
            simp [bytesStr]; rfl
        · obtain ⟨b, off, cap, e1, hcl⟩ := loadCells_ints hr hne
          have := run_convert_bytes_arg (P := E.P) w src e hs he b off xs.length cap xs rfl (fun i hi => cell_of_in hcl i _ (by simp [List.getD, List.getElem?_eq_getElem hi])) dst hd
          simp [execOp, ho, e1, this, bytesStr, strOfNums]
      split at h
      · refine ⟨_, h, ?_⟩
        have := key (m := []) (xs := []) fun s' _ mem N hd F size I v hv => by
          obtain ⟨ad, rfl⟩ := hv
          exact ⟨N, rfl, ad, 0, [], rfl, Nat.le_refl _, rfl, fun i h => absurd h (by simp), fun h => absurd rfl h⟩
        exact this
      · obtain ⟨e', xs, m, h, hg⟩ := getSl_ok h
        split at h
        · refine ⟨_, h, key fun s' hm mem N hd F size I v hv => ?_⟩
          obtain ⟨N', h1, _⟩ := hg s' hm I v hv
          exact ⟨N', h1 rfl⟩
        · cases h
    · cases h
  · cases h
end

end Go.Proofs.YtofkhmedmeihiaaPn.Ev
