/- The evaluator: rows that are made, functions that are made, what is written. -/
import Derived.Test.YtofkhmedmeihiaaPnEvK
namespace Go.Proofs.YtofkhmedmeihiaaPn.Ev
open Go

/-- What the projection of a row's elements leaves. -/
structure ElsOK (m : Mem) (N : Nat → Prop) (s : Sto) (hd : Nat → Value) (F : Nat → List Nat) (size : Nat) (m0 : List Nat) (e : Ty) (xs : List e.den) (s' : Sto) (m1 : List Nat) (vss : List (List Value)) (N' : Nat → Prop) (F' : Nat → List Nat) (Fs : List (List Nat)) : Prop where
  len : vss.length = xs.length
  lenF : Fs.length = xs.length
  rep : ∀ (i : Nat) (h : i < xs.length) (h' : i < vss.length) (h'' : i < Fs.length), RepT m N' e xs[i] vss[i] Fs[i]
  inv : SInv m N' s' hd F' size
  goes : Goes s s' hd hd
  vers : ∀ i, (s' i).1 = (s i).1
  up : ∀ k, N k → N' k
  new : ∀ k, N' k → N k ∨ ∃ i, k ∈ F i
  sub : ∀ i k, k ∈ F' i → k ∈ F i
  nod : Fs.flatten.Nodup
  own : ∀ k ∈ Fs.flatten, (∃ i, k ∈ F i) ∧ ¬ N' k ∧ ∀ i, k ∉ F' i
  acc : ∀ i ∈ m0, i ∈ m1
  loc : ∀ i, i ∉ m1 → s' i = s i ∧ F' i = F i

section
variable {m : Mem} {hd : Nat → Value} {size : Nat}

theorem prElems_ok {e : Ty} : ∀ (css : List (List C)) (s : Sto) (m0 : List Nat) (q : Pr (List e.den)), prElems e css s m0 = some q → ∀ {N : Nat → Prop} {F : Nat → List Nat}, SInv m N s hd F size → ∀ {vss : List (List Value)}, vss.length = css.length →
    (∀ (i : Nat) (h : i < css.length) (h' : i < vss.length), RepCs m N s hd css[i] vss[i]) → ∃ N' F' Fs, ElsOK m N s hd F size m0 e q.x q.s q.m vss N' F' Fs
  | [], s, m0, q, h, N, F, I, vss, hl, hr => by
    obtain rfl := Option.some.inj h
    have : vss = [] := by simpa using hl
    subst this
    exact ⟨N, F, [], rfl, rfl, fun i h => absurd h (by simp), I, Goes.refl s hd, fun _ => rfl, fun _ h => h, fun _ h => .inl h, fun _ _ h => h, List.nodup_nil, by simp, fun _ h => h, fun _ _ => ⟨rfl, rfl⟩⟩
  | cs :: css, s, m0, q, h, N, F, I, vss, hl, hr => by
    simp only [prElems] at h
    split at h
    · rename_i x s1 m1 hp
      split at h
      · rename_i q' hq
        obtain rfl := Option.some.inj h
        match vss, hl with
        | vs :: vss, hl =>
        obtain ⟨v1, v2, N1, F1, G1, k⟩ := pr_ok false e cs s m0 _ hp I (hr 0 (by simp) (by simp))
        have hv2 := RepCs.nil_inv k.rest
        have hvs : vs = v1 := by have h0 := k.vs; rw [hv2, List.append_nil] at h0; exact h0
        subst hvs
        obtain ⟨N2, F2, Fs, j⟩ := prElems_ok css s1 m1 q' hq k.inv (vss := vss) (by simpa using hl) (fun i h h' => by
          have := hr (i + 1) (by simpa using h) (by simpa using h')
          exact RepCs.goes (fun b hb => ⟨k.up b hb, rfl⟩) k.goes this)
        refine ⟨N2, F2, G1 :: Fs, by simp [j.len], by simp [j.lenF], fun i h h' h'' => ?_, j.inv, k.goes.trans j.goes, fun i => (j.vers i).trans (k.vers i), fun b hb => j.up b (k.up b hb), fun b hb => ?_, fun i b hb => k.sub i b (j.sub i b hb), ?_, fun b hb => ?_, fun i hi => j.acc i (k.acc i hi), fun i hi => ?_⟩
        · cases i with
          | zero => exact RepT.mono (fun b hb => ⟨j.up b hb, rfl⟩) (fun _ _ => rfl) k.rep
          | succ i => exact j.rep i (by simpa using h) (by simpa using h') (by simpa using h'')
        · rcases j.new b hb with h | ⟨i, h⟩
          · exact k.new b h
          · exact .inr ⟨i, k.sub i b h⟩
        · rw [List.flatten_cons, List.nodup_append]
          refine ⟨k.nod, j.nod, fun b hb b' hb' e => ?_⟩
          subst e
          obtain ⟨⟨i, hi⟩, _⟩ := j.own b hb'
          exact (k.own b hb).2.2 i hi
        · rw [List.flatten_cons] at hb
          rcases List.mem_append.1 hb with hb | hb
          · refine ⟨(k.own b hb).1, fun hn => ?_, fun i hi => (k.own b hb).2.2 i (j.sub i b hi)⟩
            rcases j.new b hn with h | ⟨i, h⟩
            · exact (k.own b hb).2.1 h
            · exact (k.own b hb).2.2 i h
          · obtain ⟨⟨i, hi⟩, h3, h4⟩ := j.own b hb
            exact ⟨⟨i, k.sub i b hi⟩, h3, h4⟩
        · have hi1 : i ∉ m1 := fun h => hi (j.acc i h)
          exact ⟨(j.loc i hi).1.trans (k.loc i hi1).1, (j.loc i hi).2.trans (k.loc i hi1).2⟩
      · cases h
    · cases h
end

theorem prElems_loc {e : Ty} : ∀ (css : List (List C)) (s : Sto) (m0 : List Nat) (q : Pr (List e.den)), prElems e css s m0 = some q → (∀ i ∈ m0, i ∈ q.m) ∧ ∀ i, i ∉ q.m → q.s i = s i
  | [], s, m0, q, h => by obtain rfl := Option.some.inj h; exact ⟨fun _ h => h, fun _ _ => rfl⟩
  | cs :: css, s, m0, q, h => by
    simp only [prElems] at h
    split at h
    · rename_i x s1 m1 hp
      split at h
      · rename_i q' hq
        obtain rfl := Option.some.inj h
        have h1 := pr_loc false _ _ _ _ _ hp; have h2 := prElems_loc css _ _ _ hq
        exact ⟨fun i hi => h2.1 i (h1.1 i hi), fun i hi => (h2.2 i hi).trans (h1.2 i (fun h => hi (h2.1 i h)))⟩
      · cases h
    · cases h

theorem prElems_alike {e : Ty} : ∀ (css : List (List C)) (s : Sto) (m0 : List Nat) (q : Pr (List e.den)), prElems e css s m0 = some q → ∀ (M : List Nat), (∀ i ∈ q.m, i ∈ M) → ∀ (s2 : Sto), (∀ i ∈ M, s2 i = s i) →
    ∃ q2 : Pr (List e.den), prElems e css s2 m0 = some q2 ∧ q2.x = q.x ∧ q2.m = q.m ∧ ∀ i ∈ M, q2.s i = q.s i
  | [], s, m0, q, h, M, hM, s2, hs => by obtain rfl := Option.some.inj h; exact ⟨_, rfl, rfl, rfl, hs⟩
  | cs :: css, s, m0, q, h, M, hM, s2, hs => by
    simp only [prElems] at h ⊢
    split at h
    · rename_i x s1 m1 hp
      split at h
      · rename_i q' hq
        obtain rfl := Option.some.inj h
        have h2 := prElems_loc css _ _ _ hq
        obtain ⟨t1, e1, g1⟩ := pr_alike false e _ _ _ _ hp M (fun i hi => hM i (h2.1 i hi)) s2 hs
        obtain ⟨q2, e2, x2, m2, g2⟩ := prElems_alike css _ _ _ hq M hM t1 g1
        refine ⟨{ x := x :: q2.x, rest := [], s := q2.s, m := q2.m }, ?_, by simp only [x2], m2, g2⟩
        rw [e1]; simp only [e2]
      · cases h
    · cases h

theorem fill_row {size : Nat} : ∀ (parts : List (Nat × Value)) (vss : List (List Value)) (k : Nat) (cs : List Value), parts.map (·.1) = List.range' k parts.length → vss.length = parts.length →
    (∀ (i : Nat) (h : i < parts.length) (h' : i < vss.length), parts[i].2.cells = ⟨vss[i]⟩ ∧ vss[i].length = size) → (k + parts.length) * size ≤ cs.length →
    Instr.fill (fun i => some (i * size, size)) ⟨cs⟩ parts = some ⟨cs.take (k * size) ++ vss.flatten ++ cs.drop ((k + parts.length) * size)⟩
  | [], vss, k, cs, _, hl, _, _ => by
    have : vss = [] := by simpa using hl
    subst this
    simp [Instr.fill]
  | (i, v) :: parts, vs :: vss, k, cs, hf, hl, hr, hc => by
    simp only [List.map_cons, List.length_cons, List.range'_succ, List.cons.injEq] at hf
    obtain ⟨rfl, hf⟩ := hf
    obtain ⟨h1, h2⟩ := hr 0 (by simp) (by simp)
    simp only [List.getElem_cons_zero] at h1 h2
    have hmul : (i + (parts.length + 1)) * size = i * size + size + parts.length * size := by rw [Nat.add_mul, Nat.add_mul]; omega
    simp only [List.length_cons] at hc ⊢
    rw [hmul] at hc ⊢
    rw [fill_step (fun i => some (i * size, size)) (off := i * size) (vs := vs) (by rw [h2]) h1 (by omega)]
    have htl : (cs.take (i * size)).length = i * size := by rw [List.length_take]; omega
    have hmul2 : (i + 1 + parts.length) * size = i * size + size + parts.length * size := by rw [Nat.add_mul, Nat.add_mul]; omega
    rw [fill_row parts vss (i + 1) _ hf (by simpa using hl) (fun j h h' => by
      have := hr (j + 1) (by simpa using h) (by simpa using h')
      simpa using this) (by
        rw [hmul2]
        simp only [List.length_append, List.length_drop, htl, h2]; omega)]
    rw [hmul2]
    have e1 : (cs.take (i * size) ++ vs ++ cs.drop (i * size + vs.length)).take ((i + 1) * size) = cs.take (i * size) ++ vs := by
      rw [List.take_append_of_le_length (by simp only [List.length_append, htl, h2, Nat.add_mul]; omega)]
      exact List.take_of_length_le (by simp only [List.length_append, htl, h2, Nat.add_mul]; omega)
    have e2 : (cs.take (i * size) ++ vs ++ cs.drop (i * size + vs.length)).drop (i * size + size + parts.length * size) = cs.drop (i * size + size + parts.length * size) := by
      rw [List.drop_append, List.drop_eq_nil_of_le (by simp only [List.length_append, htl, h2]; omega), List.nil_append, List.drop_drop]
      congr 1
      simp only [List.length_append, htl, h2]; omega
    rw [e1, e2]
    simp

section
variable {E : Env} {O : Oracle E} {X : Ctx} {o : Oper} {st : St} {R : Type} {K : Eff → Option R} {r : R}

theorem hasZero_some {P : Program} {t : TypeId} (h : hasZero P t = true) : ∃ i z, P.info? t = some i ∧ i.zero = some z ∧ i.size = szP P t ∧ z.cells.size = i.size ∧ i.bytes = bytesP P t := by
  unfold hasZero at h
  split at h
  · rename_i i hi
    split at h
    · rename_i z hz
      exact ⟨i, z, hi, hz, by simp [szP, hi], by simpa using h, by simp [bytesP, hi]⟩
    · cases h
  · cases h

theorem good_buildSlice {t : TypeId} {len : Nat} {parts : Array (Nat × Operand)} (ho : o.op = .buildSlice t len parts) (h : exOp E O o st K = some r) : ∃ e, K e = some r ∧ Good E X o st e := by
  have hx : ∀ p ∈ parts.toList, p.2 ∈ o.op.operands := by
    intro p hp; rw [ho]; simp [Op.operands]; exact ⟨p.1, by simpa using hp⟩
  simp only [exOp, ho] at h
  split at h
  · cases h
  · rename_i te hte
    have hu := elemP_some hte
    split at h
    · cases h
    · rename_i e hty
      split at h
      · rename_i hc
        obtain ⟨hidx, hsz, hne, hz, hbig⟩ := hc
        split at h
        · rename_i q hq
          obtain ⟨it, z, hi1, hi2, hi3, _, _⟩ := hasZero_some hz
          refine ⟨_, h, Good.make fun st' he hi a w N hd F I => ?_⟩
          have hmap : (parts.toList.map fun p => (st.eval p.2).cells) = (parts.toList.map fun p => (st'.eval p.2).cells) := by
            apply List.map_congr_left
            intro p hp
            rw [he p.2 (hx p hp)]
          rw [hmap] at hq
          obtain ⟨q2, hq2, x2, m2, g2⟩ := prElems_alike _ _ _ _ hq (newId o.dst :: q.m) (fun i hi => List.mem_cons_of_mem _ hi) st'.o (fun i hi' => hi i (.inl hi'))
          have hsel : ∀ p : Nat × Operand, ∃ us, RepCs (memOf w) N st'.o hd (st'.eval p.2).cells us ∧ ((st'.eval p.2).cells ≠ [] → (a.eval p.2).cells = ⟨us⟩) := by
            intro p
            by_cases hnil : (st'.eval p.2).cells = []
            · exact ⟨[], by rw [hnil]; trivial, fun h => absurd hnil h⟩
            · obtain ⟨us, h1, h2⟩ := RepV.cells (I.eval p.2) hnil
              exact ⟨us, h2, fun _ => h1⟩
          let pick : Nat × Operand → List Value := fun p => Classical.choose (hsel p)
          have hpick : ∀ p, RepCs (memOf w) N st'.o hd (st'.eval p.2).cells (pick p) ∧ ((st'.eval p.2).cells ≠ [] → (a.eval p.2).cells = ⟨pick p⟩) := fun p => Classical.choose_spec (hsel p)
          obtain ⟨N', F', Fs, j⟩ := prElems_ok _ _ _ _ hq2 I.s (vss := parts.toList.map pick) (by simp) (fun i h h' => by
            simp only [List.getElem_map]
            exact (hpick _).1)
          have hlp : parts.toList.length = len := by have := congrArg List.length hidx; simpa using this
          have hlx : List.length q2.x = len := by rw [← j.len, List.length_map, hlp]
          have hcell : ∀ (i : Nat) (h : i < (parts.toList.map fun p => (p.1, a.eval p.2)).length) (h' : i < (parts.toList.map pick).length), (parts.toList.map fun p => (p.1, a.eval p.2))[i].2.cells = ⟨(parts.toList.map pick)[i]⟩ ∧ (parts.toList.map pick)[i].length = szP E.P te := by
            intro i h h'
            simp only [List.getElem_map]
            have hil : i < parts.toList.length := by simpa using h
            have hr := j.rep i (by rw [hlx]; omega) h' (by rw [j.lenF, hlx]; omega)
            have hl := hr.len
            simp only [List.getElem_map] at hl
            refine ⟨(hpick _).2 (fun h0 => ?_), by rw [hl, hsz]⟩
            have h3 := (hpick parts.toList[i]).1.len
            rw [h0, hl] at h3
            exact hne h3
          have hflat : (parts.toList.map pick).flatten.length = len * e.sz := by
            rw [flatten_len_of_len (sz := e.sz)]
            · rw [List.length_map, hlp]
            · intro y hy
              obtain ⟨i, hi, rfl⟩ := List.mem_iff_getElem.1 hy
              rw [(hcell i (by simpa using hi) hi).2, hsz]
          have hfill : ∀ cs0 : List Value, cs0.length = len * szP E.P te → Instr.fill (fun i => some (i * szP E.P te, szP E.P te)) ⟨cs0⟩ (parts.toList.map fun p => (p.1, a.eval p.2)) = some ⟨(parts.toList.map pick).flatten⟩ := by
            intro cs0 h0
            have := fill_row (size := szP E.P te) (parts.toList.map fun p => (p.1, a.eval p.2)) (parts.toList.map pick) 0 cs0 (by
              have e1 : (parts.toList.map fun p => (p.1, a.eval p.2)).map (·.1) = parts.toList.map (·.1) := by simp
              rw [e1, hidx, List.length_map, hlp, List.range_eq_range']) (by simp) hcell (by rw [h0, List.length_map, hlp, Nat.zero_add]; exact Nat.le_refl _)
            rw [this]
            simp [hlp, ← h0]
          have hlen0 : len * szP E.P te ≤ 16777216 := by rw [← hsz]; exact hbig
          have hrun : (execOp a.eval o).run E.P w = .ok (.value (.slice (some ⟨w.heap.size, 0, none⟩) len len)) (w.alloc (.cells ⟨(parts.toList.map pick).flatten⟩ te)) := by
            have hsr := run_sizeOf (P := E.P) (by rw [← hsz]; exact hne) w
            have hbig' : ¬ (16777216 < len * szP E.P te) := by omega
            have hfill' : ∀ cs0 : Array Value, cs0.size = len * szP E.P te → Instr.fill (fun i => some (i * szP E.P te, szP E.P te)) cs0 (parts.toList.map fun p => (p.1, a.eval p.2)) = some ⟨(parts.toList.map pick).flatten⟩ := by
              intro cs0 h0
              exact hfill cs0.toList (by simpa using h0)
            have hzv : (zeroValue te).run E.P w = .ok z w := by simp [zeroValue, typeInfo, hi1, hi2]
            by_cases h0 : len * szP E.P te = 0
            · simp [execOp, ho, Instr.buildSlice, run_underlying hu, hsr, hbig', h0, hfill', newRow]
            · simp [execOp, ho, Instr.buildSlice, run_underlying hu, hsr, hbig', h0, hzv, hfill', newRow]
          have hid : (q2.s (newId o.dst)) = q.s (newId o.dst) := g2 _ (by simp)
          obtain ⟨s', N2, hd', F2, L⟩ := left_new (X := X) (st := st') (w := w) (e := { v := .one (.own (newId o.dst) ((q.s (newId o.dst)).1 + 1)), s := q.s.set (newId o.dst) ((q.s (newId o.dst)).1 + 1, .vec e q.x), w := newId o.dst :: q.m }) I.s j.inv j.goes j.up j.new j.sub (Moves.refl w) rfl (w' := w.alloc (.cells ⟨(parts.toList.map pick).flatten⟩ te)) rfl
            (id := newId o.dst) (ob := .vec e q2.x) (u := .slice (some ⟨w.heap.size, 0, none⟩) len len) (cc := .own (newId o.dst) ((q2.s (newId o.dst)).1 + 1)) (G := w.heap.size :: Fs.flatten)
            (by
              rw [List.nodup_cons]
              refine ⟨fun h => ?_, j.nod⟩
              obtain ⟨⟨i, hi⟩, _⟩ := j.own _ h
              exact Nat.lt_irrefl _ (I.s.ltF i _ hi))
            (by
              intro k hk
              rcases List.mem_cons.1 hk with rfl | hk
              · exact ⟨by omega, fun h => Nat.lt_irrefl _ (j.inv.ltN _ h), fun i h => Nat.lt_irrefl _ (j.inv.ltF i _ h)⟩
              · obtain ⟨⟨i, hi⟩, h1, h2⟩ := j.own k hk
                have := I.s.ltF i k hi
                exact ⟨by omega, h1, h2⟩)
            (by
              intro k hk
              rcases List.mem_cons.1 hk with rfl | hk
              · exact .inr (Nat.le_refl _)
              · exact .inl (j.own k hk).1)
            (fun s'' hd'' g'' e'' hN'' => .inr ⟨w.heap.size, len, ⟨(parts.toList.map pick).flatten⟩, te, parts.toList.map pick, Fs, by rw [hlx], by rw [memOf_alloc_new], by simpa using hflat, by rw [hlx]; exact Nat.le_refl _, (by
                have h1 : len ≤ len * e.sz := Nat.le_mul_of_pos_right _ (Nat.pos_of_ne_zero hne)
                simp only [maxLen]; omega), j.len, j.lenF, fun i h h' h'' => RepT.mono (fun b hb => ⟨hb, hN'' b hb⟩) (fun k hk => by
                  have hkf : k ∈ Fs.flatten := List.mem_flatten.2 ⟨_, List.getElem_mem h'', hk⟩
                  obtain ⟨⟨i, hi⟩, _⟩ := j.own k hkf
                  exact memOf_alloc_old w _ (I.s.ltF i k hi)) (j.rep i h h' h''), List.take_of_length_le (Nat.le_refl _), rfl⟩)
            (fun hd' e => ⟨by simp [Sto.set_same], rfl, fun _ _ => e.symm⟩) (by rw [hid]) (by
              intro i hi'
              show _ = (q.s.set _ _) i
              rw [← x2, ← hid]
              exact (alike_set (M := newId o.dst :: q.m) (s := q.s) (s2 := q2.s) g2 _ _ i hi')) (by
              intro i hi'
              have h1 : i ≠ newId o.dst := fun h => hi' (by rw [h]; exact List.mem_cons_self ..)
              rw [Sto.set_ne _ _ h1]
              exact (j.loc i (by rw [m2]; exact fun h => hi' (List.mem_cons_of_mem _ h))).1)
          exact ⟨_, _, [], s', N2, hd', F2, hrun, L⟩
        · cases h
      · cases h
end

end Go.Proofs.YtofkhmedmeihiaaPn.Ev
