/- The evaluator: functions that are made, rows of zeros, what is written. -/
import Derived.Test.YtofkhmedmeihiaaPnEvL
namespace Go.Proofs.YtofkhmedmeihiaaPn.Ev
open Go

theorem capsOk_rep {m : Mem} {N : Nat → Prop} : ∀ {τs : Ty} {x : τs.den} {us : List Value} {F : List Nat}, capsOk τs = true → RepAs m N τs x us F → RepT m N τs x us F ∧ F = []
  | .nil, _, us, F, _, h => by
    obtain ⟨rfl, rfl⟩ := h
    exact ⟨⟨rfl, rfl⟩, rfl⟩
  | .cons a r, x, [], F, hc, h => h.elim
  | .cons a r, x, u :: us', F, hc, h => by
    simp only [capsOk, Bool.and_eq_true, Bool.not_eq_true', beq_iff_eq] at hc
    obtain ⟨⟨⟨h1, h2⟩, h3⟩, h4⟩ := hc
    obtain ⟨F1, F2, rfl, hA, hR⟩ := h
    obtain ⟨k1, k2⟩ := capsOk_rep h4 hR
    unfold RepA at hA
    rw [if_neg (by simp [h1])] at hA
    have e1 := RepT.imm h3 hA
    subst e1; subst k2
    exact ⟨⟨[u], us', [], [], rfl, rfl, hA, k1⟩, rfl⟩
  | .bool, _, _, _, hc, _ | .int _, _, _, _, hc, _ | .str, _, _, _, hc, _ | .sl _, _, _, _, hc, _ | .own _, _, _, _, hc, _ | .agg _, _, _, _, hc, _ | .ptr _, _, _, _, hc, _ | .box _, _, _, _, hc, _ | .fn _ _, _, _, _, hc, _ | .tree, _, _, _, hc, _ | .unk, _, _, _, hc, _ | .map _, _, _, _, hc, _ => by simp [capsOk] at hc

section
variable {E : Env} {O : Oracle E} {X : Ctx} {o : Oper} {st : St} {R : Type} {K : Eff → Option R} {r : R}

theorem repVs_map {m : Mem} {N : Nat → Prop} {s : Sto} {hd : Nat → Value} {f : Operand → V} {g : Operand → Value} : ∀ (xs : List Operand), (∀ x ∈ xs, RepV m N s hd (f x) (g x)) → RepVs m N s hd (xs.map f) (xs.map g)
  | [], _ => trivial
  | x :: xs, h => ⟨h x (by simp), repVs_map xs (fun y hy => h y (List.mem_cons_of_mem _ hy))⟩

theorem good_makeFunc {f : Go.Fn} {first captured : Array Operand} (ho : o.op = .makeFunc f first captured) (h : exOp E O o st K = some r) : ∃ e, K e = some r ∧ Good E X o st e := by
  have hx : ∀ p ∈ captured.toList, p ∈ o.op.operands := by
    intro p hp; rw [ho]; simp [Op.operands]; exact .inr (by simpa using hp)
  cases f with
  | func g =>
    simp only [exOp, ho] at h
    split at h
    · rename_i hc
      split at h
      · rename_i q hq
        refine ⟨_, h, Good.make fun st' he hi a w N hd F I => ?_⟩
        have hmap : captured.toList.map st.eval = captured.toList.map st'.eval := List.map_congr_left fun p hp => (he p (hx p hp)).symm
        rw [hmap] at hq
        obtain ⟨q2, hq2, x2, m2, g2⟩ := prFs_alike false _ _ _ _ _ hq q.m (fun i hi => hi) st'.o (fun i hi' => hi i (.inl hi'))
        obtain ⟨N', F', G, j⟩ := prFs_ok false _ _ _ _ _ hq2 I.s (us := captured.toList.map a.eval) (repVs_map _ fun x _ => I.eval x)
        obtain ⟨k1, k2⟩ := capsOk_rep hc.2 j.rep
        subst k2
        have hf : first = #[] := by simpa using hc.1
        refine ⟨.func (.func g) #[] (captured.map a.eval), w, [], q2.s, N', hd, F', by simp [execOp, ho, Instr.makeFunc, hf], ⟨g2, fun i hi => (j.loc i (by rw [m2]; exact hi)).1, Moves.refl w, by simp, j.inv, j.up, j.goes, fun k hk => ?_, fun i k hk => .inl ⟨i, j.sub i k hk⟩, ?_⟩⟩
        · rcases j.new k hk with h | h
          · exact .inl h
          · exact .inr (.inl h)
        · refine ⟨rfl, captured.toList.map a.eval, ?_, ?_⟩
          · congr 1
            congr 1
            apply Array.ext'
            simp
          · rw [← x2]; exact k1
      · cases h
    · cases h
  | _ => simp only [exOp, ho] at h; cases h

theorem range_mod {α : Type} [Inhabited α] (z : List α) (hz : z ≠ []) : ∀ n, (List.range (n * z.length)).map (fun i => z[i % z.length]!) = (List.replicate n z).flatten
  | 0 => by simp
  | n + 1 => by
    have hl : 0 < z.length := List.length_pos_iff.2 hz
    rw [List.replicate_succ', List.flatten_append, ← range_mod z hz n, Nat.add_mul, Nat.one_mul, List.range_add, List.map_append]
    congr 1
    simp only [List.map_map, List.flatten_cons, List.flatten_nil, List.append_nil]
    apply List.ext_getElem
    · simp
    · intro i h1 h2
      have hi : i < z.length := by simpa using h1
      simp [Nat.mul_comm n, Nat.mod_eq_of_lt hi, hi]

theorem good_makeSlice {t : TypeId} {l c : Operand} (ho : o.op = .makeSlice t l c) (h : exOp E O o st K = some r) : ∃ e, K e = some r ∧ Good E X o st e := by
  have hl : l ∈ o.op.operands := by rw [ho]; simp [Op.operands]
  have hc : c ∈ o.op.operands := by rw [ho]; simp [Op.operands]
  simp only [exOp, ho] at h
  split at h
  · cases h
  · rename_i te hte
    have hu := elemP_some hte
    split at h
    · rename_i e zc n0 n0' hty hz hel hec
      obtain ⟨n, hn⟩ : ∃ z : Int, z = n0 := ⟨n0, rfl⟩
      subst hn
      split at h
      · rename_i x s' hp
        split at h
        · rename_i hcond0
          obtain ⟨h1, h2, h2b⟩ := hcond0
          split at h
          rotate_left
          · cases h
          rename_i hcond
          obtain ⟨h3, h4, h5⟩ := hcond
          have h3' : (0 : Int) ≤ n := h3
          have h4' : (bytesP E.P te : Int) * n ≤ 140737488355328 := h4
          obtain ⟨n', hn'⟩ : ∃ z : Int, z = n0' := ⟨n0', rfl⟩
          subst hn'
          have h5' : n = n' := h5
          subst h5'
          refine ⟨_, h, Good.make fun st' he hi a w N hd F I => ?_⟩
          obtain ⟨it, z, hi1, hi2, hi3, hi4⟩ := run_zeroValue hz
          have e1 : a.eval l = .int .i64 n := by have := I.eval l; rw [he l hl, hel] at this; exact imm_int (m := memOf w) (N := N) (s := st'.o) (hd := hd) this
          have e2 : a.eval c = .int .i64 n := by have := I.eval c; rw [he c hc, hec] at this; exact imm_int (m := memOf w) (N := N) (s := st'.o) (hd := hd) this
          have hby : it.bytes = bytesP E.P te := by simp [bytesP, hi1]
          have hsz : it.size = szP E.P te := by simp [szP, hi1]
          have hnb : n ≤ 140737488355328 := by
            have : (1 : Int) ≤ (bytesP E.P te : Int) := by omega
            exact Int.le_trans (by have := Int.mul_le_mul_of_nonneg_right this h3'; simpa using this) h4'
          have hrun := run_make (P := E.P) w t te it z hu hi1 hi2 .i64 .i64 n n h3' (Int.le_refl _) (by rw [hby]; omega) (by omega)
          obtain ⟨p2, hp2, _⟩ := pr_alike false e _ _ _ _ hp [] (by simp) st'.o (by simp)
          obtain ⟨v1, v2, N', F', G, k⟩ := pr_ok false e _ _ _ _ hp2 I.s (vs := z.cells.toList) (constCs_rep hi3)
          have hv2 := RepCs.nil_inv k.rest
          have hvs : z.cells.toList = v1 := by have h0 := k.vs; rw [hv2, List.append_nil] at h0; exact h0
          have hF' : F' = F := by funext i; exact (k.loc i (by simp)).2
          have hG : G = [] := by
            cases G with
            | nil => rfl
            | cons g G => 
              obtain ⟨⟨i, h6⟩, _, h7⟩ := k.own g (by simp)
              rw [hF'] at h7
              exact absurd h6 (h7 i)
          have hN' : ∀ b, N' b → N b := by
            intro b hb
            rcases k.new b hb with h | ⟨i, h⟩
            · exact h
            · rw [← hF'] at h; exact absurd hb (k.inv.sep i b h)
          rw [← hvs, hG] at k
          have hrep : RepT (memOf w) N e x z.cells.toList [] := RepT.mono (fun b hb => ⟨hN' b hb, rfl⟩) (by simp) k.rep
          have hzl : z.cells.toList.length = e.sz := hrep.len
          have hmade : (madeCells z.cells (n.toNat * it.size)).toList = (List.replicate n.toNat z.cells.toList).flatten := by
            rw [hsz, ← h1, ← hzl]
            have := range_mod z.cells.toList (by intro h0; rw [h0] at hzl; exact h2 hzl.symm) n.toNat
            rw [← this]
            simp [madeCells, getElem!_def, Array.getElem!_eq_getD]
            try (intro q _; cases hq : z.cells[q % z.cells.size]? <;> rfl)
          have hfl : (List.replicate n.toNat z.cells.toList).flatten.length = n.toNat * e.sz := by
            rw [flatten_len_of_len (sz := e.sz) _ (by intro y hy; rw [List.eq_of_mem_replicate hy]; exact hzl), List.length_replicate]
          have hid : st'.o (newId o.dst) = st.o (newId o.dst) := hi _ (.inl (by simp))
          obtain ⟨s', N2, hd', F2, L⟩ := left_new (X := X) (st := st') (w := w) (e := { v := .one (.own (newId o.dst) ((st.o (newId o.dst)).1 + 1)), s := st.o.set (newId o.dst) ((st.o (newId o.dst)).1 + 1, .vec e (List.replicate n.toNat x)), w := [newId o.dst] }) I.s I.s (Goes.refl _ _) (fun _ h => h) (fun _ h => .inl h) (fun _ _ h => h) (Moves.refl w) rfl (w' := w.alloc (.cells (madeCells z.cells (n.toNat * it.size)) te)) rfl
            (id := newId o.dst) (ob := .vec e (List.replicate n.toNat x)) (u := .slice (some ⟨w.heap.size, 0, none⟩) n.toNat n.toNat) (cc := .own (newId o.dst) ((st'.o (newId o.dst)).1 + 1)) (G := [w.heap.size])
            (by simp) (by
              intro k hk
              simp at hk; subst hk
              exact ⟨by omega, fun h => Nat.lt_irrefl _ (I.s.ltN _ h), fun i h => Nat.lt_irrefl _ (I.s.ltF i _ h)⟩) (by simp)
            (fun s'' hd'' g'' e'' hN'' => .inr ⟨w.heap.size, n.toNat, madeCells z.cells (n.toNat * it.size), te, List.replicate n.toNat z.cells.toList, List.replicate n.toNat [], by simp, by rw [memOf_alloc_new], by rw [size_madeCells, hsz, h1], by simp, (by simp only [maxLen]; omega), by simp, by simp, fun i h h' h'' => by
                simp only [List.getElem_replicate]
                exact RepT.mono (fun b hb => ⟨hb, hN'' b hb⟩) (by simp) hrep, (by rw [hmade, List.take_of_length_le (Nat.le_refl _)]), (by simp)⟩)
            (fun hd' e => ⟨by simp [Sto.set_same], rfl, fun _ _ => e.symm⟩) (by rw [hid]) (by
              intro i hi'
              simp at hi'; subst hi'
              show _ = (st.o.set _ _) _
              rw [Sto.set_same, Sto.set_same, hid]) (by
              intro i hi'
              simp at hi'
              exact Sto.set_ne _ _ hi')
          exact ⟨_, _, [], s', N2, hd', F2, by simp [execOp, ho, e1, e2, hrun], L⟩
        · cases h
      · cases h
    · cases h
end

end Go.Proofs.YtofkhmedmeihiaaPn.Ev
