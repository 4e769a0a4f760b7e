/- The evaluator: the call operation. -/
import Derived.Test.YtofkhmedmeihiaaPnEvR
namespace Go.Proofs.YtofkhmedmeihiaaPn.Ev
open Go

section
variable {E : Env} {O : Oracle E} {X : Ctx} {o : Oper} {st : St} {R : Type} {K : Eff → Option R} {r : R}

theorem tupOf_rep {m : Mem} {N : Nat → Prop} {s : Sto} {hd : Nat → Value} {vs : List V} {us : List Value} (h : RepVs m N s hd vs us) (h' : RepPs m N s hd (vs.map V.pair) us) : RepV m N s hd (tupOf vs) (retOf us) := by
  match vs, us, h, h' with
  | [], [], _, _ => exact ⟨[], rfl, trivial⟩
  | [v], [u], h, _ => exact h.1
  | v :: v' :: vs, u :: u' :: us, _, h' => exact ⟨_, rfl, h'⟩

theorem run_callFunc {P : Program} {f : FuncId} (h : callable P f = true) (args : Array Value) (w : World) : (callFunc f args).run P w = .ok (.enter f args) w := by
  unfold callable at h
  split at h
  · rename_i fn hfn
    simp only [Bool.and_eq_true, bne_iff_ne, ne_eq] at h
    obtain ⟨c, hc⟩ := Option.isSome_iff_exists.1 h.1
    simp [callFunc, hfn, hc, h.2]
  · cases h

/-- A call of a known function with told arguments. -/
theorem call_left (hC : CSound E O.C) {f b : Nat} {args : List V} (h : callK E O f args st.o b K = some r) :
    ∃ e, K e = some r ∧ ∀ st' : St, (∀ i, i ∈ e.w ∨ i ∈ e.r → st'.o i = st.o i) → ∀ (a : Act) w N hd F, InvD X st' a w N hd F → ∀ us : List Value, RepVs (memOf w) N st'.o hd args us →
      Calls E.P (rl f) us.toArray w (Post fun v w' => ∃ W s' N' hd' F', Left X st' e w N hd F v w' W s' N' hd' F') := by
  unfold callK at h
  split at h
  · cases h
  · rename_i p hp
    obtain ⟨yz, hyz, h⟩ := Option.bind_eq_some_iff.1 h
    split at h
    · cases h
    · rename_i l hl
      dsimp only at h
      split at h
      · rename_i hb
        refine ⟨_, h, fun st' hi a w N hd F I us hus => ?_⟩
        let lend := (E.rs f).flat && (ioTy (E.io f) (E.ps f)).flat
        let M := p.m ++ l.ids ++ (injFs (E.rs f) yz.1 l.s b).ids
        have hM : ∀ i ∈ M, st'.o i = st.o i := fun i hi' => hi i (.inl hi')
        obtain ⟨p2, hp2, x2, m2, g2⟩ := prFs_alike lend _ _ _ _ _ hp M (fun i hi => List.mem_append_left _ (List.mem_append_left _ hi)) st'.o hM
        obtain ⟨N1, F1, G, j⟩ := prFs_ok lend _ _ _ _ _ hp2 I.s hus
        have hGl : ∀ k ∈ G, k < w.heap.size := fun k hk => by
          obtain ⟨⟨i, hi⟩, _⟩ := j.own k hk
          exact I.s.ltF i k hi
        have hlt : ∀ k, Sn lend N1 p2.s F1 k → k < w.heap.size := by
          intro k hk
          cases hlend : lend with
          | false => rw [hlend] at hk; exact j.inv.ltN k hk
          | true =>
            rw [hlend] at hk
            rcases hk with hk | ⟨i, _, hk⟩
            · exact j.inv.ltN k hk
            · exact j.inv.ltF i k hk
        have hGs : ∀ k ∈ G, ¬ Sn lend N1 p2.s F1 k := by
          intro k hk hs
          obtain ⟨_, h1, h2⟩ := j.own k hk
          cases hlend : lend with
          | false => rw [hlend] at hs; exact h1 hs
          | true =>
            rw [hlend] at hs
            rcases hs with hs | ⟨i, _, hs⟩
            · exact h1 hs
            · exact h2 i hs
        have hrep := j.rep
        rw [x2] at hrep
        refine Calls.mono (hC.2 f p.x yz hyz w _ us G hrep j.nod (fun k hk => ⟨hGl k hk, hGs k hk⟩) hlt) (fun e w' hpost => ?_)
        cases e with
        | returned v =>
          obtain ⟨N2, rs, G1, G2, D⟩ := hpost
          have hmF : ∀ i k, k ∈ F1 i → memOf w' k = memOf w k := fun i k hk => D.mv.block k (j.inv.ltF i k hk) (fun hG => (j.own k hG).2.2 i hk)
          have hmN : ∀ k, N1 k → memOf w' k = memOf w k := fun k hk => D.mv.block k (j.inv.ltN k hk) (fun hG => (j.own k hG).2.1 hk)
          -- what is seen behind the call
          obtain ⟨N3, hN13, hN3, hrepR, hrepB, hN3G, hN3n⟩ : ∃ N3 : Nat → Prop, (∀ k, N1 k → N3 k) ∧ (∀ k, N3 k → k < w'.heap.size ∧ ∀ i, k ∉ F1 i) ∧ RepAs (memOf w') N3 (E.rs f) yz.1 rs G1 ∧ RepBack (memOf w') N3 (E.io f) (E.ps f) yz.2 us G2 ∧ (∀ k ∈ G1 ++ G2, ¬ N3 k) ∧
              (∀ k, N3 k → N1 k ∨ k ∈ G ∨ w.heap.size ≤ k) := by
            cases hlend : lend with
            | true =>
              have hfl : (E.rs f).flat = true ∧ (ioTy (E.io f) (E.ps f)).flat = true := by
                have : ((E.rs f).flat && (ioTy (E.io f) (E.ps f)).flat) = true := hlend
                simpa using this
              refine ⟨N1, fun _ h => h, fun k hk => ⟨Nat.lt_of_lt_of_le (j.inv.ltN k hk) D.mv.size, fun i hi => j.inv.sep i k hi hk⟩, D.rep.flat hfl.1, D.back.flat hfl.2, fun k hk hn => (D.own k hk).2.1 (D.up k (Sn.up hn)), fun k hk => .inl hk⟩
            | false =>
              have hS : ∀ k, Sn lend N1 p2.s F1 k → N1 k := by rw [hlend]; exact fun k hk => hk
              refine ⟨N2, fun k hk => D.up k (Sn.up hk), fun k hk => ⟨D.lt k hk, fun i hi => ?_⟩, D.rep, D.back, fun k hk => (D.own k hk).2.1, fun k hk => ?_⟩
              · rcases D.new k hk with h1 | h1 | h1
                · exact j.inv.sep i k hi (hS k h1)
                · exact (j.own k h1).2.2 i hi
                · have := j.inv.ltF i k hi; omega
              · rcases D.new k hk with h1 | h1 | h1
                · exact .inl (hS k h1)
                · exact .inr (.inl h1)
                · exact .inr (.inr h1)
          have I3 : SInv (memOf w') N3 p2.s hd F1 w'.heap.size := j.inv.widen D.mv.size (fun k hk => ⟨hN13 k hk, hmN k hk⟩) hmF hN3
          obtain ⟨I4, g4⟩ := I3.unlend (s0 := st'.o) (fun i hi => (j.lv i hi).2)
          have hfr : Fresh N3 F1 w'.heap.size (G2 ++ G1) := by
            have hmem : ∀ k, k ∈ G2 ++ G1 → k ∈ G1 ++ G2 := fun k hk => by
              rcases List.mem_append.1 hk with h | h
              · exact List.mem_append_right _ h
              · exact List.mem_append_left _ h
            refine ⟨?_, fun k hk => (D.own k (hmem k hk)).1, fun k hk => hN3G k (hmem k hk), fun k hk i hi => ?_⟩
            · have := List.nodup_append.1 D.nod
              rw [List.nodup_append]
              exact ⟨this.2.1, this.1, fun a ha b hb e => this.2.2 b hb a ha e.symm⟩
            · rcases (D.own k (hmem k hk)).2.2 with h1 | h1
              · exact (j.own k h1).2.2 i hi
              · have := j.inv.ltF i k hi; omega
          have hg0 : Goes st'.o (unlend st'.o p2.s) hd hd := j.goes.trans g4
          have hus' : RepVs (memOf w') N3 (unlend st'.o p2.s) hd args us := RepVs.goes (fun k hk => ⟨hN13 k (j.up k hk), hmN k (j.up k hk)⟩) hg0 hus
          have hul : ∀ i ∈ M, unlend st'.o p2.s i = unlend st.o p.s i := by
            intro i hi'
            unfold unlend
            rw [g2 i hi', hM i hi']
          obtain ⟨s3, hl2, gl⟩ := back_alike _ _ _ _ _ _ _ hl M (fun i hi => List.mem_append_left _ (List.mem_append_right _ hi)) (unlend st'.o p2.s) hul
          obtain ⟨hd5, F5, k5⟩ := back_ok _ _ _ _ _ _ _ hl2 I4 hus' hrepB hfr.left
          obtain ⟨i1, i2, i3, i4⟩ := injFs_alike (E.rs f) yz.1 l.s s3 b M (fun i hi => List.mem_append_right _ hi) gl
          obtain ⟨hd6, F6, k6, r6, q6⟩ := injFs_ok (E.rs f) yz.1 s3 b k5.inv hrepR (hfr.right k5.sub)
          have hval := tupOf_rep r6 q6
          rw [i1] at hval
          have hsub : ∀ i k, k ∈ F6 i → (∃ j, k ∈ F j) ∨ w.heap.size ≤ k := by
            have hG12 : ∀ k, k ∈ G1 ++ G2 → (∃ j, k ∈ F j) ∨ w.heap.size ≤ k := fun k hk => by
              rcases (D.own k hk).2.2 with h1 | h1
              · exact .inl (j.own k h1).1
              · exact .inr h1
            intro i k hk
            rcases k6.sub i k hk with h1 | h1
            · rcases k5.sub i k h1 with h1 | h1
              · exact .inl ⟨i, j.sub i k h1⟩
              · exact hG12 k (List.mem_append_right _ h1)
            · exact hG12 k (List.mem_append_left _ h1)
          refine ⟨G, (injFs (E.rs f) yz.1 s3 b).s, N3, hd6, F6, fun i hi' => i4 i hi', fun i hi' => ?_, D.mv, fun k hk => (j.own k hk).1, k6.inv, fun k hk => hN13 k (j.up k hk), hg0.trans (k5.goes.trans k6.goes), fun k hk => ?_, hsub, ?_⟩
          · have hi1 : i ∉ p.m := fun h => hi' (List.mem_append_left _ (List.mem_append_left _ h))
            have hi2 : i ∉ l.ids := fun h => hi' (List.mem_append_left _ (List.mem_append_right _ h))
            have hi3 : i ∉ (injFs (E.rs f) yz.1 s3 b).ids := by rw [i3]; exact fun h => hi' (List.mem_append_right _ h)
            have e1 : p2.s i = st'.o i := (j.loc i (by rw [m2]; exact hi1)).1
            exact (k6.loc i hi3).1.trans ((k5.loc i hi2).1.trans (unlend_loc e1))
          · rcases hN3n k hk with h1 | h1 | h1
            · rcases j.new k h1 with h1 | h1
              · exact .inl h1
              · exact .inr (.inl h1)
            · exact .inr (.inl (j.own k h1).1)
            · exact .inr (.inr h1)
          · rw [D.val]; exact hval
        | _ => exact hpost.elim
      · cases h

theorem rl_virt {f : Nat} : ∀ vs : List V, rl (virt f vs) = rl f
  | [] => rfl
  | v :: vs => by
    have ih := rl_virt (f := f) vs
    cases v with
    | one c =>
      cases c with
      | imm τ x =>
        cases τ with
        | fn g caps =>
          simp only [virt, rl]
          rw [Nat.add_mul_mod_self_left]
        | _ => simp only [virt]; exact ih
      | _ => simp only [virt]; exact ih
    | _ => simp only [virt]; exact ih

theorem rl_add (v k : Nat) : rl (v + 65536 * k) = rl v := by simp [rl, Nat.add_mul_mod_self_left]

theorem Deferred_ofValue {g : FuncId} {c args : Array Value} {P : Program} {w : World} : (Deferred.ofValue (.func (.func g) #[] c) args).run P w = .ok { target := .fn (.func g) c, args } w := by
  simp [Deferred.ofValue]

theorem good_call (hC : CSound E O.C) {ca : Call} {g : Operand} (ho : o.op = .call ca) (hca : ca.callee = .value g) (h : exOp E O o st K = some r) : ∃ e, K e = some r ∧ Good E X o st e := by
  have hgm : g ∈ o.op.operands := by rw [ho]; simp [Op.operands, Call.operands, hca]
  have hargs : ∀ x ∈ ca.args.toList, x ∈ o.op.operands := fun x hx => by rw [ho]; simp [Op.operands, Call.operands, hca]; exact .inr (by simpa using hx)
  simp only [exOp, ho, hca] at h
  replace h := one_some h
  obtain ⟨c, hc, h⟩ := h
  split at h
  · rename_i f caps x
    split at h
    · rename_i t hcl
      split at h
      · rename_i y hargs1
        have hy : y ∈ o.op.operands := hargs y (by rw [hargs1]; simp)
        replace h := one_some h
        obtain ⟨c', hc', h⟩ := h
        split at h
        · rename_i hcond
          obtain ⟨hne, hns, hcall, rfl⟩ := hcond
          unfold appendK at h
          dsimp only at h
          split at h
          · cases h
          · rename_i te hte
            split at h
            · split at h
              · simp [isE0] at hne
              · unfold srcK at h
                split at h
                · simp [isStrC] at hns
                · replace h := getSl_els h
                  obtain ⟨e, ys, m, h, hg⟩ := h
                  split at h
                  · rename_i hc2
                    obtain ⟨himm, hes⟩ := hc2
                    split at h
                    · split at h
                      · rename_i hroom
                        refine ⟨_, h, fun st' he hi a w ⟨N, hd, F, I⟩ hdst K Q hKQ => ?_⟩
                        have h1 := I.eval g
                        rw [he g hgm, hc] at h1
                        obtain ⟨_, es, e1, hes'⟩ := h1
                        have e1' : a.eval g = .func (.func f) #[] es.toArray := by simpa using e1
                        have hes0 : es = [] := by
                          have := hes'.len
                          simpa [Ty.sz] using this
                        subst hes0
                        have h2 := I.eval y; rw [he y hy, hc'] at h2
                        have hid : st'.o (newId o.dst) = st.o (newId o.dst) := hi _ (.inl (by simp))
                        have els := hg st'.o (fun i hi' => hi i (.inr hi')) I.s _ h2 himm
                        have hcalls := hC.1 f t hcl te hte w N e ys _ himm hes (fun k hk => I.s.ltN k hk) els (by simpa using hroom)
                        unfold Oper.wp
                        have hrun : (execOp a.eval o).run E.P w = .ok (.enter f #[a.eval y]) w := by
                          have hargs' : ca.args = #[y] := by rw [← Array.toArray_toList (xs := ca.args), hargs1]
                          simp [execOp, ho, resolve, hca, hargs', e1', Deferred.ofValue, invoke, run_callFunc hcall]
                        rw [hrun]
                        refine Calls.mono hcalls (fun e' w' hp => ?_)
                        cases e' with
                        | returned v =>
                          obtain ⟨G', hmv, hr, hG', hnd⟩ := hp
                          obtain ⟨s', N', hd', F', L⟩ := left_row (X := X) I.s (id := newId o.dst) (ver := (st.o (newId o.dst)).1 + 1) (s0 := st.o) (rd := m) (G := []) (by rw [hid]; omega) (by simp) hmv (by simp) hr (fun k hk => .inr (hG' k hk)) hnd
                          exact hKQ _ _ (L.inv' I hdst)
                        | _ => exact hp.elim
                      · cases h
                    · cases h
                  · cases h
            · cases h
        · cases h
      · cases h
    split at h
    · rename_i hcond
      obtain ⟨himm, hcall, hlt⟩ := hcond
      obtain ⟨e, hK, hcl⟩ := call_left (X := X) hC h
      refine ⟨e, hK, fun st' he hi a w ⟨N, hd, F, I⟩ hdst K Q hKQ => ?_⟩
      have h1 := I.eval g
      rw [he g hgm, hc] at h1
      obtain ⟨_, es, e1, hes⟩ := h1
      have e1' : a.eval g = .func (.func f) #[] es.toArray := by simpa using e1
      have hmap : ca.args.toList.map st.eval = ca.args.toList.map st'.eval := List.map_congr_left fun p hp => (he p (hargs p hp)).symm
      rw [hmap] at hcl
      have hus : RepVs (memOf w) N st'.o hd (ca.args.toList.map st'.eval ++ exFs caps x) (ca.args.toList.map a.eval ++ es) := RepVs.append (repVs_map _ fun x _ => I.eval x) (exFs_rep himm hes)
      have hcalls := hcl st' hi a w N hd F I _ hus
      rw [rl_virt, rl_add, show rl f = f from Nat.mod_eq_of_lt hlt] at hcalls
      unfold Oper.wp
      have hrun : (execOp a.eval o).run E.P w = .ok (.enter f (ca.args.toList.map a.eval ++ es).toArray) w := by
        simp [execOp, ho, resolve, hca, e1', Deferred.ofValue, invoke, run_callFunc hcall]
      rw [hrun]
      refine Calls.mono hcalls (fun e' w' hp => ?_)
      cases e' with
      | returned v =>
        obtain ⟨W, s', N', hd', F', L⟩ := hp
        exact hKQ _ _ (L.inv' I hdst)
      | _ => exact hp.elim
    · cases h
  · cases h
end

end Go.Proofs.YtofkhmedmeihiaaPn.Ev
