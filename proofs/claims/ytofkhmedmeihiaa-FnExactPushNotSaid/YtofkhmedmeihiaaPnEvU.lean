/- The evaluator: regions, in their own order and in any order. -/
import Derived.Test.YtofkhmedmeihiaaPnEvT
namespace Go.Proofs.YtofkhmedmeihiaaPn.Ev
open Go

/-- What an operation of a region must show, its guard with it. -/
def GoodW (E : Env) (X : Ctx) (all : Array Oper) (o : Oper) (st : St) (e : Eff) : Prop :=
  ∀ st' : St, (∀ t ∈ (infoOf all o e).uses, st'.t t = st.t t) → (∀ i, i ∈ e.w ∨ i ∈ e.r → st'.o i = st.o i) → ∀ a w, Inv X st' a w → ∀ (K : Act → World → Prop) (Q : Exit → Act → World → Prop),
    (∀ a' w', Inv X (st'.app o.dst e) a' w' → K a' w') → (if Region.wanted o (yielded all a.tmps) = true then o.wp E.P a w K Q ∨ (o.asks E.P a w ∧ LetsOut Q) else K (a.put o.dst undef) w)

theorem mem_tmps : ∀ (xs : List Operand) (t : Nat), .tmp t ∈ xs → t ∈ Operand.tmps xs
  | [], _, h => by simp at h
  | .tmp u :: r, t, h => by
    rcases List.mem_cons.1 h with h | h
    · injection h with h; subst h; exact List.mem_cons_self ..
    · exact List.mem_cons_of_mem _ (mem_tmps r t h)
  | .const _ :: r, t, h => by
    rcases List.mem_cons.1 h with h | h
    · cases h
    · exact mem_tmps r t h
  | .global _ :: r, t, h => by
    rcases List.mem_cons.1 h with h | h
    · cases h
    · exact mem_tmps r t h
  | .func _ :: r, t, h => by
    rcases List.mem_cons.1 h with h | h
    · cases h
    · exact mem_tmps r t h

theorem eval_alike {st st' : St} {x : Operand} (h : ∀ t, x = .tmp t → st'.t t = st.t t) : st'.eval x = st.eval x := by
  cases x with
  | tmp t => exact h t rfl
  | _ => rfl

section
variable {E : Env} {O : Oracle E} {X : Ctx} {all : Array Oper}

theorem uses_alike {o : Oper} {st st' : St} {e : Eff} (h : ∀ t ∈ (infoOf all o e).uses, st'.t t = st.t t) : ∀ x ∈ o.op.operands, st'.eval x = st.eval x := by
  intro x hx
  refine eval_alike fun t ht => h t ?_
  subst ht
  exact List.mem_append_right _ (mem_tmps _ _ (by simpa using hx))

theorem yielded_bool {st : St} {a : Act} {w : World} {j t : Nat} {b : Bool} (I : Inv X st a w) (hg : guardTmp all j = some t) (ht : st.t t = .one (.imm .bool b)) : yielded all a.tmps j = some b := by
  obtain ⟨N, hd, F, I⟩ := I
  have h := I.t t
  rw [ht] at h
  have hv : a.tmps.getD t undef = .bool b := imm_bool (m := memOf w) (N := N) (s := st.o) (hd := hd) h
  have hsome : a.tmps[t]? = some (.bool b) := by
    rw [Array.getD_eq_getD_getElem?] at hv
    cases hq : a.tmps[t]? with
    | none => rw [hq] at hv; simp [undef] at hv
    | some u => rw [hq] at hv; simp at hv; rw [hv]
  unfold yielded
  unfold guardTmp at hg
  rw [hg]
  simp [hsome]

theorem goodW_go {o : Oper} {st : St} {e : Eff} (hd : dstOK X o.dst) (hg : o.guard = none ∨ ∃ j t b, o.guard = some (j, b) ∧ guardTmp all j = some t ∧ st.t t = .one (.imm .bool b)) (h : Good E X o st e) : GoodW E X all o st e := by
  intro st' h1 h2 a w I K Q hK
  have hw : Region.wanted o (yielded all a.tmps) = true := by
    rcases hg with hg | ⟨j, t, b, hg, hj, ht⟩
    · simp [Region.wanted, hg]
    · have ht' : st'.t t = .one (.imm .bool b) := by
        rw [h1 t (by simp [infoOf, hg, hj]), ht]
      simp [Region.wanted, hg, yielded_bool I hj ht']
  rw [if_pos hw]
  exact .inl (h st' (uses_alike h1) h2 a w I hd K Q hK)

theorem goodW_skip {o : Oper} {st : St} {s : Sto} (hd : dstOK X o.dst) {j t : Nat} {b b' : Bool} (hg : o.guard = some (j, b')) (hj : guardTmp all j = some t) (ht : st.t t = .one (.imm .bool b)) (hb : b ≠ b') : GoodW E X all o st { v := .tup [], s } := by
  intro st' h1 h2 a w I K Q hK
  have ht' : st'.t t = .one (.imm .bool b) := by
    rw [h1 t (by simp [infoOf, hg, hj]), ht]
  have hw : ¬ (Region.wanted o (yielded all a.tmps) = true) := by
    simp [Region.wanted, hg, yielded_bool I hj ht', hb]
  rw [if_neg hw]
  obtain ⟨N, hd', F, I⟩ := I
  exact hK _ _ (I.val hd ⟨[], rfl, trivial⟩)

/-- What was skipped itself bids nothing. -/
theorem goodW_skip2 {o : Oper} {st : St} {s : Sto} (hd : dstOK X o.dst) {j t : Nat} {b' : Bool} (hg : o.guard = some (j, b')) (hj : guardTmp all j = some t) (ht : st.t t = .tup []) : GoodW E X all o st { v := .tup [], s } := by
  intro st' h1 h2 a w I K Q hK
  have ht' : st'.t t = .tup [] := by
    rw [h1 t (by simp [infoOf, hg, hj]), ht]
  have hy : yielded all a.tmps j = none := by
    obtain ⟨N, hd', F, I⟩ := I
    have h := I.t t
    rw [ht'] at h
    obtain ⟨vs, e1, e2⟩ := h
    have hv : a.tmps.getD t undef = .tuple ⟨vs⟩ := e1
    unfold yielded
    unfold guardTmp at hj
    rw [hj]
    cases hq : a.tmps[t]? with
    | none => simp [hq]
    | some u =>
      have hu : u = .tuple ⟨vs⟩ := by
        rw [Array.getD_eq_getD_getElem?, hq] at hv
        simpa using hv
      simp [hq, hu]
  have hw : ¬ (Region.wanted o (yielded all a.tmps) = true) := by
    simp [Region.wanted, hg, hy]
  rw [if_neg hw]
  obtain ⟨N, hd', F, I⟩ := I
  exact hK _ _ (I.val hd ⟨[], rfl, trivial⟩)

/-- A run of a region's operations in their order. -/
inductive Run (E : Env) (X : Ctx) (all : Array Oper) : List Oper → St → List Eff → St → Prop
  | nil (st : St) : Run E X all [] st [] st
  | cons {o : Oper} {r : List Oper} {st st' : St} {e : Eff} {es : List Eff} (h : GoodW E X all o st e) (h' : Run E X all r (st.app o.dst e) es st') : Run E X all (o :: r) st (e :: es) st'

theorem put_same {st : St} {t : Nat} {v : V} (h : st.t t = v) : st.put t v = st := by
  unfold St.put
  congr 1
  funext i
  by_cases e : i = t
  · subst e; simp [h]
  · simp [e]

theorem evOps_ok (hC : CSound E O.C) {R : Type} {r : R} : ∀ (ops : List Oper) (st : St) (acc : List Info) (K : List Info → St → Option R), evOps E O all X.io X.nt ops st acc K = some r →
    ∃ es st', Run E X all ops st es st' ∧ es.length = ops.length ∧ K (acc.reverse ++ List.zipWith (infoOf all) ops es) st' = some r
  | [], st, acc, K, h => ⟨[], st, .nil st, rfl, by simpa [evOps] using h⟩
  | o :: ops, st, acc, K, h => by
    have hdst : ∀ {q : Option R}, (if dstB X.nt X.io o.dst = true then q else none) = some r → dstOK X o.dst ∧ q = some r := by
      intro q hq
      split at hq
      · rename_i hc
        refine ⟨fun t ht => ?_, hq⟩
        rw [ht] at hc
        simpa [dstB] using hc
      · cases hq
    have go : ∀ {st0 : St}, st0 = st → (o.guard = none ∨ ∃ j t b, o.guard = some (j, b) ∧ guardTmp all j = some t ∧ st.t t = .one (.imm .bool b)) →
        (if dstB X.nt X.io o.dst = true then exOp E O o st0 fun e => evOps E O all X.io X.nt ops (st0.app o.dst e) (infoOf all o e :: acc) K else none) = some r →
        ∃ es st', Run E X all (o :: ops) st es st' ∧ es.length = (o :: ops).length ∧ K (acc.reverse ++ List.zipWith (infoOf all) (o :: ops) es) st' = some r := by
      intro st0 e0 hg hq
      subst e0
      obtain ⟨hd, hq⟩ := hdst hq
      obtain ⟨e, hq, hgood⟩ := exOp_good (X := X) hC o hq
      obtain ⟨es, st', h1, h2, h3⟩ := evOps_ok hC ops _ _ _ hq
      exact ⟨e :: es, st', .cons (goodW_go hd hg hgood) h1, by simp [h2], by simpa using h3⟩
    have skip : ∀ {st0 : St}, st0 = st → (∃ j t b b', o.guard = some (j, b') ∧ guardTmp all j = some t ∧ st.t t = .one (.imm .bool b) ∧ b ≠ b') →
        (if dstB X.nt X.io o.dst = true then evOps E O all X.io X.nt ops (st0.app o.dst { v := .tup [], s := st0.o }) (infoOf all o { v := .tup [], s := st0.o } :: acc) K else none) = some r →
        ∃ es st', Run E X all (o :: ops) st es st' ∧ es.length = (o :: ops).length ∧ K (acc.reverse ++ List.zipWith (infoOf all) (o :: ops) es) st' = some r := by
      intro st0 e0 hg hq
      subst e0
      obtain ⟨hd, hq⟩ := hdst hq
      obtain ⟨j, t, b, b', hg, hj, ht, hb⟩ := hg
      obtain ⟨es, st', h1, h2, h3⟩ := evOps_ok hC ops _ _ _ hq
      exact ⟨_ :: es, st', .cons (goodW_skip hd hg hj ht hb) h1, by simp [h2], by simpa using h3⟩
    simp only [evOps] at h
    split at h
    · rename_i hg
      exact go rfl (.inl hg) h
    · rename_i j want hg
      split at h
      · cases h
      · rename_i t hj
        split at h
        · rename_i b ht
          split at h
          · rename_i hb
            have hb' : b = true := hb
            rw [hb'] at ht
            split at h
            · rename_i hw
              exact go (put_same ht) (.inr ⟨j, t, true, by rw [hg, hw], hj, ht⟩) h
            · rename_i hw
              exact skip (put_same ht) ⟨j, t, true, want, hg, hj, ht, fun h => hw h.symm⟩ h
          · rename_i hb
            have hb' : b = false := by
              have hb2 : ¬ (b = true) := hb
              simpa using hb2
            rw [hb'] at ht
            split at h
            · rename_i hw
              exact skip (put_same ht) ⟨j, t, false, want, hg, hj, ht, by rw [hw]; simp⟩ h
            · rename_i hw
              exact go (put_same ht) (.inr ⟨j, t, false, by rw [hg]; simpa using hw, hj, ht⟩) h
        · rename_i ht
          obtain ⟨hd, hq⟩ := hdst h
          obtain ⟨es, st', h1, h2, h3⟩ := evOps_ok hC ops _ _ _ hq
          exact ⟨_ :: es, st', .cons (goodW_skip2 hd hg hj ht) h1, by simp [h2], by simpa using h3⟩
        · cases h

theorem Run.wpOps {Q : Exit → Act → World → Prop} : ∀ {ops : List Oper} {st st' : St} {es : List Eff}, Run E X all ops st es st' → ∀ (k : Nat), (∀ i, i < ops.length → all[k + i]? = ops[i]?) → ∀ a w, Inv X st a w → (∀ a w, Inv X st' a w → Q .normal a w) →
    Go.wpOps E.P all Q (List.range' k ops.length) a w := by
  intro ops st st' es h
  induction h with
  | nil st => intro k _ a w I hQ; exact hQ a w I
  | @cons o r st st' e es h h' ih =>
    intro k hk a w I hQ
    have h0 : all[k]? = some o := by simpa using hk 0 (by simp)
    rw [List.length_cons, List.range'_succ]
    simp only [Go.wpOps, h0]
    have := h st (fun _ _ => rfl) (fun _ _ => rfl) a w I (Go.wpOps E.P all Q (List.range' (k + 1) r.length)) Q (fun a' w' I' => ih (k + 1) (fun i hi => by
      have := hk (i + 1) (by simpa using hi)
      simpa [Nat.add_assoc, Nat.add_comm 1] using this) a' w' I' hQ)
    exact this
end

end Go.Proofs.YtofkhmedmeihiaaPn.Ev
