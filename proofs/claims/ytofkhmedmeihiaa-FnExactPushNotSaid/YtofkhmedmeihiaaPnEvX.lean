/- The evaluator: where a state is cut; how a call begins and ends. -/
import Derived.Test.YtofkhmedmeihiaaPnEvW
import Derived.LoopN
namespace Go.Proofs.YtofkhmedmeihiaaPn.Ev
open Go

theorem laid_rep {m : Mem} {N : Nat → Prop} {s : Sto} {hd : Nat → Value} {val : Nat → Value} : ∀ {ts : List Nat} {vs : List V}, RepVs m N s hd vs (ts.map val) → ∀ i, RepV m N s hd (laid ts vs i) (val i)
  | [], [], _, _ => trivial
  | t :: ts, v :: vs, ⟨h1, h2⟩, i => by
    simp only [laid]
    by_cases h : i = t
    · rw [if_pos h, h]; exact h1
    · rw [if_neg h]; exact laid_rep h2 i

theorem SInv.zero {m : Mem} {N : Nat → Prop} {size : Nat} (h : ∀ k, N k → k < size) : SInv m N sto0 (fun _ => undef) (fun _ => []) size :=
  ⟨fun _ => rfl, by simp, fun _ => List.nodup_nil, by simp, by simp, h⟩

theorem stOf_rep {m : Mem} {N : Nat → Prop} {size : Nat} {τ : Ty} {x : τ.den} {ts : List Nat} {val : Nat → Value} {G : List Nat} (h : RepAs m N τ x (ts.map val) G) (hnd : G.Nodup) (hG : ∀ k ∈ G, k < size ∧ ¬ N k) (hN : ∀ k, N k → k < size) :
    ∃ hd F, SInv m N (stOf ts τ x).o hd F size ∧ (∀ i k, k ∈ F i → k ∈ G) ∧ ∀ t, RepV m N (stOf ts τ x).o hd ((stOf ts τ x).t t) (val t) := by
  obtain ⟨hd, F, k, r, _⟩ := injFs_ok τ x sto0 1000000 (SInv.zero (m := m) hN) h ⟨hnd, fun k hk => (hG k hk).1, fun k hk => (hG k hk).2, by simp⟩
  refine ⟨hd, F, k.inv, fun i j hj => ?_, fun t => laid_rep r t⟩
  rcases k.sub i j hj with h | h
  · simp at h
  · exact h

section
variable {E : Env} {X : Ctx}

theorem Inv.vals {st : St} {a : Act} {w : World} {N : Nat → Prop} {hd : Nat → Value} {F : Nat → List Nat} (I : InvD X st a w N hd F) : ∀ ts : List Nat, RepVs (memOf w) N st.o hd (ts.map st.t) (ts.map fun t => a.tmps.getD t undef)
  | [] => trivial
  | t :: ts => ⟨I.t t, Inv.vals I ts⟩

/-- A state is cut down to some temporaries. -/
theorem cut_ok {ts : List Nat} {τ : Ty} {x : τ.den} {st : St} (h : prSt ts τ st = some x) {a : Act} {w : World} (I : Inv X st a w) : Inv X (stOf ts τ x) a w := by
  unfold prSt at h
  split at h
  · rename_i q hq
    obtain rfl := Option.some.inj h
    obtain ⟨N, hd, F, I⟩ := I
    obtain ⟨N1, F1, G, j⟩ := prFs_ok false _ _ _ _ _ hq I.s (Inv.vals I ts)
    obtain ⟨hd2, F2, k1, k2, k3⟩ := stOf_rep (m := memOf w) (N := N1) (size := w.heap.size) (ts := ts) (val := fun t => a.tmps.getD t undef) j.rep j.nod (fun k hk => by
      obtain ⟨⟨i, hi⟩, h2, _⟩ := j.own k hk
      exact ⟨I.s.ltF i k hi, h2⟩) j.inv.ltN
    refine ⟨N1, hd2, F2, k1, k3, I.defers, I.size, I.io, I.fr.move (Moves.refl w) (by simp) j.up (fun k hk => ?_) (fun i k hk => ?_)⟩
    · rcases j.new k hk with h | h
      · exact .inl h
      · exact .inr (.inl h)
    · exact .inl (j.own k (k2 i k hk)).1
  · cases h

theorem RepAs.length {m : Mem} {N : Nat → Prop} : ∀ {τs : Ty} {x : τs.den} {us : List Value} {G : List Nat}, RepAs m N τs x us G → us.length = nFs τs
  | .nil, _, us, _, h => by rw [h.1]; rfl
  | .cons a r, _, _ :: us, _, ⟨_, _, _, _, h⟩ => by simp [nFs, RepAs.length h]

theorem ioTmps_le : ∀ (io : List Bool) (i : Nat), ∀ j ∈ ioTmps io i, i ≤ j ∧ j < i + io.length
  | [], _, _, h => by simp [ioTmps] at h
  | true :: io, i, j, h => by
    simp only [ioTmps] at h
    rcases List.mem_cons.1 h with rfl | h
    · simp
    · have := ioTmps_le io (i + 1) j h
      simp; omega
  | false :: io, i, j, h => by
    simp only [ioTmps] at h
    have := ioTmps_le io (i + 1) j h
    simp; omega

theorem ioOk_len : ∀ {io : List Bool} {τs : Ty}, ioOk io τs = true → io.length = nFs τs
  | [], .nil, _ => rfl
  | _ :: io, .cons _ r, h => by simp [nFs, ioOk_len (io := io) (τs := r) h]
  | [], .bool, h | [], .int _, h | [], .str, h | [], .sl _, h | [], .own _, h | [], .agg _, h | [], .cons _ _, h | [], .ptr _, h | [], .box _, h | [], .fn _ _, h | [], .tree, h | [], .unk, h | [], .map _, h => by simp [ioOk] at h
  | _ :: _, .nil, h | _ :: _, .bool, h | _ :: _, .int _, h | _ :: _, .str, h | _ :: _, .sl _, h | _ :: _, .own _, h | _ :: _, .agg _, h | _ :: _, .ptr _, h | _ :: _, .box _, h | _ :: _, .fn _ _, h | _ :: _, .tree, h | _ :: _, .unk, h | _ :: _, .map _, h => by simp [ioOk] at h

theorem back_of_as {m : Mem} {N : Nat → Prop} : ∀ (io : List Bool) (τs : Ty) (z : (ioTy io τs).den) (us : List Value) (i : Nat) (val : Nat → Value) (G : List Nat), ioOk io τs = true → us.length = io.length → (∀ j (h : j < us.length), val (i + j) = us[j]) →
    RepAs m N (ioTy io τs) z ((ioTmps io i).map val) G → RepBack m N io τs z us G
  | [], .nil, z, [], i, val, G, _, _, _, h => h.2
  | true :: io, .cons a r, z, u :: us, i, val, G, ho, hl, hv, h => by
    obtain ⟨F1, F2, e, h1, h2⟩ := h
    have h0 : val i = u := hv 0 (by simp)
    rw [h0] at h1
    exact ⟨F1, F2, e, h1, back_of_as io r z.2 us (i + 1) val F2 ho (by simpa using hl) (fun j hj => by
      have := hv (j + 1) (by simpa using hj)
      rw [Nat.add_assoc, Nat.add_comm 1]; simpa using this) h2⟩
  | false :: io, .cons a r, z, u :: us, i, val, G, ho, hl, hv, h =>
    back_of_as io r z us (i + 1) val G ho (by simpa using hl) (fun j hj => by
      have := hv (j + 1) (by simpa using hj)
      rw [Nat.add_assoc, Nat.add_comm 1]; simpa using this) h
  | [], .nil, _, _ :: _, _, _, _, _, hl, _, _ => by simp at hl
  | _ :: _, .cons _ _, _, [], _, _, _, _, hl, _, _ => by simp at hl
  | [], .bool, _, _, _, _, _, h, _, _, _ | [], .int _, _, _, _, _, _, h, _, _, _ | [], .str, _, _, _, _, _, h, _, _, _ | [], .sl _, _, _, _, _, _, h, _, _, _ | [], .own _, _, _, _, _, _, h, _, _, _ | [], .agg _, _, _, _, _, _, h, _, _, _ | [], .cons _ _, _, _, _, _, _, h, _, _, _
  | [], .ptr _, _, _, _, _, _, h, _, _, _ | [], .box _, _, _, _, _, _, h, _, _, _ | [], .fn _ _, _, _, _, _, _, h, _, _, _ | [], .tree, _, _, _, _, _, h, _, _, _ | [], .unk, _, _, _, _, _, h, _, _, _ | [], .map _, _, _, _, _, _, h, _, _, _ => by simp [ioOk] at h
  | _ :: _, .nil, _, _, _, _, _, h, _, _, _ | _ :: _, .bool, _, _, _, _, _, h, _, _, _ | _ :: _, .int _, _, _, _, _, _, h, _, _, _ | _ :: _, .str, _, _, _, _, _, h, _, _, _ | _ :: _, .sl _, _, _, _, _, _, h, _, _, _ | _ :: _, .own _, _, _, _, _, _, h, _, _, _ | _ :: _, .agg _, _, _, _, _, _, h, _, _, _
  | _ :: _, .ptr _, _, _, _, _, _, h, _, _, _ | _ :: _, .box _, _, _, _, _, _, h, _, _, _ | _ :: _, .fn _ _, _, _, _, _, _, h, _, _, _ | _ :: _, .tree, _, _, _, _, _, h, _, _, _ | _ :: _, .unk, _, _, _, _, _, h, _, _, _ | _ :: _, .map _, _, _, _, _, _, h, _, _, _ => by simp [ioOk] at h

theorem resVs_ok {P : Program} {R : Type} {r : R} {g : ResultVar → Sem Value} {st : St} {a : Act} {w : World} (hg1 : ∀ t, g (.tmp t) = pure (a.tmps.getD t undef)) (hg2 : ∀ x t, g (.cell x t) = do loadVar t (← asAddr (a.tmps.getD x undef)))
    {N : Nat → Prop} {hd : Nat → Value} {F : Nat → List Nat} (I : InvD X st a w N hd F) : ∀ (res : List ResultVar) (K : List V → Option R), resVs P st res K = some r →
      ∃ vs us, K vs = some r ∧ RepVs (memOf w) N st.o hd vs us ∧ Sem.run P (res.mapM g) w = .ok us w
  | [], K, h => ⟨[], [], h, trivial, by simp⟩
  | .tmp t :: res, K, h => by
    obtain ⟨vs, us, h1, h2, h3⟩ := resVs_ok hg1 hg2 I res _ h
    refine ⟨_, a.tmps.getD t undef :: us, h1, ⟨I.t t, h2⟩, ?_⟩
    rw [List.mapM_cons, hg1, Sem.run_bind]
    simp only [Sem.run_pure, Result.andThen_ok]
    rw [Sem.run_bind, h3]
    simp
  | .cell x t :: res, K, h => by
    simp only [resVs] at h
    split at h
    · rename_i c hc
      obtain ⟨cs, m, h, hat⟩ := cellsAt_ok h
      split at h
      · rename_i hif
        obtain ⟨hok, hl, hs1⟩ := hif
        obtain ⟨vs, us, h1, h2, h3⟩ := resVs_ok hg1 hg2 I res _ h
        have hx := I.t x
        rw [hc] at hx
        obtain ⟨b, off, us', e1, e2, e3⟩ := hat st.o (fun _ _ => rfl) I.s _ hx
        have hlu : (us'.take (szP P t)).length = szP P t := by
          have := e2.len; simp only [List.length_take] at hl ⊢; omega
        obtain ⟨u, hr, hu⟩ := run_loadVar e3 hok hlu hs1
        refine ⟨_, u :: us, h1, ⟨(ofCells_rep e2.take hu).1, h2⟩, ?_⟩
        rw [List.mapM_cons, hg2, e1, Sem.run_bind]
        simp only [asAddr, Sem.run_bind, Sem.run_pure, Result.andThen_ok, hr, h3]
      · cases h
    · cases h

theorem run_results {P : Program} {R : Type} {r : R} {fn : Func} {st : St} {a : Act} {w : World} {N : Nat → Prop} {hd : Nat → Value} {F : Nat → List Nat} (I : InvD X st a w N hd F) {K : List V → Option R} (h : resVs P st fn.results.toList K = some r) :
    ∃ vs us, K vs = some r ∧ RepVs (memOf w) N st.o hd vs us ∧ (results fn a.tmps).run P w = .ok (retOf us) w := by
  unfold results
  obtain ⟨vs, us, h1, h2, h3⟩ := resVs_ok (P := P) (g := fun
    | .tmp t => pure (a.tmps.getD t undef)
    | .cell x t => do loadVar t (← asAddr (a.tmps.getD x undef))) (fun _ => rfl) (fun _ _ => rfl) I fn.results.toList K h
  refine ⟨vs, us, h1, h2, ?_⟩
  have h3' : Sem.run P (fn.results.mapM fun
    | .tmp t => pure (a.tmps.getD t undef)
    | .cell x t => do loadVar t (← asAddr (a.tmps.getD x undef))) w = .ok us.toArray w := by
    rw [Array.mapM_eq_mapM_toList, Sem.run_map, h3]; rfl
  rw [Sem.run_bind]
  refine (congrArg (fun q => Result.andThen q _) h3').trans ?_
  simp only [Result.andThen_ok, Sem.run_pure]
  match us with
  | [] => rfl
  | [t] => rfl
  | t :: t' :: l =>
    have : ¬ ((t :: t' :: l).toArray.size = 1) := by simp
    rw [dif_neg this]; rfl

/-- How a call ends: what it hands back stands in memory. -/
def RetAt (E : Env) (f : Nat) (fn : Func) (us : List Value) (X : Ctx) (y : E.Ret f) (a : Act) (w : World) : Prop :=
  a.defers = [] ∧ ∃ v, (results fn a.tmps).run E.P w = .ok v w ∧ ∃ N' rs G1 G2, Done E f y.1 y.2 us X.F0 X.N0 X.w0 v w N' rs G1 G2


theorem prRet_ok {f : Nat} {fn : Func} {res : List ResultVar} {us : List Value} {st : St} {y : E.Ret f} (h : prRet E f res st = some y) (hres : fn.results.toList = res) (hio : X.io = ioTmps (E.io f) 0) (hok : ioOk (E.io f) (E.ps f) = true) (hus : us.length = (E.io f).length)
    (hav : ∀ j, X.av j = us.getD j undef) {a : Act} {w : World} (I : Inv X st a w) : RetAt E f fn us X y a w := by
  subst hres
  unfold prRet at h
  obtain ⟨N, hd, F, I⟩ := I
  obtain ⟨vs, rvs, h, hvs, hrun⟩ := run_results I h
  split at h
  · rename_i p hp
    split at h
    · rename_i q hq
      obtain rfl := Option.some.inj h
      obtain ⟨N1, F1, G1, j1⟩ := prFs_ok false _ _ _ _ _ hp I.s hvs
      have hv2 : RepVs (memOf w) N1 p.s hd ((ioTmps (E.io f) 0).map st.t) ((ioTmps (E.io f) 0).map fun t => a.tmps.getD t undef) := RepVs.goes (fun b hb => ⟨j1.up b hb, rfl⟩) j1.goes (Inv.vals I _)
      obtain ⟨N2, F2, G2, j2⟩ := prFs_ok false _ _ _ _ _ hq j1.inv hv2
      have hold : ∀ i k, k ∈ F i → k ∈ X.F0 ∨ X.w0.heap.size ≤ k := fun i k hk => (I.fr.own i k hk).symm
      have hmap : ((ioTmps (E.io f) 0).map fun t => a.tmps.getD t undef) = (ioTmps (E.io f) 0).map X.av := List.map_congr_left fun t ht => I.io t (by rw [hio]; exact ht)
      have hrep2 := j2.rep
      rw [hmap] at hrep2
      refine ⟨I.defers, _, hrun, N2, rvs, G1, G2, ⟨I.fr.os, I.fr.tape, I.fr.output, I.fr.size, I.fr.block⟩, fun k hk => j2.up k (j1.up k (I.fr.up k hk)), fun k hk => ?_, j2.inv.ltN, rfl, RepAs.mono (fun b hb => ⟨j2.up b hb, rfl⟩) (fun _ _ => rfl) j1.rep,
        back_of_as (E.io f) (E.ps f) q.x us 0 X.av G2 hok hus (fun j hj => by rw [hav, Nat.zero_add]; simp [List.getD, List.getElem?_eq_getElem hj]) hrep2, ?_, fun k hk => ?_⟩
      · have h1 : N k ∨ ∃ i, k ∈ F i := by
          rcases j2.new k hk with h | ⟨i, h⟩
          · exact j1.new k h
          · exact .inr ⟨i, j1.sub i k h⟩
        rcases h1 with h | ⟨i, h⟩
        · rcases I.fr.new k h with h | h | h
          · exact .inl h
          · exact .inr (.inr h)
          · exact .inr (.inl h)
        · rcases I.fr.own i k h with h | h
          · exact .inr (.inr h)
          · exact .inr (.inl h)
      · rw [List.nodup_append]
        refine ⟨j1.nod, j2.nod, fun k hk k' hk' e => ?_⟩
        subst e
        obtain ⟨⟨i, hi⟩, _⟩ := j2.own k hk'
        exact (j1.own k hk).2.2 i hi
      · rcases List.mem_append.1 hk with h | h
        · obtain ⟨⟨i, hi⟩, h2, h3⟩ := j1.own k h
          refine ⟨I.s.ltF i k hi, fun hn => ?_, hold i k hi⟩
          rcases j2.new k hn with h' | ⟨i', h'⟩
          · exact h2 h'
          · exact h3 i' h'
        · obtain ⟨⟨i, hi⟩, h2, h3⟩ := j2.own k h
          exact ⟨I.s.ltF i k (j1.sub i k hi), h2, hold i k (j1.sub i k hi)⟩
    · cases h
  · cases h

/-- How a call begins. -/
theorem enter_ok {f : Nat} {x : (E.ps f).den} {w : World} {N : Nat → Prop} {us : List Value} {G : List Nat} (h : RepAs (memOf w) N (E.ps f) x us G) (hnd : G.Nodup) (hG : ∀ k ∈ G, k < w.heap.size ∧ ¬ N k) (hN : ∀ k, N k → k < w.heap.size) {nt : Nat} (hnt : us.length ≤ nt) :
    Inv { w0 := w, N0 := N, F0 := G, nt := nt, io := ioTmps (E.io f) 0, av := fun j => us.getD j undef } (stOf (List.range (nFs (E.ps f))) (E.ps f) x) { tmps := us.toArray ++ Array.replicate (nt - us.toArray.size) undef, defers := [] } w ∨ ¬ (∀ j ∈ ioTmps (E.io f) 0, j < us.length) := by
  by_cases hj : ∀ j ∈ ioTmps (E.io f) 0, j < us.length
  · left
    have hget : ∀ t, t < us.length → (us.toArray ++ Array.replicate (nt - us.toArray.size) undef).getD t undef = us.getD t undef := by
      intro t ht
      simp [Array.getD_eq_getD_getElem?, List.getD, Array.getElem?_append, ht]
    have hmap : (List.range (nFs (E.ps f))).map (fun t => (us.toArray ++ Array.replicate (nt - us.toArray.size) undef).getD t undef) = us := by
      rw [← h.length]
      apply List.ext_getElem
      · simp
      · intro i h1 h2
        simp only [List.getElem_map, List.getElem_range]
        rw [hget i h2]
        simp [List.getD, List.getElem?_eq_getElem h2]
    obtain ⟨hd, F, k1, k2, k3⟩ := stOf_rep (m := memOf w) (N := N) (size := w.heap.size) (τ := E.ps f) (x := x) (ts := List.range (nFs (E.ps f))) (val := fun t => (us.toArray ++ Array.replicate (nt - us.toArray.size) undef).getD t undef) (G := G) (by rw [hmap]; exact h) hnd hG hN
    exact ⟨N, hd, F, k1, k3, rfl, by simp; omega, fun j hj' => hget j (hj j hj'), ⟨rfl, rfl, rfl, Nat.le_refl _, fun _ _ _ => rfl, fun _ h => h, fun _ h => .inl h, fun i k hk => .inr (k2 i k hk)⟩⟩
  · exact .inr hj

end

end Go.Proofs.YtofkhmedmeihiaaPn.Ev
