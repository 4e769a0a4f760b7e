/- Texts laid together: EvY, EvZ, EvLm, EvRow, EvCl, EvIt, EvWt; no condition but those that each theorem names. -/
import Derived.Test.YtndnhbihcnlpaaaDoorStEvX
import Derived.ChangeArms
import Derived.Below
import Derived.Carry
import Derived.WalkKit
import Derived.Lib.Walk
import Derived.Lib.SliceRun
import Derived.Maps.AppendAt
import Derived.Lib.AppendZeros
import Derived.Lib.AppendIntMem
import Derived.Lib.LaidTab
/- The evaluator is sound: code, calls, loops, every level. -/
namespace Go.Proofs.YtndnhbihcnlpaaaDoorSt.Ev
open Go

def exOf : Ex → Exit
  | .normal => .normal
  | .exit i => .exit i

/-- A call's frame fits what the evaluator knows of its function. -/
structure Fit (E : Env) (f nt : Nat) (res : List ResultVar) (fn : Func) (us : List Value) (X : Ctx) : Prop where
  res : fn.results.toList = res
  nt : nt = X.nt
  io : X.io = ioTmps (E.io f) 0
  ok : ioOk (E.io f) (E.ps f) = true
  len : us.length = (E.io f).length
  av : ∀ j, X.av j = us.getD j undef
  tabs : ∀ w N F, Fr X w N F → E.tabs w N

def LSound (E : Env) (n : Nat) (L : (f : Nat) → (h : LoopH) → Code → h.hτ.den → Option (h.oτ.den ⊕ E.Ret f)) : Prop :=
  ∀ (f : Nat) (h : LoopH) (c : Code) (x : h.hτ.den) (v : h.oτ.den ⊕ E.Ret f), L f h c x = some v → ∀ (fn : Func) (body : Code) (res : List ResultVar) (us : List Value) (X : Ctx), E.P.funcs[rl f]? = some fn → fn.body = some body → Fit E f fn.ntmps res fn us X →
    ∀ (Q : Exit → Act → World → Prop) a w, Inv X (stOfA h.ht h.hal h.hτ x) a w → (∀ y, v = .inl y → ∀ a w, Inv X (stOfA h.ot h.oal h.oτ y) a w → Q (.exit h.ex) a w) → (∀ y, v = .inr y → ∀ a w, RetAt E f fn us X y a w → Q .ret a w) →
      Code.rounds E.P c Q n a w

theorem force_inv {X : Ctx} {R : Type} {t : Nat} {st : St} {k : St → Option R} {r : R} (h : forceK t st k = some r) {a : Act} {w : World} (I : Inv X st a w) : ∃ st2, k st2 = some r ∧ Inv X st2 a w := by
  obtain ⟨N, hd, F, I⟩ := I
  unfold forceK at h
  split at h
  · rename_i id ver _
    split at h
    · rename_i v e xs hs
      split at h
      · split at h
        · rename_i hall
          refine ⟨_, h, N, hd, F, ?_⟩
          have hob := I.s.obj id
          rw [hs] at hob
          have hv : v = (st.o id).1 := by rw [hs]
          have hl : List.length (forceL xs) = List.length xs := List.length_map ..
          have hg : Goes st.o (st.o.set id (v, .vec (.own e) (forceL xs))) hd hd := by
            subst hv
            exact Goes.set_like id _ (fun _ => by rw [hs]; exact ⟨rfl, rfl, Nat.le_of_eq hl.symm⟩) (by simp [Obj.isB])
          have hF : (fun i => if i = id then F id else F i) = F := by
            funext i
            by_cases e : i = id
            · simp [e]
            · simp [e]
          have hinv := I.s.upd (N' := N) (hd' := hd) id (v, .vec (.own e) (forceL xs)) (F id) (Nat.le_refl _) (fun b hb => ⟨hb, rfl⟩) (fun k hk => ⟨I.s.ltN k hk, fun i _ hki => I.s.sep i k hki hk, fun h => I.s.sep id k h hk⟩) (fun _ _ _ _ => rfl) (I.s.nodup id) (fun k hk => ⟨I.s.ltF id k hk, fun i hi h => hi (I.s.once i id k h hk)⟩) hg (fun _ _ => rfl) (force_rep hall hob)
          rw [hF] at hinv
          exact ⟨hinv, fun t => RepV.goes (fun b hb => ⟨hb, rfl⟩) hg (I.t t), I.defers, I.size, I.io, I.fr⟩
        · cases h
      · cases h
    · rename_i v e xs _ hs
      split at h
      · rename_i hcond
        obtain ⟨rfl, he⟩ := hcond
        obtain ⟨h1, h2, _⟩ := freeze_ok I.s he hs _ rfl
        refine ⟨_, h, _, hd, _, h1, fun t => RepV.goes (fun b hb => ⟨.inl hb, rfl⟩) h2 (I.t t), I.defers, I.size, I.io, ?_⟩
        refine I.fr.move (W := []) (Moves.refl w) (by simp) (fun k hk => .inl hk) (fun k hk => ?_) (fun i k hk => ?_)
        · rcases hk with hk | hk
          · exact .inl hk
          · exact .inr (.inl ⟨_, hk⟩)
        · by_cases hi : i = id
          · simp [hi] at hk
          · simp only [hi, if_false] at hk
            exact .inl ⟨i, hk⟩
      · cases h
    · cases h
  · cases h

theorem filter_eraseIdx {α β : Type} [DecidableEq β] (f : α → β) : ∀ (l : List α) (i : Nat) (h : i < l.length), (l.map f).Nodup → l.filter (fun x => !decide (f x = f l[i])) = l.eraseIdx i
  | a :: l, 0, _, hn => by
    simp only [List.map_cons, List.nodup_cons] at hn
    simp only [List.getElem_cons_zero, List.eraseIdx_cons_zero, List.filter_cons, decide_true, Bool.not_true, Bool.false_eq_true, if_false]
    refine List.filter_eq_self.2 fun x hx => ?_
    simp only [Bool.not_eq_true', decide_eq_false_iff_not]
    exact fun e => hn.1 (by rw [← e]; exact List.mem_map.2 ⟨x, hx, rfl⟩)
  | a :: l, i + 1, h, hn => by
    simp only [List.map_cons, List.nodup_cons] at hn
    simp only [List.length_cons] at h
    have h' : i < l.length := by omega
    simp only [List.getElem_cons_succ, List.eraseIdx_cons_succ, List.filter_cons]
    have hne : ¬ f a = f l[i] := fun e => hn.1 (by rw [e]; exact List.mem_map.2 ⟨l[i], List.getElem_mem h', rfl⟩)
    simp only [hne, decide_false, Bool.not_false, if_true]
    rw [filter_eraseIdx f l i h' hn.2]

section
variable {E : Env} {O : Oracle E} {X : Ctx}

/-- A walk's step: whichever entry comes. -/
theorem next_ok {o : Oper} {t id : Nat} {v : Nat} {τ : Ty} {x : Option (Int × τ.den) × List (Int × τ.den)} {st : St} (ho : o.op = .next (.tmp t) false) (ht : st.t t = .one (.mp id v)) (hs : st.o id = (v, .itero τ x)) (hdst : dstOK X o.dst)
    {a : Act} {w : World} (I : Inv X st a w) {K : Act → World → Prop} {Q : Exit → Act → World → Prop}
    (h0 : x.2 = [] → ∀ a' w', Inv X (st.app o.dst { v := .tup [(false, [.imm .bool false])], s := st.o }) a' w' → K a' w')
    (h1 : ∀ p ∈ x.2, ∀ a' w', Inv X (st.app o.dst { v := .tup [(false, [.imm .bool true]), (false, [.imm (.int .i64) p.1]), (false, [.imm τ p.2])], s := st.o.set id (v, .itero τ (some p, leave x.2 p.1)), w := [id] }) a' w' → K a' w') :
    o.wp E.P a w K Q := by
  obtain ⟨N, hd, F, I⟩ := I
  have hx := I.t t; rw [ht] at hx
  have hob := I.s.obj id; rw [hs] at hob
  have e0 : a.tmps.getD t undef = hd id := hx.2.2 (by rw [hs]) (by rw [hs]; rfl)
  obtain ⟨g, r', es, clock, since, seen, c0, ys, e1, e2, e3, e4, e5, e6, e7, e8, e9, e10, e11⟩ := hob
  have e1' : hd id = .pointer (some ⟨r', 0, none⟩) := by simpa using e1
  rw [e1'] at e0
  have e0' : a.eval (.tmp t) = .pointer (some ⟨r', 0, none⟩) := e0
  have hr : w.heap[r']? = some (.mapIter (some g) since seen c0) := e3
  have hg : w.heap[g]? = some (.map es clock) := e5
  rcases run_next_at (P := E.P) w o.type r' g since c0 seen es clock hr hg e6.1 e6.2.1 with ⟨hz, hrun⟩ | ⟨e, he, w1, hw1, hrun⟩
  · have hys : ys = [] := List.length_eq_zero_iff.1 (by rw [← e7]; simpa using hz)
    have hx2 : x.2 = [] := by
      have := e10.length_eq; rw [hys] at this
      exact List.length_eq_zero_iff.1 this.symm
    refine wp_value (u := .tuple #[.bool false]) (w' := w) (by simp [execOp, ho, e0', hrun]) (h0 hx2 _ _ ?_)
    exact I.val hdst ⟨[.bool false], rfl, ⟨rfl, rfl⟩, trivial⟩
  · obtain ⟨i, hi, hie⟩ := List.getElem_of_mem he
    have hiy : i < ys.length := by omega
    obtain ⟨hk, hv⟩ := e8 i hiy hi
    rw [hie] at hk hv
    have hp : ys[i] ∈ x.2 := e10.mem_iff.1 (List.getElem_mem hiy)
    have hl1 := mem_left he
    have hrg : r' ≠ g := fun e => by rw [e, hg] at hr; cases hr
    have hr1 : w1.heap[r']? = some (.mapIter (some g) since seen c0) := by rcases hw1 with rfl | rfl <;> exact hr
    let ob := Go.Obj.mapIter (some g) since (seen.push e.born) clock
    let w2 := Go.ChangeMaps.setBlock w1 r' ob
    have hw2 : memOf w2 r' = some ob := by
      simp only [memOf, w2, Go.ChangeMaps.setBlock]
      have : r' < w1.heap.size := (Array.getElem?_eq_some_iff.1 hr1).1
      simp [this]
    have hother : ∀ k, k ≠ r' → memOf w2 k = memOf w k := fun k hk => by
      have : memOf w1 k = memOf w k := by rcases hw1 with rfl | rfl <;> rfl
      rw [← this]
      simp only [memOf, w2, Go.ChangeMaps.setBlock]
      simp [Ne.symm hk]
    have hsz : w2.heap.size = w.heap.size := by
      have : w1.heap.size = w.heap.size := by rcases hw1 with rfl | rfl <;> rfl
      rw [← this]; simp [w2, Go.ChangeMaps.setBlock]
    have hmv : Moves w w2 [r'] := by
      refine ⟨?_, ?_, ?_, by rw [hsz]; exact Nat.le_refl _, fun k _ hk => hother k (by simpa using hk)⟩ <;> rcases hw1 with rfl | rfl <;> rfl
    have hne : ∀ b, N b → b ≠ r' := fun b hb e => by subst e; exact I.s.sep id b (by rw [e2]; simp) hb
    have hN : ∀ b, N b → N b ∧ memOf w2 b = memOf w b := fun b hb => ⟨hb, hother b (hne b hb)⟩
    have hgo : Goes st.o (st.o.set id ((st.o id).1, .itero τ (some ys[i], leave x.2 (ys[i]).1))) hd hd := Goes.set_like id _ (by simp [Obj.isV]) (fun _ => by rw [hs]; rfl)
    have hnl : ((leftOf es seen).toList.map (·.born)).Nodup := by
      refine e6.2.2.1.sublist ?_
      unfold leftOf
      rw [Array.toList_filter]
      exact List.filter_sublist.map _
    have hleft : (leftOf es (seen.push e.born)).toList = (leftOf es seen).toList.eraseIdx i := by
      rw [← filter_eraseIdx (·.born) _ i hi hnl, hie]
      unfold leftOf
      rw [Array.toList_filter, Array.toList_filter, List.filter_filter]
      refine List.filter_congr fun y _ => ?_
      rw [contains_push, Bool.not_or, Bool.and_comm]
      congr 1
    have hyl : ys.filter (fun q => !decide (q.1 = (ys[i]).1)) = ys.eraseIdx i := filter_eraseIdx Prod.fst ys i hiy e9
    have hR : RepT (memOf w2) N (.iter τ) (some ys[i], leave x.2 (ys[i]).1) [hd id] [r'] := by
      refine ⟨g, r', es, clock, since, seen.push e.born, clock, ys.eraseIdx i, e1, rfl, hw2, e4, by rw [hother g (Ne.symm hrg)]; exact hg, ⟨e6.1, e6.2.2.2, e6.2.2.1, e6.2.2.2⟩, ?_, ?_, ?_, ?_, ?_⟩
      · rw [hleft, List.length_eraseIdx, List.length_eraseIdx, e7]
      · intro j hj hj'
        simp only [hleft]
        have hj2 : j < (ys.eraseIdx i).length := hj
        have hj3 : j < ((leftOf es seen).toList.eraseIdx i).length := by rw [← hleft]; exact hj'
        show ((leftOf es seen).toList.eraseIdx i)[j].key = _ ∧ RepT (memOf w2) N τ _ [((leftOf es seen).toList.eraseIdx i)[j].val] []
        simp only [List.getElem_eraseIdx]
        split
        · rename_i hji
          have := e8 j (by omega) (by omega)
          exact ⟨this.1, RepT.mono hN (by simp) this.2⟩
        · rename_i hji
          rw [List.length_eraseIdx_of_lt hiy] at hj2
          have := e8 (j + 1) (by omega) (by omega)
          exact ⟨this.1, RepT.mono hN (by simp) this.2⟩
      · rw [← hyl]
        exact e9.sublist (List.filter_sublist.map _)
      · rw [← hyl]
        exact e10.filter _
      · intro p hp
        obtain rfl := Option.some.inj hp
        exact ⟨e, seen, hl1.1, rfl, rfl, hk, RepT.mono hN (by simp) hv⟩
    have hinv := I.s.upd (m' := memOf w2) (N' := N) (hd' := hd) (size' := w2.heap.size) id ((st.o id).1, .itero τ (some ys[i], leave x.2 (ys[i]).1)) [r'] (by rw [hsz]; exact Nat.le_refl _) hN (fun k hk => ⟨by rw [hsz]; exact I.s.ltN k hk, fun i _ hi => I.s.sep i k hi hk, by simpa using hne k hk⟩)
      (fun j hj k hk => hother k (fun e => hj (I.s.once j id k hk (by rw [e2, e]; simp)))) (by simp) (fun k hk => by
        simp at hk; subst hk
        exact ⟨by rw [hsz]; exact I.s.ltF id k (by rw [e2]; simp), fun j hj h => hj (I.s.once j id k h (by rw [e2]; simp))⟩) hgo (fun _ _ => rfl) hR
    have hF : (fun i => if i = id then [r'] else F i) = F := by
      funext j
      by_cases e : j = id
      · simp [e, e2]
      · simp [e]
    rw [hF, hs] at hinv
    rw [hs] at hgo
    refine wp_value (u := .tuple #[.bool true, e.key, e.val]) (w' := w2) (by simp [execOp, ho, e0', hrun, w2, ob]) (h1 _ hp _ _ ⟨N, hd, F, ?_⟩)
    refine I.put hdst (s' := st.o.set id (v, .itero τ (some ys[i], leave x.2 (ys[i]).1))) ?_ hinv hN hgo (I.fr.move hmv (fun k hk => ?_) (fun _ h => h) (fun _ h => .inl h) (fun j b hb => .inl ⟨j, hb⟩)) ?_
    · funext j
      by_cases e : j = id
      · subst e; simp [St.app, Sto.set_same]
      · simp [St.app, e, Sto.set_ne _ _ e]
    · simp at hk; subst hk
      exact ⟨id, by rw [e2]; simp⟩
    · refine ⟨[.bool true, e.key, e.val], rfl, ⟨rfl, rfl⟩, ?_, ?_, trivial⟩
      · show RepT _ _ _ _ _ _
        exact ⟨by rw [hk], rfl⟩
      · show RepT _ _ _ _ _ _
        exact RepT.mono hN (by simp) hv

theorem pickL_some {α R : Type} {xs : List α} {a : Option R} {f : α → Option R} {r : R} (h : pickL xs a f = some r) : (xs = [] → a = some r) ∧ ∀ p ∈ xs, f p = some r := by
  cases xs with
  | nil => exact ⟨fun _ => h, by simp⟩
  | cons p l =>
    simp only [pickL] at h
    split at h
    · rename_i hc
      exact ⟨by simp, fun q hq => (hc q hq).trans h⟩
    · cases h

theorem pick_ok (hC : CSoundX X E O.C) {R : Type} {r : R} {id : Nat} {all : Array Oper} {draw : Bool} {st : St} {K : St → Option R} (h : evPick E O all X.io X.nt draw all.toList st K = some r) (Q : Exit → Act → World → Prop) (a : Act) (w : World) (I : Inv X st a w)
    (hQ : ∀ st', K st' = some r → ∀ a w, Inv X st' a w → Q .normal a w) : (Code.region id all draw).wp E.P Q a w := by
  unfold evPick at h
  split at h
  · cases h
  · rename_i o rest hall
    split at h
    · rename_i t ho hgd
      split at h
      · rename_i hd
        have hdst : dstOK X o.dst := fun t ht => by
          rw [ht] at hd
          simpa [dstB] using hd
        split at h
        · rename_i id' ver ht
          split at h
          · rename_i v τ x hs
            split at h
            · rename_i hv
              subst hv
              obtain ⟨h0, h1⟩ := pickL_some h
              have fin : ∀ st', evOps E O all X.io X.nt rest st' [] (fun _ st' => K st') = some r → ∀ a w, Inv X st' a w → Go.wpOps E.P all Q (List.range' 1 rest.length) a w := by
                intro st' h a w I
                obtain ⟨es, st2, hrun, _, hk⟩ := evOps_ok hC _ _ _ _ h
                refine hrun.wpOps 1 (fun i hi => ?_) a w I (fun a w I' => hQ st2 hk a w I')
                have : all[1 + i]? = all.toList[1 + i]? := by simp
                rw [this, hall, Nat.add_comm 1 i, List.getElem?_cons_succ]
              refine wp_region ?_
              have hsz : all.size = rest.length + 1 := by rw [← Array.length_toList, hall]; rfl
              rw [List.range_eq_range', hsz, List.range'_succ]
              have h0' : all[0]? = some o := by
                have : all[0]? = all.toList[0]? := by simp
                rw [this, hall]; rfl
              simp only [Go.wpOps, h0']
              have hw : Region.wanted o (yielded all a.tmps) = true := by simp [Region.wanted, hgd]
              rw [if_pos hw]
              exact .inl (next_ok ho ht hs hdst I (fun he a' w' I' => fin _ (h0 he) a' w' I') (fun p hp a' w' I' => fin _ (h1 p hp) a' w' I'))
            · cases h
          · cases h
        · cases h
      · cases h
    · cases h

theorem ev_ok (hC : CSound E O.C) {n : Nat} (hL : LSound E n O.L) (hm : E.P.follows .mixedOrders = true) {f nt : Nat} {res : List ResultVar} {fn : Func} {body : Code} {us : List Value} (hfn : E.P.funcs[rl f]? = some fn) (hbody : fn.body = some body) (hntm : nt = fn.ntmps) (hfit : Fit E f nt res fn us X) :
    ∀ (c : Code) (p : Nat) (R : Type) (K : Ex → St → Option R) (KR : E.Ret f → Option R) (st : St) (r : R), ev E O ⟨f, nt, res⟩ c p R K KR st = some r → ∀ (Q : Exit → Act → World → Prop) a w, Inv X st a w →
      (∀ e st', K e st' = some r → ∀ a w, Inv X st' a w → Q (exOf e) a w) → (∀ y, KR y = some r → ∀ a w, RetAt E f fn us X y a w → Q .ret a w) → c.wp E.P Q a w := by
  intro c
  induction c with
  | skip => intro p R K KR st r h Q a w I hK hR; exact wp_skip (hK .normal st h a w I)
  | region id ops draw =>
    intro p R K KR st r h Q a w I hK hR
    simp only [ev] at h
    rw [← hfit.io, hfit.nt] at h
    split at h
    · exact pick_ok ⟨hC, hfit.tabs⟩ h Q a w I (fun st' h1 a w I' => hK .normal st' h1 a w I')
    · obtain ⟨st', h1, h2⟩ := region_ok (X := X) (id := id) ⟨hC, hfit.tabs⟩ hm h
      exact h2 Q a w I (fun a w I' => hK .normal st' h1 a w I')
  | seq x y ihx ihy =>
    intro p R K KR st r h Q a w I hK hR
    simp only [ev] at h
    split at h
    · rename_i ts τ exits hh
      split at h
      · obtain ⟨v, hv, h⟩ := Option.bind_eq_some_iff.1 h
        cases v with
        | inl x =>
          refine wp_seq (ihx _ _ _ _ st _ hv _ a w I (fun e st' hk a w I' => ?_) (fun y hy a w hr => ?_))
          · cases e with
            | normal =>
              obtain ⟨x', hx', e⟩ := Option.map_eq_some_iff.1 hk
              injection e with e; subst e
              exact ihy _ _ _ _ _ _ h Q a w (cut_okA hx' I') hK hR
            | exit i =>
              obtain ⟨x', _, e⟩ := Option.map_eq_some_iff.1 hk
              cases e
          · obtain ⟨x', _, e⟩ := Option.map_eq_some_iff.1 hy
            cases e
        | inr r' =>
          obtain rfl := Option.some.inj h
          refine wp_seq (ihx _ _ _ _ st _ hv _ a w I (fun e st' hk a w I' => ?_) (fun y hy a w hr => ?_))
          · cases e with
            | normal =>
              obtain ⟨x', _, e⟩ := Option.map_eq_some_iff.1 hk
              cases e
            | exit i =>
              obtain ⟨x', hx', e⟩ := Option.map_eq_some_iff.1 hk
              injection e with e; subst e
              exact hK (.exit i) st' hx' a w I'
          · obtain ⟨x', hx', e⟩ := Option.map_eq_some_iff.1 hy
            injection e with e; subst e
            exact hR y hx' a w hr
      · obtain ⟨v, hv, h⟩ := Option.bind_eq_some_iff.1 h
        refine wp_seq (ihx _ _ _ _ st _ hv _ a w I (fun e st' hk a w I' => ?_) (fun y hy a w hr => ?_))
        · cases e with
          | normal => exact ihy _ _ _ _ _ _ h Q a w (cut_okA hk I') hK hR
          | exit i => cases hk
        · cases hy
    · rename_i t0 _
      refine wp_seq (ihx _ _ _ _ st _ h _ a w I (fun e st' hk a w I' => ?_) (fun y hy a w hr => hR y hy a w hr))
      cases e with
      | normal =>
        obtain ⟨st2, hk2, I2⟩ := force_inv hk I'
        exact ihy _ _ _ _ _ _ hk2 Q a w I2 hK hR
      | exit i => exact hK (.exit i) st' hk a w I'
    · refine wp_seq (ihx _ _ _ _ st _ h _ a w I (fun e st' hk a w I' => ?_) (fun y hy a w hr => hR y hy a w hr))
      cases e with
      | normal => exact ihy _ _ _ _ _ _ hk Q a w I' hK hR
      | exit i => exact hK (.exit i) st' hk a w I'
  | cond c x y ihx ihy =>
    intro p R K KR st r h Q a w I hK hR
    simp only [ev] at h
    split at h
    · rename_i t ht
      have hc : a.eval c = .bool t := by
        obtain ⟨N, hd, F, I⟩ := I
        have := I.eval c
        rw [ht] at this
        exact imm_bool (m := memOf w) (N := N) (s := st.o) (hd := hd) this
      refine wp_cond hc ?_
      split at h
      · rename_i hb
        have hb' : t = true := hb
        rw [if_pos hb']
        exact ihx _ _ _ _ _ _ h Q a w I hK hR
      · rename_i hb
        have hb' : ¬ (t = true) := hb
        rw [if_neg hb']
        exact ihy _ _ _ _ _ _ h Q a w I hK hR
    · cases h
  | block id x ih =>
    intro p R K KR st r h Q a w I hK hR
    simp only [ev] at h
    refine wp_block (ih _ _ _ _ st _ h _ a w I (fun e st' hk a w I' => ?_) (fun y hy a w hr => hR y hy a w hr))
    cases e with
    | normal => exact hK .normal st' hk a w I'
    | exit i =>
      show Exit.inBlock id Q (.exit i) a w
      simp only [Exit.inBlock]
      simp only at hk
      split at hk
      · rename_i hi
        rw [if_pos hi]; exact hK .normal st' hk a w I'
      · rename_i hi
        rw [if_neg hi]; exact hK (.exit i) st' hk a w I'
  | loop x ih =>
    intro p R K KR st r h Q a w I hK hR
    simp only [ev] at h
    split at h
    · rename_i lh _
      split at h
      · cases h
      · rename_i x' hx'
        obtain ⟨v, hv, h⟩ := Option.bind_eq_some_iff.1 h
        refine wp_loop_rounds n (hL f lh x x' v hv fn body res us X hfn hbody (hntm ▸ hfit) Q a w (cut_okA hx' I) (fun y hy a w I' => ?_) (fun y hy a w hr => ?_))
        · subst hy
          exact hK (.exit lh.ex) _ h a w I'
        · subst hy
          exact hR y h a w hr
    · cases h
  | exit id => intro p R K KR st r h Q a w I hK hR; exact wp_exit (hK (.exit id) st h a w I)
  | ret =>
    intro p R K KR st r h Q a w I hK hR
    simp only [ev] at h
    obtain ⟨y, hy, h⟩ := Option.bind_eq_some_iff.1 h
    exact wp_ret (hR y h a w (prRet_ok hy hfit.res hfit.io hfit.ok hfit.len hfit.av I))
  | _ => intro p R K KR st r h; simp only [ev] at h; cases h

/-- What the outside functions are told to do, they do. -/
def ExtSound (E : Env) : Prop :=
  CloneSound E ∧ ∀ (f : Nat) (g : (E.ps f).den → Option (E.Ret f)), E.ext f = some g → ∀ (x : (E.ps f).den) (yz : E.Ret f), g x = some yz → ∀ (w : World) (N : Nat → Prop) (us : List Value) (G : List Nat), RepAs (memOf w) N (E.ps f) x us G → G.Nodup → (∀ k ∈ G, k < w.heap.size ∧ ¬ N k) → (∀ k, N k → k < w.heap.size) → E.tabs w N →
    Calls E.P (rl f) us.toArray w (Post fun v w' => ∃ N' rs G1 G2, Done E f yz.1 yz.2 us G N w v w' N' rs G1 G2)

theorem fnOf_some {f : Nat} {F : Fn E} {c : Code} (h : fnOf E f = some (F, c)) : ∃ fn res, E.P.funcs[rl f]? = some fn ∧ fn.body = some c ∧ fn.results.toList = res ∧ F = ⟨f, fn.ntmps, res⟩ := by
  unfold fnOf at h
  split at h
  · rename_i fn hfn
    split at h
    · rename_i c' hb
      simp only [Option.some.injEq, Prod.mk.injEq] at h
      obtain ⟨rfl, rfl⟩ := h
      exact ⟨fn, _, hfn, hb, rfl, rfl⟩
    · cases h
  · cases h

theorem evFn_ok (hX : ExtSound E) (hC : CSound E O.C) {n : Nat} (hL : LSound E n O.L) (hm : E.P.follows .mixedOrders = true) : CSound E (evFn E O) := by
  refine ⟨hC.1, fun f x yz h w N us G hus hnd hG hN hT => ?_⟩
  unfold evFn at h
  split at h
  · rename_i g hg
    exact hX.2 f g hg x yz h w N us G hus hnd hG hN hT
  · split at h
    · rename_i F c hF
      obtain ⟨fn, res, hfn, hb, hr, rfl⟩ := fnOf_some hF
      split at h
      · rename_i hcond
        obtain ⟨_, hio, hnt⟩ := hcond
        have hnt' : nFs (E.ps f) ≤ fn.ntmps := hnt
        have hlen := hus.length
        have hiol := ioOk_len hio
        let X : Ctx := { w0 := w, N0 := N, F0 := G, nt := fn.ntmps, io := ioTmps (E.io f) 0, av := fun j => us.getD j undef }
        have hfit : Fit E f fn.ntmps res fn us X := ⟨hr, rfl, rfl, hio, by omega, fun _ => rfl, fun w' N' F' hfr p hp => ⟨hfr.up _ (hT p hp).1, by rw [hfr.block _ (hN _ (hT p hp).1) (fun hg => (hG _ hg).2 (hT p hp).1)]; exact (hT p hp).2⟩⟩
        have I := (enter_ok (f := f) hus hnd hG hN (nt := fn.ntmps) (by omega)).resolve_right (fun hn => hn fun j hj => by
          have := (ioTmps_le (E.io f) 0 j hj).2; omega)
        refine calls_of_wp hfn hb (ev_ok (X := X) hC hL hm hfn hb rfl hfit c 1 (E.Ret f) _ _ _ yz h _ _ w I (fun e st' hk a w' I' => ?_) (fun y hy a w' hret => ?_))
        · cases e with
          | normal =>
            obtain ⟨y, hy, hk⟩ := Option.bind_eq_some_iff.1 hk
            have hk' : y = yz := Option.some.inj hk
            subst hk'
            exact prRet_ok hy hfit.res hfit.io hfit.ok hfit.len hfit.av I'
          | exit i => cases hk
        · have hy' : y = yz := Option.some.inj hy
          subst hy'
          exact hret
      · cases h
    · cases h

theorem evLoop_ok (hC : CSound E O.C) {n : Nat} (hL : LSound E n O.L) (hm : E.P.follows .mixedOrders = true) : LSound E (n + 1) (evLoop E O) := by
  intro f h c x v hv fn body res us X hfn hb hfit Q a w I hQ1 hQ2
  unfold evLoop at hv
  split at hv
  · rename_i F c' hF
    obtain ⟨fn', res', hfn', hb', hr', rfl⟩ := fnOf_some hF
    rw [hfn] at hfn'
    obtain rfl := Option.some.inj hfn'
    have hres : res' = res := by have := hfit.res; rw [hr'] at this; exact this
    subst hres
    split at hv
    · rename_i he
      rw [rounds_succ]
      refine ev_ok (X := X) hC hL hm hfn hb rfl hfit c h.key _ _ _ _ v hv _ a w I (fun e st' hk a w' I' => ?_) (fun y hy a w' hret => ?_)
      · cases e with
        | normal =>
          obtain ⟨x', hx', hk⟩ := Option.bind_eq_some_iff.1 hk
          exact hL f h c x' v hk fn body res' us X hfn hb hfit Q a w' (cut_okA hx' I') hQ1 hQ2
        | exit i =>
          simp only at hk
          split at hk
          · rename_i hi
            obtain ⟨y, hy, hk⟩ := Option.bind_eq_some_iff.1 hk
            have hk' := Option.some.inj hk
            subst hi
            exact hQ1 y hk'.symm a w' (cut_okA hy I')
          · cases hk
      · have hy' := Option.some.inj hy
        exact hQ2 y hy'.symm a w' hret
    · cases hv
  · cases hv

/-- Every level is sound. -/
theorem On_ok (hX : ExtSound E) (hm : E.P.follows .mixedOrders = true) : ∀ n, CSound E (On E n).C ∧ LSound E n (On E n).L
  | 0 => ⟨⟨hX.1, fun _ _ _ h => (by cases h)⟩, fun _ _ _ _ _ h => (by cases h)⟩
  | n + 1 => by
    obtain ⟨h1, h2⟩ := On_ok hX hm n
    exact ⟨evFn_ok hX h1 h2 hm, evLoop_ok h1 h2 hm⟩
end

end Go.Proofs.YtndnhbihcnlpaaaDoorSt.Ev

/- The evaluator and a row: what is read of an argument stands for plain data. -/
namespace Go.Proofs.YtndnhbihcnlpaaaDoorSt.Ev
open Go Go.RowKit

/-- Plain data that fit: each number in its kind, each length in reach. -/
def wfT : (τ : Ty) → τ.den → Prop
  | .int k, n => (Lit.int k n).wf = true
  | .str, x => List.length x ≤ maxLen
  | .sl e, xs => List.length xs ≤ maxLen ∧ ∀ x ∈ (xs : List e.den), wfT e x
  | .agg fs, x => wfT fs x
  | .cons a r, x => wfT a x.1 ∧ wfT r x.2
  | _, _ => True

def dtFs (P : Program) (rec : TypeId → Option Ty) : List Field → Nat → Option Ty
  | [], _ => some .nil
  | f :: r, off => match rec f.type, dtFs P rec r (off + P.cellsOf f.type) with
    | some a, some b => if f.offset = off ∧ P.cellsOf f.type = a.sz then some (.cons a b) else none
    | _, _ => none
/-- The type of plain data that a table's row stands for, its places as they lie. -/
def dtP (P : Program) : Nat → TypeId → Option Ty
  | 0, _ => none
  | n + 1, t => match P.underlying t with
    | some .bool => some .bool
    | some (.int k) => some (.int k)
    | some .string => some .str
    | some (.slice e) => match dtP P n e with
      | some τ => if P.cellsOf e = τ.sz ∧ τ.sz ≠ 0 then some (.sl τ) else none
      | none => none
    | some (.struct fs) => match dtFs P (dtP P n) fs.toList 0 with
      | some τs => if P.cellsOf t = τs.sz then some (.agg τs) else none
      | none => none
    | _ => none

section
variable {H : Type} {enc : TypeId × Value → H} {P : Program} {w : World} {spare : Nat → Bool} {held : Bool}

theorem cells_get {base : Nat} {a : Addr} {n : Nat} {cs : List Value} (h : w.cells? base a n = some cs) : cs.length = n ∧ ∀ (i : Nat) (v : Value), cs[i]? = some v → w.cell? (a.add i) = some v := by
  unfold World.cells? at h
  split at h
  · have hl := mapM_some_length h
    have hl' : cs.length = n := by simpa using hl
    refine ⟨hl', fun i v hv => ?_⟩
    have hi : i < n := by
      have := (List.getElem?_eq_some_iff.1 hv).1; omega
    have := mapM_some_get h i i (by simp [hi])
    rw [this, hv]
  · cases h

theorem cell_some {a : Addr} {v : Value} (h : w.cell? a = some v) : a.spot = none ∧ ∃ c T fr, w.heap[a.block]? = some (.cells c T fr) ∧ c[a.off]? = some v := by
  unfold World.cell? at h
  split at h
  · rename_i c T fr hc
    split at h
    · cases h
    · rename_i hs
      exact ⟨by simpa using hs, c, T, fr, hc, h⟩
  · cases h

theorem add_block (a : Addr) (n : Nat) : (a.add n).block = a.block := by unfold Addr.add; split <;> rfl
theorem add_off (a : Addr) (n : Nat) : (a.add n).off = a.off + n := by
  unfold Addr.add; split
  · rename_i h; simp [h]
  · rfl

theorem add_add (a : Addr) (m n : Nat) : (a.add m).add n = a.add (m + n) := by
  unfold Addr.add
  by_cases hm : m = 0
  · subst hm; simp
  · by_cases hn : n = 0
    · subst hn; simp
    · rw [if_neg hm, if_neg hn, if_neg (by omega)]; simp [Nat.add_assoc]

theorem trod_rep : ∀ (n : Nat), (∀ (t : TypeId) (τ : Ty), dtP P n t = some τ → ∀ (fuel : Nat) (cs : List Value) (y : DataW H × List MemPlace), DataW.trod enc P w 0 spare held fuel t cs = some y → ∃ x : τ.den, RepT (memOf w) (fun k => k < w.heap.size) τ x cs [] ∧ wfT τ x) ∧
    (∀ (fs : List Field) (off : Nat) (τs : Ty), dtFs P (dtP P n) fs off = some τs → ∀ (cs : List Value), cs.length = off + τs.sz → (∀ f ∈ fs, ∃ fuel y, DataW.trod enc P w 0 spare held fuel f.type ((cs.drop f.offset).take (P.cellsOf f.type)) = some y) →
      ∃ x : τs.den, RepT (memOf w) (fun k => k < w.heap.size) τs x (cs.drop off) [] ∧ wfT τs x) := by
  intro n
  induction n with
  | zero =>
    refine ⟨fun t τ h => by simp [dtP] at h, fun fs off τs h cs hl hf => ?_⟩
    cases fs with
    | nil =>
      simp [dtFs] at h
      subst h
      exact ⟨(), ⟨List.drop_eq_nil_of_le (by rw [hl]; simp [Ty.sz]), rfl⟩, trivial⟩
    | cons f r => simp [dtFs, dtP] at h
  | succ n ih =>
    have hA : ∀ (t : TypeId) (τ : Ty), dtP P (n + 1) t = some τ → ∀ (fuel : Nat) (cs : List Value) (y : DataW H × List MemPlace), DataW.trod enc P w 0 spare held fuel t cs = some y → ∃ x : τ.den, RepT (memOf w) (fun k => k < w.heap.size) τ x cs [] ∧ wfT τ x := by
      intro t τ h fuel cs y hy
      unfold dtP at h
      split at h
      · rename_i hu
        obtain rfl := Option.some.inj h
        obtain ⟨b, rfl, _⟩ := DataW.trod_bool hu hy
        exact ⟨b, ⟨rfl, rfl⟩, trivial⟩
      · rename_i k hu
        obtain rfl := Option.some.inj h
        obtain ⟨m, rfl, _, hw⟩ := DataW.trod_int hu hy
        exact ⟨m, ⟨rfl, rfl⟩, hw⟩
      · rename_i hu
        obtain rfl := Option.some.inj h
        obtain ⟨s, rfl, _, hs⟩ := DataW.trod_string hu hy
        exact ⟨s.data.toList, ⟨rfl, rfl⟩, by simpa [wfT] using hs⟩
      · rename_i e hu
        split at h
        · rename_i τ' hτ
          split at h
          · rename_i hc
            obtain rfl := Option.some.inj h
            rcases DataW.trod_slice hu hy with ⟨rfl, _⟩ | ⟨a, len, cap, elems, rest, m, _, rfl, _, hb, hlc, hcm, hel, hget, _, _⟩
            · exact ⟨[], ⟨rfl, none, 0, [], rfl, Nat.le_refl _, rfl, fun i h => absurd h (by simp), fun h => absurd rfl h⟩, by simp [wfT]⟩
            · have hone : ∀ i, i < len → ∃ (cs' : List Value) (x : τ'.den), w.cells? 0 (a.add (i * P.cellsOf e)) (P.cellsOf e) = some cs' ∧ RepT (memOf w) (fun k => k < w.heap.size) τ' x cs' [] ∧ wfT τ' x := by
                intro i hi
                have h1 := hget i hi
                rw [List.getElem?_eq_getElem (by omega)] at h1
                obtain ⟨cs', hcs, hy'⟩ := Option.bind_eq_some_iff.1 h1
                obtain ⟨x, hx1, hx2⟩ := ih.1 e τ' hτ m cs' _ hy'
                exact ⟨cs', x, hcs, hx1, hx2⟩
              let pc : Nat → List Value := fun i => if h : i < len then Classical.choose (hone i h) else []
              have hpc : ∀ i (h : i < len), ∃ x : τ'.den, w.cells? 0 (a.add (i * P.cellsOf e)) (P.cellsOf e) = some (pc i) ∧ RepT (memOf w) (fun k => k < w.heap.size) τ' x (pc i) [] ∧ wfT τ' x := by
                intro i h
                have := Classical.choose_spec (hone i h)
                simp only [pc, dif_pos h]
                exact this
              let px : (i : Nat) → (h : i < len) → τ'.den := fun i h => Classical.choose (hpc i h)
              have hpx : ∀ i (h : i < len), w.cells? 0 (a.add (i * P.cellsOf e)) (P.cellsOf e) = some (pc i) ∧ RepT (memOf w) (fun k => k < w.heap.size) τ' (px i h) (pc i) [] ∧ wfT τ' (px i h) := fun i h => Classical.choose_spec (hpc i h)
              have hxl : (List.ofFn fun i : Fin len => px i.1 i.2).length = len := by simp
              have hlen : ∀ x ∈ (List.ofFn fun i : Fin len => pc i.1), x.length = τ'.sz := by
                intro x hx
                obtain ⟨i, rfl⟩ := List.mem_ofFn.1 hx
                exact (hpx i.1 i.2).2.1.len
              refine ⟨List.ofFn fun i : Fin len => px i.1 i.2, ⟨rfl, some a, cap, List.ofFn fun i : Fin len => pc i.1, by rw [hxl], by rw [hxl]; exact hlc, by simp, fun i h h' => ?_, fun hne => ?_⟩, ?_⟩
              · rw [hxl] at h
                simp only [List.getElem_ofFn]
                exact (hpx i h).2.1
              · have h0 : 0 < len := by
                  rcases Nat.eq_zero_or_pos len with h0 | h0
                  · exact absurd (List.eq_nil_of_length_eq_zero (hxl.trans h0)) hne
                  · exact h0
                have hcell : ∀ (j : Nat) (v : Value), (List.ofFn fun i : Fin len => pc i.1).flatten[j]? = some v → w.cell? (a.add j) = some v := by
                  intro j v hv
                  have hfl := flatten_len_of_len _ hlen
                  have hj := (List.getElem?_eq_some_iff.1 hv).1
                  rw [hfl, List.length_ofFn] at hj
                  have hsz : 0 < τ'.sz := Nat.pos_of_ne_zero hc.2
                  have hd : j / τ'.sz < len := by rw [Nat.div_lt_iff_lt_mul hsz]; exact hj
                  have hm : j % τ'.sz < τ'.sz := Nat.mod_lt _ hsz
                  have hjd : j = (j / τ'.sz) * τ'.sz + j % τ'.sz := by have := Nat.div_add_mod j τ'.sz; rw [Nat.mul_comm] at this; omega
                  have hsub : ((List.ofFn fun i : Fin len => pc i.1).flatten.drop ((j / τ'.sz) * τ'.sz))[j % τ'.sz]? = some v := by
                    rw [List.getElem?_drop, ← hjd]; exact hv
                  rw [flatten_drop_of_len _ _ hlen, List.drop_eq_getElem_cons (by simpa using hd), List.flatten_cons, List.getElem?_append_left (by
                    rw [hlen _ (List.getElem_mem _)]; exact hm)] at hsub
                  simp only [List.getElem_ofFn] at hsub
                  have := (cells_get (hpx _ hd).1).2 _ _ hsub
                  rw [hc.1] at this
                  rw [add_add, ← hjd] at this
                  exact this
                have hfirst : ∃ v, (List.ofFn fun i : Fin len => pc i.1).flatten[0]? = some v := by
                  have hfl := flatten_len_of_len _ hlen
                  rw [List.length_ofFn] at hfl
                  have : 0 < (List.ofFn fun i : Fin len => pc i.1).flatten.length := by rw [hfl]; exact Nat.mul_pos h0 (Nat.pos_of_ne_zero hc.2)
                  exact ⟨_, List.getElem?_eq_getElem this⟩
                obtain ⟨v0, hv0⟩ := hfirst
                have h00 := hcell 0 v0 hv0
                have ha0 : a.add 0 = a := by simp [Addr.add]
                rw [ha0] at h00
                obtain ⟨hspot, c, T, fr, hcb, _⟩ := cell_some h00
                have ha : a = ⟨a.block, a.off, none⟩ := by
                  cases a; simp at hspot; simp [hspot]
                refine ⟨a.block, a.off, congrArg some ha, (Array.getElem?_eq_some_iff.1 hcb).1, c, T, fr, hcb, fun j v hv => ?_⟩
                have h1 := hcell j v hv
                obtain ⟨_, c', T', fr', hcb', hv'⟩ := cell_some h1
                rw [add_block, hcb] at hcb'
                injection hcb' with hcb'
                injection hcb' with hc1
                subst hc1
                rw [add_off] at hv'
                exact hv'
              · refine ⟨by rw [hxl]; omega, fun x hx => ?_⟩
                obtain ⟨i, rfl⟩ := List.mem_ofFn.1 hx
                exact (hpx i.1 i.2).2.2
          · cases h
        · cases h
      · rename_i fs hu
        split at h
        · rename_i τs hτ
          split at h
          · rename_i hc
            obtain rfl := Option.some.inj h
            obtain ⟨xs, m, _, _, hl, hxl, hg⟩ := DataW.trod_struct hu hy
            obtain ⟨x, h1, h2⟩ := ih.2 fs.toList 0 τs hτ cs (by rw [hl, hc]; omega) (fun f hf => by
              obtain ⟨i, hi⟩ := List.getElem?_of_mem hf
              have h1 := hg i f (by simpa using hi)
              have hlt : i < xs.length := by
                have := (List.getElem?_eq_some_iff.1 hi).1
                simp at this; omega
              rw [List.getElem?_eq_getElem hlt] at h1
              exact ⟨m, _, h1⟩)
            rw [List.drop_zero] at h1
            exact ⟨x, h1, h2⟩
          · cases h
        · cases h
      · cases h
    refine ⟨hA, fun fs => ?_⟩
    induction fs with
    | nil =>
      intro off τs h cs hl hf
      simp [dtFs] at h
      subst h
      exact ⟨(), ⟨List.drop_eq_nil_of_le (by rw [hl]; simp [Ty.sz]), rfl⟩, trivial⟩
    | cons f r ihr =>
      intro off τs h cs hl hf
      simp only [dtFs] at h
      split at h
      · rename_i a b ha hb
        split at h
        · rename_i hc
          obtain rfl := Option.some.inj h
          obtain ⟨hoff, hsz⟩ := hc
          obtain ⟨fuel, y, hy⟩ := hf f (by simp)
          obtain ⟨x1, k1, k2⟩ := hA f.type a ha fuel _ y hy
          have hl' : cs.length = off + P.cellsOf f.type + b.sz := by rw [hl, hsz]; simp [Ty.sz]; omega
          obtain ⟨x2, k3, k4⟩ := ihr (off + P.cellsOf f.type) b hb cs hl' (fun g hg => hf g (List.mem_cons_of_mem _ hg))
          refine ⟨(x1, x2), ⟨(cs.drop f.offset).take (P.cellsOf f.type), cs.drop (off + P.cellsOf f.type), [], [], ?_, rfl, k1, k3⟩, k2, k4⟩
          rw [hoff, ← List.drop_drop, List.take_append_drop]
        · cases h
      · cases h
end

/-- A call that is handed nothing of its own: what the evaluator says comes back, and the blocks that were there stay. -/
theorem law_calls {E : Env} (hX : ExtSound E) (hm : E.P.follows .mixedOrders = true) {f n : Nat} {x : (E.ps f).den} {yz : E.Ret f} (h : (On E n).C f x = some yz) {w : World} {us : List Value} (hr : RepAs (memOf w) (fun k => k < w.heap.size) (E.ps f) x us []) (hT : E.tabs w (fun k => k < w.heap.size)) :
    Calls E.P (rl f) us.toArray w (fun e w' => Below w.heap.size w w' ∧ ∃ N' rs G1, e = .returned (retOf rs) ∧ RepAs (memOf w') N' (E.rs f) yz.1 rs G1) := by
  refine Calls.mono ((On_ok hX hm n).1.2 f x yz h w (fun k => k < w.heap.size) us [] hr List.nodup_nil (by simp) (fun _ h => h) hT) (fun e w' hp => ?_)
  cases e with
  | returned v =>
    obtain ⟨N', rs, G1, G2, D⟩ := hp
    exact ⟨⟨D.mv.os, D.mv.tape, D.mv.output, D.mv.size, fun k hk => D.mv.block k hk (by simp)⟩, N', rs, G1, by rw [D.val], D.rep⟩
  | _ => exact hp.elim

/-- 'f at x gives yz', at every level from some one on. -/
def Gets (E : Env) (f : Nat) (x : (E.ps f).den) (yz : E.Ret f) : Prop := ∃ N, ∀ n, N ≤ n → (On E n).C f x = some yz
def GetsL (E : Env) (f : Nat) (h : LoopH) (c : Code) (x : h.hτ.den) (v : h.oτ.den ⊕ E.Ret f) : Prop := ∃ N, ∀ n, N ≤ n → (On E n).L f h c x = some v

/-- From the levels below. -/
theorem Gets.step {E : Env} {f : Nat} {x : (E.ps f).den} {yz : E.Ret f} (h : ∃ N, ∀ n, N ≤ n → (Φ E (On E n)).C f x = some yz) : Gets E f x yz := by
  obtain ⟨N, h⟩ := h
  refine ⟨N + 1, fun n hn => ?_⟩
  cases n with
  | zero => omega
  | succ n => exact h n (by omega)
theorem GetsL.step {E : Env} {f : Nat} {h : LoopH} {c : Code} {x : h.hτ.den} {v : h.oτ.den ⊕ E.Ret f} (hh : ∃ N, ∀ n, N ≤ n → (Φ E (On E n)).L f h c x = some v) : GetsL E f h c x v := by
  obtain ⟨N, hh⟩ := hh
  refine ⟨N + 1, fun n hn => ?_⟩
  cases n with
  | zero => omega
  | succ n => exact hh n (by omega)

end Go.Proofs.YtndnhbihcnlpaaaDoorSt.Ev

/- The limit of the evaluator's levels, and: what a function's equation answers at the limit, the limit answers. -/
namespace Go.Proofs.YtndnhbihcnlpaaaDoorSt.Ev
open Go
noncomputable section
variable {E : Env} {R S α β : Type}

theorem Gets.uniq {f : Nat} {x : (E.ps f).den} {y z : E.Ret f} (h : Gets E f x y) (k : Gets E f x z) : y = z := by
  obtain ⟨N, h⟩ := h
  obtain ⟨M, k⟩ := k
  have a := h (max N M) (by omega)
  have b := k (max N M) (by omega)
  rw [a] at b
  exact Option.some.inj b
theorem GetsL.uniq {f : Nat} {h : LoopH} {c : Code} {x : h.hτ.den} {y z : h.oτ.den ⊕ E.Ret f} (p : GetsL E f h c x y) (k : GetsL E f h c x z) : y = z := by
  obtain ⟨N, p⟩ := p
  obtain ⟨M, k⟩ := k
  have a := p (max N M) (by omega)
  have b := k (max N M) (by omega)
  rw [a] at b
  exact Option.some.inj b

open Classical in
/-- What the levels say from some one on. -/
def Lm (E : Env) : Oracle E where
  C f x := if h : ∃ y, Gets E f x y then some h.choose else none
  L f h c x := if p : ∃ y, GetsL E f h c x y then some p.choose else none

theorem Lm_C {f : Nat} {x : (E.ps f).den} {y : E.Ret f} : (Lm E).C f x = some y ↔ Gets E f x y := by
  constructor
  · intro h
    simp only [Lm] at h
    split at h
    · rename_i p
      obtain rfl := Option.some.inj h
      exact p.choose_spec
    · cases h
  · intro h
    have p : ∃ y, Gets E f x y := ⟨y, h⟩
    simp only [Lm, dif_pos p]
    exact congrArg some (p.choose_spec.uniq h)
theorem Lm_L {f : Nat} {h : LoopH} {c : Code} {x : h.hτ.den} {y : h.oτ.den ⊕ E.Ret f} : (Lm E).L f h c x = some y ↔ GetsL E f h c x y := by
  constructor
  · intro k
    simp only [Lm] at k
    split at k
    · rename_i p
      obtain rfl := Option.some.inj k
      exact p.choose_spec
    · cases k
  · intro k
    have p : ∃ y, GetsL E f h c x y := ⟨y, k⟩
    simp only [Lm, dif_pos p]
    exact congrArg some (p.choose_spec.uniq k)

/-- What it answers at the limit, it answers from some level on. -/
def Ct (E : Env) (A : Oracle E → Option R) : Prop := ∀ r, A (Lm E) = some r → ∃ N, ∀ n, N ≤ n → A (On E n) = some r

theorem Ct.const (a : Option R) : Ct E (fun _ => a) := fun _ h => ⟨0, fun _ _ => h⟩
theorem Ct.ite {p : Prop} [Decidable p] {A B : Oracle E → Option R} (a : Ct E A) (b : Ct E B) : Ct E (fun O => if p then A O else B O) := by
  intro r h
  by_cases hp : p
  · simp only [if_pos hp] at h ⊢; exact a r h
  · simp only [if_neg hp] at h ⊢; exact b r h
theorem Ct.bind {A : Oracle E → Option α} {B : α → Oracle E → Option R} (a : Ct E A) (b : ∀ x, Ct E (B x)) : Ct E (fun O => (A O).bind fun x => B x O) := by
  intro r h
  obtain ⟨x, hx, hr⟩ := Option.bind_eq_some_iff.1 h
  obtain ⟨N, hN⟩ := a x hx
  obtain ⟨M, hM⟩ := b x r hr
  exact ⟨max N M, fun n hn => by simp only [hN n (by omega), Option.bind_some]; exact hM n (by omega)⟩
theorem Ct.bindc {a : Option α} {B : α → Oracle E → Option R} (b : ∀ x, Ct E (B x)) : Ct E (fun O => a.bind fun x => B x O) := Ct.bind (Ct.const a) b
theorem Ct.bindS {A : Oracle E → Option (α ⊕ β)} {B : α → Oracle E → Option R} {D : β → Oracle E → Option R} (a : Ct E A) (b : ∀ x, Ct E (B x)) (d : ∀ x, Ct E (D x)) : Ct E (fun O => (A O).bind (Sum.elim (fun x => B x O) (fun x => D x O))) := by
  intro r h
  obtain ⟨x, hx, hr⟩ := Option.bind_eq_some_iff.1 h
  obtain ⟨N, hN⟩ := a x hx
  have hb : ∃ M, ∀ n, M ≤ n → Sum.elim (fun x => B x (On E n)) (fun x => D x (On E n)) x = some r := by
    cases x with
    | inl x => exact b x r hr
    | inr x => exact d x r hr
  obtain ⟨M, hM⟩ := hb
  exact ⟨max N M, fun n hn => by simp only [hN n (by omega), Option.bind_some]; exact hM n (by omega)⟩
theorem Ct.map {A : Oracle E → Option α} {g : α → R} (a : Ct E A) : Ct E (fun O => (A O).map g) := by
  intro r h
  obtain ⟨x, hx, hr⟩ := Option.map_eq_some_iff.1 h
  obtain ⟨N, hN⟩ := a x hx
  exact ⟨N, fun n hn => by simp only [hN n hn, Option.map_some, hr]⟩
/-- A tree's node, or none. -/
def treeK (t : Tree) (K : Int → Int → List Int → List Int → List Tree → Option R) : Option R := match t with
  | .nil => none
  | .mk op v l r kids => K op v l r kids
theorem Ct.tree {t : Tree} {B : Int → Int → List Int → List Int → List Tree → Oracle E → Option R} (h : ∀ op v l r kids, Ct E (B op v l r kids)) : Ct E (fun O => treeK t (fun op v l r kids => B op v l r kids O)) := by
  cases t with
  | nil => exact Ct.const none
  | mk op v l r kids => exact h op v l r kids
theorem Ct.all {xs : List α} {B : α → Oracle E → Option R} {r : R} (b : ∀ x, Ct E (B x)) : (∀ p ∈ xs, B p (Lm E) = some r) → ∃ N, ∀ n, N ≤ n → ∀ p ∈ xs, B p (On E n) = some r := by
  induction xs with
  | nil => exact fun _ => ⟨0, fun _ _ p hp => by simp at hp⟩
  | cons a l ih =>
    intro h
    obtain ⟨N, hN⟩ := ih (fun p hp => h p (List.mem_cons_of_mem _ hp))
    obtain ⟨M, hM⟩ := b a r (h a (List.mem_cons_self ..))
    refine ⟨max N M, fun n hn p hp => ?_⟩
    rcases List.mem_cons.1 hp with rfl | hp
    · exact hM n (by omega)
    · exact hN n (by omega) p hp
theorem pickL_to {xs : List α} {a : Option R} {f : α → Option R} {r : R} (h0 : xs = [] → a = some r) (h1 : ∀ p ∈ xs, f p = some r) : pickL xs a f = some r := by
  cases xs with
  | nil => exact h0 rfl
  | cons p l =>
    have hp := h1 p (List.mem_cons_self ..)
    simp only [pickL]
    rw [if_pos (fun q hq => (h1 q hq).trans hp.symm)]
    exact hp
theorem Ct.pick {xs : List α} {A : Oracle E → Option R} {B : α → Oracle E → Option R} (a : Ct E A) (b : ∀ x, Ct E (B x)) : Ct E (fun O => pickL xs (A O) (fun p => B p O)) := by
  intro r h
  obtain ⟨h0, h1⟩ := pickL_some h
  obtain ⟨N, hN⟩ := Ct.all b h1
  by_cases hx : xs = []
  · obtain ⟨M, hM⟩ := a r (h0 hx)
    exact ⟨max N M, fun n hn => pickL_to (fun _ => hM n (by omega)) (fun p hp => hN n (by omega) p hp)⟩
  · exact ⟨N, fun n hn => pickL_to (fun h => absurd h hx) (fun p hp => hN n hn p hp)⟩
theorem Ct.C (f : Nat) (x : (E.ps f).den) : Ct E (fun O => O.C f x) := fun _ h => Lm_C.1 h
theorem Ct.L (f : Nat) (h : LoopH) (c : Code) (x : h.hτ.den) : Ct E (fun O => O.L f h c x) := fun _ k => Lm_L.1 k

theorem Ct.fixC {f : Nat} {x : (E.ps f).den} {A : Oracle E → Option (E.Ret f)} (k : Ct E A) (h : ∀ O, (Φ E O).C f x = A O) {r : E.Ret f} (hr : A (Lm E) = some r) : (Lm E).C f x = some r :=
  Lm_C.2 (Gets.step ((k r hr).imp fun _ hN n hn => (h _).trans (hN n hn)))
theorem Ct.fixL {f : Nat} {h : LoopH} {c : Code} {x : h.hτ.den} {A : Oracle E → Option (h.oτ.den ⊕ E.Ret f)} (k : Ct E A) (e : ∀ O, (Φ E O).L f h c x = A O) {r : h.oτ.den ⊕ E.Ret f} (hr : A (Lm E) = some r) : (Lm E).L f h c x = some r :=
  Lm_L.2 (GetsL.step ((k r hr).imp fun _ hN n hn => (e _).trans (hN n hn)))

end
end Go.Proofs.YtndnhbihcnlpaaaDoorSt.Ev

/- The evaluator and a row: an argument is opened; a law that answers true is run. -/
namespace Go.Proofs.YtndnhbihcnlpaaaDoorSt.Ev
open Go Go.RowKit

section
variable {H : Type} {enc : TypeId × Value → H} {P : Program} {w : World} {spare : Nat → Bool} {held : Bool}

theorem open_arg {n : Nat} {t : TypeId} {τ : Ty} (hd : dtP P n t = some τ) {base : Nat} {v : Value} {d : DataW H} {ps : List MemPlace} (hv : Value.okWide P w .any base t v) (h : DataW.Trod enc P w 0 spare held t v d ps) :
    ∃ x : τ.den, RepA (memOf w) (fun k => k < w.heap.size) τ x v [] ∧ wfT τ x := by
  obtain ⟨fuel, h⟩ := h
  obtain ⟨x, h1, h2⟩ := (trod_rep n).1 t τ hd fuel _ _ h
  refine ⟨x, ?_, h2⟩
  cases n with
  | zero => simp [dtP] at hd
  | succ n =>
    have one : (∀ fs, P.underlying t ≠ some (.struct fs)) → (∀ n e, P.underlying t ≠ some (.array n e)) → (∀ cs, v ≠ .agg cs) → v.cells.toList = [v] := by
      intro _ _ hc
      cases v <;> first | rfl | exact absurd rfl (hc _)
    unfold dtP at hd
    split at hd
    · rename_i hu
      obtain rfl := Option.some.inj hd
      obtain ⟨b, hb, _⟩ := DataW.trod_bool hu h
      have : v = .bool b := by
        cases v with
        | agg cs => simp [Value.okWide, Cell.okWide, Cell.ok, hu] at hv
        | _ => simp [Value.cells] at hb <;> simp_all
      subst this
      exact h1
    · rename_i k hu
      obtain rfl := Option.some.inj hd
      have : ∀ cs, v ≠ .agg cs := by
        rintro cs rfl
        simp [Value.okWide, Cell.okWide, Cell.ok, hu] at hv
      rw [one (by rw [hu]; simp) (by rw [hu]; simp) this] at h1
      exact h1
    · rename_i hu
      obtain rfl := Option.some.inj hd
      have : ∀ cs, v ≠ .agg cs := by
        rintro cs rfl
        simp [Value.okWide, Cell.okWide, Cell.ok, hu] at hv
      rw [one (by rw [hu]; simp) (by rw [hu]; simp) this] at h1
      exact h1
    · rename_i e hu
      split at hd
      · split at hd
        · obtain rfl := Option.some.inj hd
          have : ∀ cs, v ≠ .agg cs := by
            rintro cs rfl
            simp [Value.okWide, Cell.okWide, Cell.ok, hu] at hv
          rw [one (by rw [hu]; simp) (by rw [hu]; simp) this] at h1
          exact h1
        · cases hd
      · cases hd
    · rename_i fs hu
      split at hd
      · split at hd
        · obtain rfl := Option.some.inj hd
          simp only [Value.okWide, hu] at hv
          obtain ⟨cs, rfl, _⟩ := hv
          exact ⟨cs.toList, rfl, h1⟩
        · cases hd
      · cases hd
    · cases hd
end

theorem ret_true {m : Mem} {N : Nat → Prop} {rs : List Value} {G : List Nat} (h : RepAs m N (.cons .bool .nil) (true, ()) rs G) : retOf rs = .bool true := by
  match rs, h with
  | [], h => exact h.elim
  | u :: us, ⟨F1, F2, _, h1, h2⟩ =>
    obtain ⟨rfl, _⟩ := h2
    have h1' : RepT m N .bool true [u] F1 := h1
    obtain ⟨h3, _⟩ := h1'
    obtain rfl := (List.cons.inj h3).1
    rfl

/-- A law that answers true at the limit is run: it returns true, and what was there stays. -/
theorem law_runs {E : Env} (hX : ExtSound E) (hm : E.P.follows .mixedOrders = true) {f : Nat} {x : (E.ps f).den} {yz : E.Ret f} (h : (Lm E).C f x = some yz) {w : World} {us : List Value} (hr : RepAs (memOf w) (fun k => k < w.heap.size) (E.ps f) x us []) (hT : E.tabs w (fun k => k < w.heap.size)) :
    Calls E.P (rl f) us.toArray w (fun e w' => Below w.heap.size w w' ∧ ∃ N' rs G1, e = .returned (retOf rs) ∧ RepAs (memOf w') N' (E.rs f) yz.1 rs G1) := by
  obtain ⟨N, hN⟩ := Lm_C.1 h
  exact law_calls hX hm (hN N (Nat.le_refl _)) hr hT

end Go.Proofs.YtndnhbihcnlpaaaDoorSt.Ev

/- What the walk of slices.Clone needs: its append, told. -/
namespace Go.Proofs.YtndnhbihcnlpaaaDoorSt.Ev
open Go Go.RowKit Go.Lib
variable {P : Program}

theorem Els.alloc {w : World} {N : Nat → Prop} {e : Ty} {xs : List e.den} {v : Value} (h : Els (memOf w) N e xs v) (hN : ∀ k, N k → k < w.heap.size) (o : Go.Obj) : Els (memOf (w.alloc o)) N e xs v := by
  obtain ⟨a, cap, es, h1, h2, h3, h4, h5⟩ := h
  refine ⟨a, cap, es, h1, h2, h3, fun i hi hi' => RepT.mono (fun b hb => ⟨hb, memOf_alloc_old w o (hN b hb)⟩) (by simp) (h4 i hi hi'), fun hn => ?_⟩
  obtain ⟨b, off, h6, h7⟩ := h5 hn
  refine ⟨b, off, h6, h7.mono (memOf_alloc_old w o ?_)⟩
  obtain ⟨c, T, fr, h8, _⟩ := h7
  exact (Array.getElem?_eq_some_iff.1 (show w.heap[b]? = some _ from h8)).1

theorem wpList_app {ops : Array Oper} {rest : List Oper} {o : Oper} {a : Act} {w : World} {Q : Exit → Act → World → Prop} (hgd : o.guard = none) (s x : Operand) (t : TypeId)
    (ho : o.op = .call { callee := .builtin .append, args := #[s, x], argTypes := #[t, t] }) {vs vx v' : Value} {w' : World} (hs : a.eval s = vs) (hx : a.eval x = vx)
    (hr : (Builtin.append_ #[t, t] o.type #[vs, vx]).run P w = .ok v' w') (h : wpList P ops Q rest (a.put o.dst v') w') : wpList P ops Q (o :: rest) a w := by
  refine wpList_plain hgd fun K hK => ?_
  unfold Oper.wp execOp
  simp only [ho, resolve, invoke, builtin, Sem.run_bind, Sem.run_pure, Result.andThen_ok, List.map_toArray, List.map_cons, List.map_nil, hs, hx, hr]
  exact hK _ _ h

/-- A slice's copy: what the append to a new empty row leaves. -/
theorem clone_app {t te : TypeId} {e : Ty} (himm : e.isImm = true) (ht : P.underlying t = some (.slice te)) (hz : hasZero P te = true) (hb0 : bytesP P te ≠ 0) (hes : e.sz = szP P te)
    {w : World} {N : Nat → Prop} (hN : ∀ k, N k → k < w.heap.size) {xs : List e.den} {v : Value} (hE : Els (memOf w) N e xs v) (hroom : xs.length * bytesP P te ≤ 140737488355328) :
    ∃ v' w', (Builtin.append_ #[t, t] t #[.slice (some ⟨w.heap.size, 0, none⟩) 0 0, v]).run P (w.alloc (.cells #[] te (0, 0))) = .ok v' w' ∧
      ∃ G', Moves w w' [] ∧ RepT (memOf w') N (.own e) xs [v'] G' ∧ (∀ k ∈ G', w.heap.size ≤ k ∧ k < w'.heap.size) ∧ G'.Nodup := by
  obtain ⟨it, z, hi1, hi2, hi3, hi4, hi5⟩ := hasZero_some hz
  have S : SrcOK P (w.alloc (.cells #[] te (0, 0))) N t e xs v := (hE.alloc hN _).src ht
  obtain ⟨v', w', G', W, hrun, hmv, hW, hr, hG', hnd⟩ := append_row (ty := t) himm ht hi1 hi2 hi4 (by rw [hi5]; exact hb0) (by rw [hes, hi3]) (w := w.alloc (.cells #[] te (0, 0))) (N := N) (xs := []) (v := .slice (some ⟨w.heap.size, 0, none⟩) 0 0) (G := []) (.inl ⟨some ⟨w.heap.size, 0, none⟩, rfl, rfl, rfl⟩) (fun k hk => ⟨by have := hN k hk; simp; omega, by simp⟩) S (by rw [hi5]; simpa using hroom)
  refine ⟨v', w', hrun, G', ?_, by simpa using hr, fun k hk => ?_, hnd⟩
  · have : W = [] := List.eq_nil_iff_forall_not_mem.2 fun k hk => by simpa using hW k hk
    subst this
    exact (Moves.alloc w _).trans hmv
  · rcases hG' k hk with h | h
    · simp at h
    · simp at h; omega

/-- A new row of zeros, cut to nothing: room alone. -/
theorem grow_rep {te : TypeId} {e : Ty} (hes : e.sz = szP P te) {z : Value} (hz : z.cells.size = szP P te) {w : World} {N : Nat → Prop} {n : Nat} (hn : n ≤ maxLen) :
    RepT (memOf (w.drew.alloc (.cells (Builtin.zeroCells z.cells n ++ Builtin.zeroCells z.cells (grownCap w n 0 te - n)) te))) N (.own e) [] [.slice (some ⟨w.heap.size, 0, none⟩) 0 (grownCap w n 0 te)] [w.heap.size] := by
  have hge := grownCap_ge w n 0 te
  refine .inr ⟨w.heap.size, grownCap w n 0 te, _, te, [], [], rfl, memOf_alloc_new w.drew _, ?_, by simp, grownCap_le_maxLen w n 0 te hn, rfl, rfl, fun i h => absurd h (by simp), by simp, rfl⟩
  rw [Array.size_append, size_zeroCells, size_zeroCells, hz, hes, ← Nat.add_mul, Nat.add_sub_cancel' hge]

end Go.Proofs.YtndnhbihcnlpaaaDoorSt.Ev

/- A function that answers with a number's text and reads one listed table fits the evaluator; no condition but those that each theorem names. -/
namespace Go.Proofs.YtndnhbihcnlpaaaDoorSt.Ev
open Go Go.Lib

def pow10Cells : Array Value := (Lib.pow10Tab.map fun z => Value.int .u64 z).toArray

theorem tab_of {E : Env} {w : World} {N : Nat → Prop} {g : Nat} (hE : E.tab = [(g, pow10Cells)]) (hg : E.P.globalNamed "internal/strconv.uint64pow10" = some g) (hT : E.tabs w N) : Lib.TabIs E.P w "internal/strconv.uint64pow10" .u64 Lib.pow10Tab := by
  obtain ⟨_, t, f, h⟩ := hT (g, pow10Cells) (by rw [hE]; simp)
  unfold Lib.TabIs World.var?
  rw [hg, Option.bind_some, h]
  rfl

theorem tabs_of {E : Env} {w : World} {g : Nat} (hE : E.tab = [(g, pow10Cells)]) (hg : E.P.globalNamed "internal/strconv.uint64pow10" = some g) (h : Lib.TabIs E.P w "internal/strconv.uint64pow10" .u64 Lib.pow10Tab) : E.tabs w (fun k => k < w.heap.size) := by
  intro p hp
  rw [hE] at hp
  obtain rfl : p = (g, pow10Cells) := by simpa using hp
  unfold Lib.TabIs World.var? at h
  rw [hg, Option.bind_some] at h
  split at h
  · rename_i cs t f hc
    obtain rfl := Option.some.inj h
    exact ⟨(Array.getElem?_eq_some_iff.1 hc).1, t, f, hc⟩
  · cases h

def ItoaOK (P : Program) (f : Nat) : Prop :=
  ∀ (n : Int), -9223372036854775808 ≤ n → n ≤ 9223372036854775807 → ∀ w : World, Lib.TabIs P w "internal/strconv.uint64pow10" .u64 Lib.pow10Tab →
    Calls P f #[.int .i64 n] w fun e w' => e = .returned (.string ⟨(Lib.itoa n).toArray⟩) ∧ ∃ k os, w' = Go.Sort.grow (w.drewN k) os

/-- What such a call leaves. -/
theorem itoa_calls {P : Program} {f : Nat} (h : ItoaOK P f) {w : World} {N : Nat → Prop} {n : Int} {us : List Value} {G : List Nat} (h0 : -9223372036854775808 ≤ n) (h1 : n ≤ 9223372036854775807) (hr : RepAs (memOf w) N (.cons (.int .i64) .nil) (n, ()) us G)
    (hN : ∀ k, N k → k < w.heap.size) (htab : Lib.TabIs P w "internal/strconv.uint64pow10" .u64 Lib.pow10Tab) :
    Calls P f us.toArray w (Post fun v w' => G = [] ∧ Moves w w' [] ∧ (∀ k, N k → k < w'.heap.size) ∧ v = .string ⟨(Lib.itoa n).toArray⟩ ∧ RepAs (memOf w') N (.cons .str .nil) (Lib.itoa n, ()) [v] [] ∧ ∃ u, us = [u]) := by
  match us, hr with
  | [], hr => exact hr.elim
  | u :: us', ⟨F1, F2, e, g1, g2⟩ =>
    obtain ⟨rfl, rfl⟩ := g2
    have g1' : RepT (memOf w) N (.int .i64) n [u] F1 := g1
    obtain ⟨g3, rfl⟩ := g1'
    obtain rfl := (List.cons.inj g3).1
    subst e
    refine Calls.mono (h n h0 h1 w htab) (fun e w' hp => ?_)
    obtain ⟨rfl, k, os, rfl⟩ := hp
    have hs : w.heap.size ≤ (Go.Sort.grow (w.drewN k) os).heap.size := Lib.size_grow w k os
    have hmv : Moves w (Go.Sort.grow (w.drewN k) os) [] := by
      have hb := Lib.below_grow w.heap.size w (Nat.le_refl _) k os
      exact ⟨hb.os, hb.tape, hb.output, hb.size, fun j hj _ => hb.block j hj⟩
    refine ⟨rfl, hmv, fun k' hk => Nat.lt_of_lt_of_le (hN k' hk) hs, rfl, ⟨[], [], rfl, ?_, rfl, rfl⟩, _, rfl⟩
    show RepT (memOf (Go.Sort.grow (w.drewN k) os)) N .str (Lib.itoa n) [_] []
    exact ⟨rfl, rfl⟩

end Go.Proofs.YtndnhbihcnlpaaaDoorSt.Ev

/- A clause with other terms, whose rows are handed over: what is known of it with rows of which nothing is told is enough. -/
namespace Go.Proofs.YtndnhbihcnlpaaaDoorSt.Ev
open Go

abbrev tyI : Ty := .int .i64
abbrev tyLs : Ty := .agg (.cons .bool (.cons (.sl tyI) (.cons (.sl tyI) .nil)))
abbrev tyLo : Ty := .agg (.cons .bool (.cons (.own tyI) (.cons (.own tyI) .nil)))
abbrev tyLq : Ty := .agg (.cons .bool (.cons .opq (.cons .opq .nil)))
abbrev CL := Bool × List Int × List Int × Unit

/-- Signs and sides, literal by literal. -/
def wtZ {α : Type} : List CL → List α → List (Bool × α × α × Unit)
  | x :: c, a :: b :: r => (x.1, a, b, ()) :: wtZ c r
  | _, _ => []
theorem wtZ_len {α : Type} : ∀ (c : List CL) (xs : List α), 2 * c.length ≤ xs.length → (wtZ c xs).length = c.length
  | [], _, _ => by simp [wtZ]
  | x :: c, [], h => by simp at h
  | x :: c, [a], h => by simp at h; omega
  | x :: c, a :: b :: r, h => by
    simp only [wtZ, List.length_cons]
    rw [wtZ_len c r (by simp at h; omega)]
theorem wtZ_get {α : Type} : ∀ (c : List CL) (xs : List α) (j : Nat) (hj : j < c.length) (h : 2 * c.length ≤ xs.length) (h1 : j < (wtZ c xs).length) (h2 : 2 * j < xs.length) (h3 : 2 * j + 1 < xs.length), (wtZ c xs)[j] = ((c[j]).1, xs[2 * j], xs[2 * j + 1], ())
  | [], _, j, hj, _, _, _, _ => by simp at hj
  | x :: c, [], _, _, h, _, _, _ => by simp at h
  | x :: c, [a], _, _, h, _, _, _ => by simp at h; omega
  | x :: c, a :: b :: r, 0, _, _, _, _, _ => rfl
  | x :: c, a :: b :: r, j + 1, hj, h, h1, h2, h3 => by
    simp only [List.length_cons] at hj h h2 h3
    have ih := wtZ_get c r j (by omega) (by omega) (by simpa [wtZ] using h1) (by omega) (by omega)
    simp only [wtZ, List.getElem_cons_succ, ih]
    rfl
/-- What the literals own. -/
def wtF : Nat → List (List Nat) → List (List Nat)
  | n + 1, a :: b :: r => (a ++ b) :: wtF n r
  | _, _ => []
theorem wtF_len : ∀ (n : Nat) (Fs : List (List Nat)), 2 * n ≤ Fs.length → (wtF n Fs).length = n
  | 0, _, _ => by simp [wtF]
  | n + 1, [], h => by simp at h
  | n + 1, [a], h => by simp at h; omega
  | n + 1, a :: b :: r, h => by simp only [wtF, List.length_cons]; rw [wtF_len n r (by simp at h; omega)]
theorem wtF_get : ∀ (n : Nat) (Fs : List (List Nat)) (j : Nat) (_hj : j < n) (_h : 2 * n ≤ Fs.length) (h1 : j < (wtF n Fs).length) (h2 : 2 * j < Fs.length) (h3 : 2 * j + 1 < Fs.length), (wtF n Fs)[j] = Fs[2 * j] ++ Fs[2 * j + 1]
  | 0, _, j, hj, _, _, _, _ => by omega
  | n + 1, [], _, _, h, _, _, _ => by simp at h
  | n + 1, [a], _, _, h, _, _, _ => by simp at h; omega
  | n + 1, a :: b :: r, 0, _, _, _, _, _ => rfl
  | n + 1, a :: b :: r, j + 1, hj, h, h1, h2, h3 => by
    simp only [List.length_cons] at h h2 h3
    have ih := wtF_get n r j (by omega) (by omega) (by simpa [wtF] using h1) (by omega) (by omega)
    simp only [wtF, List.getElem_cons_succ, ih]
    rfl
theorem wtF_sub : ∀ (n : Nat) (Fs : List (List Nat)), (wtF n Fs).flatten.Sublist Fs.flatten
  | 0, _ => by simp [wtF]
  | n + 1, [] => by simp [wtF]
  | n + 1, [a] => by simp [wtF]
  | n + 1, a :: b :: r => by
    simp only [wtF, List.flatten_cons, List.append_assoc]
    exact (List.Sublist.refl a).append ((List.Sublist.refl b).append (wtF_sub n r))

theorem lit_rep {m : Mem} {N : Nat → Prop} {p : Bool} {v1 v2 : Value} {cs : List Value} {F : List Nat} (h : RepT m N tyLq (p, v1, v2, ()) cs F) {m' : Mem} {N' : Nat → Prop} {x1 x2 : List Int} {F1 F2 : List Nat} (h1 : RepT m' N' (.own tyI) x1 [v1] F1) (h2 : RepT m' N' (.own tyI) x2 [v2] F2) :
    F = [] ∧ RepT m' N' tyLo (p, x1, x2, ()) cs (F1 ++ F2) := by
  obtain ⟨c1, c2, G1, G2, e1, e2, ⟨hc, hG⟩, ⟨c3, c4, G3, G4, e3, e4, ⟨g3, k3, _⟩, ⟨c5, c6, G5, G6, e5, e6, ⟨g5, k5, _⟩, ⟨hc6, g6⟩⟩⟩⟩ := h
  subst e2; subst e4; subst e6; subst hG; subst g3; subst g5; subst g6
  subst e1; subst e3; subst e5; subst hc; subst hc6
  refine ⟨rfl, [.bool p], [v1, v2], [], F1 ++ F2, ?_, rfl, ⟨rfl, rfl⟩, [v1], [v2], F1, F2, rfl, rfl, h1, [v2], [], F2, [], rfl, by simp, h2, rfl, rfl⟩
  have k3' : c3 = [v1] := k3
  have k5' : c5 = [v2] := k5
  rw [k3', k5']; rfl

/-- What the function leaves where nothing is told of the rows. -/
def QCalls (P : Program) (f : Nat) : Prop :=
  ∀ (c : List CL) (vs : List Value) (w : World) (N : Nat → Prop) (us : List Value), c.length ≤ 1000000 → 2 * c.length ≤ vs.length → RepAs (memOf w) N (.cons (.sl tyLs) (.cons (.sl .opq) .nil)) (c, vs, ()) us [] → (∀ k, N k → k < w.heap.size) →
    Calls P f us.toArray w (Post fun v w' => ∃ N' rs G1, Moves w w' [] ∧ (∀ k, N k → N' k) ∧ (∀ k, N' k → N k ∨ w.heap.size ≤ k) ∧ (∀ k, N' k → k < w'.heap.size) ∧ v = retOf rs ∧
      RepAs (memOf w') N' (.cons (.own tyLq) .nil) (wtZ c vs, ()) rs G1 ∧ G1.Nodup ∧ ∀ k ∈ G1, k < w'.heap.size ∧ ¬ N' k ∧ w.heap.size ≤ k)

theorem wt_calls {P : Program} {f : Nat} (hq : QCalls P f) (c : List CL) (xs : List (List Int)) (hc : c.length ≤ 1000000) (hl : 2 * c.length ≤ xs.length) (w : World) (N : Nat → Prop) (us : List Value) (G : List Nat)
    (hr : RepAs (memOf w) N (.cons (.sl tyLs) (.cons (.own (.own tyI)) .nil)) (c, xs, ()) us G) (hnd : G.Nodup) (hG : ∀ k ∈ G, k < w.heap.size ∧ ¬ N k) (hN : ∀ k, N k → k < w.heap.size) :
    Calls P f us.toArray w (Post fun v w' => ∃ N' rs G1, Moves w w' G ∧ (∀ k, N k → N' k) ∧ (∀ k, N' k → N k ∨ k ∈ G ∨ w.heap.size ≤ k) ∧ (∀ k, N' k → k < w'.heap.size) ∧ v = retOf rs ∧
      RepAs (memOf w') N' (.cons (.own tyLo) .nil) (wtZ c xs, ()) rs G1 ∧ G1.Nodup ∧ ∀ k ∈ G1, k < w'.heap.size ∧ ¬ N' k ∧ (k ∈ G ∨ w.heap.size ≤ k)) := by
  match us, hr with
  | [u1, u2], ⟨F1, F2, e1, h1, F3, F4, e2, h2, h3, h4⟩ =>
    subst e1; subst e2; subst h4
    have h1' : RepT (memOf w) N (.sl tyLs) c [u1] F1 := by simpa [RepA, Ty.isAgg] using h1
    have h2' : RepT (memOf w) N (.own (.own tyI)) xs [u2] F3 := by simpa [RepA, Ty.isAgg] using h2
    obtain rfl : F1 = [] := RepT.imm (τ := .sl tyLs) rfl h1'
    simp only [List.nil_append, List.append_nil] at hnd hG ⊢
    -- the rows as values, and what each owns
    obtain ⟨N0, vs, Fs, hvl, hfl, hrow, hsl, hN0, hN0u, hN0F, hFs⟩ : ∃ (N0 : Nat → Prop) (vs : List Value) (Fs : List (List Nat)), vs.length = xs.length ∧ Fs.length = xs.length ∧
        (∀ (i : Nat) (hi : i < xs.length) (h' : i < vs.length) (h'' : i < Fs.length), RepT (memOf w) N (.own tyI) xs[i] [vs[i]] Fs[i]) ∧ RepT (memOf w) N0 (.sl .opq) vs [u2] [] ∧ (∀ k, N k → N0 k) ∧ (∀ k, N0 k → N k ∨ k ∈ F3) ∧ (∀ k ∈ Fs.flatten, ¬ N0 k) ∧ Fs.flatten.Sublist F3 := by
      rcases h2' with ⟨a, k1, k2, k3⟩ | ⟨g, cap, cc, T, es, Fs, k1, k2, k3, k4, k5, k6, k7, k8, k9, k10⟩
      · refine ⟨N, [], [], by rw [k2]; rfl, by rw [k2]; rfl, fun i hi h' => absurd h' (by simp), ⟨rfl, a, 0, [], by simpa using k1, Nat.le_refl _, rfl, fun i h => absurd h (by simp), fun h => absurd rfl h⟩, fun _ h => h, fun _ h => .inl h, by simp, by simp⟩
      · have hone : ∀ (i : Nat) (hi : i < es.length), ∃ v, es[i] = [v] := by
          intro i hi
          have := (k8 i (by omega) hi (by omega)).len
          match h : es[i], this with
          | [v], _ => exact ⟨v, rfl⟩
        let vs : List Value := es.map fun e => e.headD undef
        have hv : ∀ (i : Nat) (hi : i < es.length) (h' : i < vs.length), es[i] = [vs[i]] := by
          intro i hi h'
          obtain ⟨v, e⟩ := hone i hi
          simp only [vs, List.getElem_map, e, List.headD_cons]
        have hvl : vs.length = xs.length := by simp only [vs, List.length_map]; exact k6
        subst k10
        have hn := List.nodup_cons.1 hnd
        refine ⟨fun k => N k ∨ k = g, vs, Fs, hvl, k7, fun i hi h' h'' => ?_, ⟨rfl, some ⟨g, 0, none⟩, cap, vs.map fun v => [v], by rw [hvl]; simpa using k1, by rw [hvl]; exact k4, by simp, fun i hi hi' => ?_, fun _ => ⟨g, 0, rfl, .inr rfl, cc, T, (0, 0), k2, fun j v hj => ?_⟩⟩, fun _ h => .inl h, fun k h => h.imp id (fun e => by rw [e]; exact List.mem_cons_self ..), fun k hk h => ?_, List.sublist_cons_self _ _⟩
        · have := k8 i hi (by omega) h''
          rwa [hv i (by omega) h'] at this
        · have h1 := k8 i (by omega) (by omega) (by omega)
          have h2 := RepT.one' h1 vs[i] (by rw [hv i (by omega) hi]; simp)
          exact ⟨rfl, by simp, h2⟩
        · have hfe : (vs.map fun v => [v]).flatten = es.flatten := by
            congr 1
            apply List.ext_getElem (by simp [vs])
            intro i h1 h2
            rw [hv i h2 (by simp [vs]; exact h2)]
            simp
          rw [hfe] at hj
          rw [← k9, List.getElem?_take] at hj
          split at hj
          · simpa using hj
          · cases hj
        · rcases h with h | h
          · exact (hG k (List.mem_cons_of_mem _ hk)).2 h
          · subst h; exact hn.1 hk
    have h1q : RepT (memOf w) N0 (.sl tyLs) c [u1] [] := RepT.mono (fun b hb => ⟨hN0 b hb, rfl⟩) (by simp) h1'
    have hq' := hq c vs w N0 [u1, u2] hc (by omega) ⟨[], [], rfl, by simpa [RepA, Ty.isAgg] using h1q, [], [], rfl, by simpa [RepA, Ty.isAgg] using hsl, ⟨h3, rfl⟩⟩ (fun k hk => by
      rcases hN0u k hk with h | h
      · exact hN k h
      · exact (hG k h).1)
    refine Calls.mono hq' (fun e w' hp => ?_)
    cases e with
    | returned v =>
      obtain ⟨N', rs, G1, hmv, hup, hnew, hlt, hv, hrep, hgn, hgo⟩ := hp
      have hmem : ∀ k, k < w.heap.size → memOf w' k = memOf w k := fun k hk => hmv.block k hk (by simp)
      have hrows : ∀ (i : Nat) (hi : i < xs.length) (h' : i < vs.length) (h'' : i < Fs.length), RepT (memOf w') N' (.own tyI) xs[i] [vs[i]] Fs[i] := fun i hi h' h'' =>
        RepT.mono (fun b hb => ⟨hup b (hN0 b hb), hmem b (hN b hb)⟩) (fun k hk => hmem k (hG k (hFs.subset (List.mem_flatten.2 ⟨_, List.getElem_mem h'', hk⟩))).1) (hrow i hi h' h'')
      match rs, hrep with
      | [r], ⟨Fa, Fb, e1, hra, hrb, hFb⟩ =>
        subst e1; subst hFb
        have hra' : RepT (memOf w') N' (.own tyLq) (wtZ c vs) [r] Fa := by simpa [RepA, Ty.isAgg] using hra
        have hlv := wtZ_len c vs (by omega)
        have hlx := wtZ_len c xs hl
        simp only [List.append_nil] at hgn hgo
        have sub2 : (wtF c.length Fs).flatten.Sublist F3 := (wtF_sub c.length Fs).trans hFs
        have fin : ∃ G1', RepT (memOf w') N' (.own tyLo) (wtZ c xs) [r] G1' ∧ G1'.Nodup ∧ ∀ k ∈ G1', k < w'.heap.size ∧ ¬ N' k ∧ (k ∈ F3 ∨ w.heap.size ≤ k) := by
          rcases hra' with ⟨a, k1, k2, k3⟩ | ⟨g, cap, cc, T, es, Gs, k1, k2, k3, k4, k5, k6, k7, k8, k9, k10⟩
          · have hc0 : c.length = 0 := by rw [← hlv, k2]; rfl
            have hx0 : wtZ c xs = [] := List.length_eq_zero_iff.1 (by omega)
            exact ⟨[], .inl ⟨a, k1, hx0, rfl⟩, List.nodup_nil, by simp⟩
          · have hmemG : ∀ k ∈ (wtF c.length Fs).flatten, k < w'.heap.size ∧ ¬ N' k ∧ (k ∈ F3 ∨ w.heap.size ≤ k) := fun k hk => by
              have hk3 := sub2.subset hk
              have h1 := hG k hk3
              refine ⟨Nat.lt_of_lt_of_le h1.1 hmv.size, fun h => ?_, .inl hk3⟩
              rcases hnew k h with h | h
              · exact hN0F k ((wtF_sub c.length Fs).subset hk) h
              · omega
            have hg := hgo g (by rw [k10]; exact List.mem_cons_self ..)
            refine ⟨g :: (wtF c.length Fs).flatten, .inr ⟨g, cap, cc, T, es, wtF c.length Fs, by rw [hlx, ← hlv]; exact k1, k2, k3, by rw [hlx, ← hlv]; exact k4, k5, by rw [hlx, ← hlv]; exact k6, by rw [wtF_len _ _ (by omega), hlx], fun j hj hj' hj'' => ?_, k9, rfl⟩, List.nodup_cons.2 ⟨fun hk => ?_, hnd.sublist sub2⟩, fun k hk => ?_⟩
            · have hjc : j < c.length := by rw [← hlx]; exact hj
              have hjq : j < (wtZ c vs).length := by omega
              have h8 := k8 j hjq hj' (by omega)
              rw [show (show List tyLq.den from wtZ c vs)[j]'hjq = ((c[j]).1, vs[2 * j], vs[2 * j + 1], ()) from wtZ_get c vs j hjc (by omega) hjq (by omega) (by omega)] at h8
              rw [show (show List tyLo.den from wtZ c xs)[j]'hj = ((c[j]).1, xs[2 * j], xs[2 * j + 1], ()) from wtZ_get c xs j hjc hl hj (by omega) (by omega), wtF_get c.length Fs j hjc (by omega) hj'' (by omega) (by omega)]
              exact (lit_rep h8 (hrows (2 * j) (by omega) (by omega) (by omega)) (hrows (2 * j + 1) (by omega) (by omega) (by omega))).2
            · have := (hG g (sub2.subset hk)).1; have := hg.2.2; omega
            · rcases List.mem_cons.1 hk with rfl | hk
              · exact ⟨hg.1, hg.2.1, .inr hg.2.2⟩
              · exact hmemG k hk
        obtain ⟨G1', f1, f2, f3⟩ := fin
        refine ⟨N', [r], G1', hmv.weaken (by simp), fun k hk => hup k (hN0 k hk), fun k hk => ?_, hlt, hv, ⟨G1', [], by simp, by simpa [RepA, Ty.isAgg] using f1, ⟨hrb, rfl⟩⟩, f2, f3⟩
        rcases hnew k hk with h | h
        · rcases hN0u k h with h | h
          · exact .inl h
          · exact .inr (.inl h)
        · exact .inr (.inr h)
    | _ => exact hp.elim

end Go.Proofs.YtndnhbihcnlpaaaDoorSt.Ev
