/- The evaluator: operations that make objects or write. -/
import Derived.Test.YtofkhmedmeihiaaPnEvJ
import Derived.Laws.CopyRow
import Derived.Laws.OwnMore
namespace Go.Proofs.YtofkhmedmeihiaaPn.Ev
open Go

theorem memOf_alloc_old (w : World) (o : Go.Obj) {k : Nat} (hk : k < w.heap.size) : memOf (w.alloc o) k = memOf w k := heap_alloc_old w o k hk
theorem memOf_alloc_new (w : World) (o : Go.Obj) : memOf (w.alloc o) w.heap.size = some o := heap_alloc_new w o
theorem size_alloc (w : World) (o : Go.Obj) : (w.alloc o).heap.size = w.heap.size + 1 := by simp

/-- The world goes on; what is seen and what is owned stay as they are. -/
theorem SInv.world {m m' : Mem} {N : Nat → Prop} {s : Sto} {hd : Nat → Value} {F : Nat → List Nat} {size size' : Nat} (I : SInv m N s hd F size) (hsz : size ≤ size') (hm : ∀ k, k < size → m' k = m k) : SInv m' N s hd F size' where
  obj := fun i => ObjRep.goes (fun b hb => ⟨hb, hm b (I.ltN b hb)⟩) (Goes.refl s hd) (fun k hk => hm k (I.ltF i k hk)) (I.obj i)
  once := I.once
  nodup := I.nodup
  sep := I.sep
  ltF := fun i k hk => Nat.lt_of_lt_of_le (I.ltF i k hk) hsz
  ltN := fun k hk => Nat.lt_of_lt_of_le (I.ltN k hk) hsz

theorem app_eq {st : St} {e : Eff} {s : Sto} (h1 : ∀ i ∈ e.w, s i = e.s i) (h2 : ∀ i, i ∉ e.w → s i = st.o i) (d : Option Nat) : (st.app d e).o = s := by
  funext i
  show (if e.w.contains i then e.s i else st.o i) = s i
  by_cases h : i ∈ e.w
  · rw [if_pos (by simpa using h), h1 i h]
  · rw [if_neg (by simpa using h), h2 i h]

section
variable {E : Env} {O : Oracle E} {X : Ctx} {o : Oper} {st : St} {R : Type} {K : Eff → Option R} {r : R}

/-- What the run of an operation leaves, told once. -/
structure Left (X : Ctx) (st : St) (e : Eff) (w : World) (N : Nat → Prop) (hd : Nat → Value) (F : Nat → List Nat) (u : Value) (w' : World) (W : List Nat) (s' : Sto) (N' : Nat → Prop) (hd' : Nat → Value) (F' : Nat → List Nat) : Prop where
  sw : ∀ i ∈ e.w, s' i = e.s i
  so : ∀ i, i ∉ e.w → s' i = st.o i
  mv : Moves w w' W
  own : ∀ k ∈ W, ∃ i, k ∈ F i
  inv : SInv (memOf w') N' s' hd' F' w'.heap.size
  up : ∀ k, N k → N' k
  goes : Goes st.o s' hd hd'
  new : ∀ k, N' k → N k ∨ (∃ i, k ∈ F i) ∨ w.heap.size ≤ k
  sub : ∀ i k, k ∈ F' i → (∃ j, k ∈ F j) ∨ w.heap.size ≤ k
  val : RepV (memOf w') N' s' hd' e.v u

theorem Left.inv' {e : Eff} {w : World} {N : Nat → Prop} {hd : Nat → Value} {F : Nat → List Nat} {u : Value} {w' : World} {W : List Nat} {s' : Sto} {N' : Nat → Prop} {hd' : Nat → Value} {F' : Nat → List Nat} {a : Act} {d : Option Nat}
    (I : InvD X st a w N hd F) (hdst : dstOK X d) (L : Left X st e w N hd F u w' W s' N' hd' F') : Inv X (st.app d e) (a.put d u) w' :=
  ⟨N', hd', F', I.put hdst (app_eq L.sw L.so d) L.inv (fun b hb => ⟨L.up b hb, L.mv.block b (I.s.ltN b hb) fun hW => by
    obtain ⟨i, hi⟩ := L.own b hW
    exact I.s.sep i b hi hb⟩) L.goes (I.fr.move L.mv L.own L.up L.new L.sub) L.val⟩

theorem Good.make {e : Eff} (h : ∀ st' : St, (∀ x ∈ o.op.operands, st'.eval x = st.eval x) → (∀ i, i ∈ e.w ∨ i ∈ e.r → st'.o i = st.o i) → ∀ a w N hd F, InvD X st' a w N hd F →
      ∃ u w' W s' N' hd' F', (execOp a.eval o).run E.P w = .ok (.value u) w' ∧ Left X st' e w N hd F u w' W s' N' hd' F') : Good E X o st e := by
  intro st' h1 h2 a w ⟨N, hd, F, I⟩ hdst K Q hK
  obtain ⟨u, w', W, s', N', hd', F', hr, L⟩ := h st' h1 h2 a w N hd F I
  exact wp_value hr (hK _ _ (L.inv' I hdst))

theorem Good.write {e : Eff} (hv : e.v = .undef) (h : ∀ st' : St, (∀ x ∈ o.op.operands, st'.eval x = st.eval x) → (∀ i, i ∈ e.w ∨ i ∈ e.r → st'.o i = st.o i) → ∀ a w N hd F, InvD X st' a w N hd F →
      ∃ w' W s' N' hd' F', (execOp a.eval o).run E.P w = .ok .skip w' ∧ Left X st' e w N hd F undef w' W s' N' hd' F') : Good E X o st e := by
  intro st' h1 h2 a w ⟨N, hd, F, I⟩ hdst K Q hK
  obtain ⟨w', W, s', N', hd', F', hr, L⟩ := h st' h1 h2 a w N hd F I
  exact wp_skip' hr (hK _ _ (L.inv' I hdst))

/-- A block more, and an object for it. -/
theorem left_new {e : Eff} {w : World} {N0 : Nat → Prop} {hd : Nat → Value} {F0 : Nat → List Nat} (I0 : SInv (memOf w) N0 st.o hd F0 w.heap.size)
    {s : Sto} {N : Nat → Prop} {F : Nat → List Nat} (I : SInv (memOf w) N s hd F w.heap.size) (g : Goes st.o s hd hd) (hup : ∀ k, N0 k → N k) (hnew : ∀ k, N k → N0 k ∨ ∃ i, k ∈ F0 i) (hsub : ∀ i k, k ∈ F i → k ∈ F0 i)
    {w1 w' : World} {cells : Array Value} {T : TypeId} (hw1 : Moves w w1 []) (hsz : w1.heap.size = w.heap.size) (hw' : w' = w1.alloc (.cells cells T)) {id : Nat} {ob : Obj} {u : Value} {cc : C} {G : List Nat}
    (hG : G.Nodup) (hGl : ∀ k ∈ G, k < w.heap.size + 1 ∧ ¬ N k ∧ ∀ i, k ∉ F i) (hGo : ∀ k ∈ G, (∃ i, k ∈ F0 i) ∨ w.heap.size ≤ k)
    (hob : ∀ s' hd', Goes s s' hd hd' → hd' id = u → (∀ k, N k → memOf w' k = memOf w k) → ObjRep (memOf w') N s' hd' ob u G)
    (hcc : ∀ hd', hd' id = u → RepC (memOf w') N (s.set id ((s id).1 + 1, ob)) hd' cc u)
    (hev : e.v = .one cc) (hw : ∀ i, i ∈ e.w → (s.set id ((s id).1 + 1, ob)) i = e.s i) (ho : ∀ i, i ∉ e.w → (s.set id ((s id).1 + 1, ob)) i = st.o i) :
    ∃ s' N' hd' F', Left X st e w N0 hd F0 u w' [] s' N' hd' F' := by
  have hsz' : w'.heap.size = w.heap.size + 1 := by rw [hw', size_alloc, hsz]
  have hmem : ∀ k, k < w.heap.size → memOf w' k = memOf w k := by
    intro k hk
    rw [hw', memOf_alloc_old w1 _ (by omega)]
    exact hw1.block k hk (by simp)
  have I1 : SInv (memOf w') N s hd F w'.heap.size := I.world (by omega) hmem
  have hF : Fresh N F w'.heap.size G := ⟨hG, fun k hk => by rw [hsz']; exact (hGl k hk).1, fun k hk => (hGl k hk).2.1, fun k hk => (hGl k hk).2.2⟩
  have k := new_ok I1 id ((s id).1 + 1) ob u G hF (by omega) (fun s' hd' g h => hob s' hd' g h (fun k hk => hmem k (I.ltN k hk)))
  have hmv : Moves w w' [] := by rw [hw']; exact hw1.trans (Moves.alloc w1 _)
  refine ⟨_, N, _, _, hw, ho, hmv, by simp, k.inv, hup, g.trans k.goes, fun k hk => ?_, fun i k' hk => ?_, ?_⟩
  · rcases hnew k hk with h | h
    · exact .inl h
    · exact .inr (.inl h)
  · rcases k.sub i k' hk with h | h
    · exact .inl ⟨i, hsub i k' h⟩
    · exact hGo k' h
  · rw [hev]; exact hcc _ (by simp)

theorem run_zeroValue {P : Program} {t : TypeId} {cs : List C} (h : zeroCs P t = some cs) : ∃ i z, P.info? t = some i ∧ i.zero = some z ∧ constCs z.cells.toList = some cs ∧ ∀ w, (zeroValue t).run P w = .ok z w := by
  unfold zeroCs at h
  split at h
  · rename_i z hz
    obtain ⟨i, hi, hz'⟩ := Option.bind_eq_some_iff.1 hz
    exact ⟨i, z, hi, hz', h, fun w => by simp [zeroValue, typeInfo, hi, hz']⟩
  · cases h

theorem cells_one {v : Value} (h : v.oneCell' = true) : v.cells = #[v] := by cases v <;> first | rfl | (simp [Value.oneCell'] at h)

theorem run_newVar {P : Program} {w : World} (t : TypeId) (v : Value) : (newVar t v).run P w = .ok ⟨w.heap.size, 0, none⟩ (w.alloc (.cells v.cells t)) := by
  simp [newVar, newRow]

/-- A new box. -/
theorem left_box {st' : St} {w : World} {N : Nat → Prop} {hd : Nat → Value} {F : Nat → List Nat} (I : SInv (memOf w) N st'.o hd F w.heap.size) {cs : List C} {vs : List Value} (hcs : RepCs (memOf w) N st'.o hd cs vs) (t : TypeId) {id : Nat} {s0 : Sto} (hid : st'.o id = s0 id) :
    ∃ s' N' hd' F', Left X st' { v := .one (.bp id ((s0 id).1 + 1) 0), s := s0.set id ((s0 id).1 + 1, .box cs), w := [id] } w N hd F (.pointer (some ⟨w.heap.size, 0, none⟩)) (w.alloc (.cells ⟨vs⟩ t)) [] s' N' hd' F' := by
  refine left_new (X := X) (st := st') (w := w) I I (Goes.refl _ _) (fun _ h => h) (fun _ h => .inl h) (fun _ _ h => h) (Moves.refl w) rfl (w' := w.alloc (.cells ⟨vs⟩ t)) rfl
    (id := id) (ob := .box cs) (u := .pointer (some ⟨w.heap.size, 0, none⟩)) (cc := .bp id ((st'.o id).1 + 1) 0) (G := [w.heap.size]) (by simp) ?_ (by simp)
    (fun s' hd' g e hN => ⟨w.heap.size, vs, t, rfl, by rw [memOf_alloc_new], hcs.goes (fun b hb => ⟨hb, hN b hb⟩) g, rfl⟩)
    (fun hd' e => ⟨by simp [Sto.set_same], rfl, fun _ _ => ⟨w.heap.size, e, rfl⟩⟩) (by rw [hid]) ?_ ?_
  · intro k hk
    simp at hk; subst hk
    exact ⟨by omega, fun h => Nat.lt_irrefl _ (I.ltN _ h), fun i h => Nat.lt_irrefl _ (I.ltF i _ h)⟩
  · intro i hi'
    simp at hi'; subst hi'
    show _ = (s0.set _ _) _
    rw [Sto.set_same, Sto.set_same, hid]
  · intro i hi'
    simp at hi'
    exact Sto.set_ne _ _ hi'

/-- A part of a row is taken out. -/
theorem borrow_ok {m : Mem} {N : Nat → Prop} {s : Sto} {hd : Nat → Value} {F : Nat → List Nat} {size : Nat} (I : SInv m N s hd F size) {id v : Nat} {e : Ty} {xs : List e.den} (hs : s id = (v, .vec e xs)) {i off : Nat} {x : e.den} (hx : xs[i]? = some x) {σ : Ty} {ys : List σ.den} (hg : getAt e x off = some ⟨σ, ys⟩) {new nv : Nat} (hne : new ≠ id) (hnv : nv = (s new).1 + 1) :
    ∃ g cap c T v0 hd' F', hd id = .slice (some ⟨g, 0, none⟩) (List.length xs) cap ∧ m g = some (.cells c T (0, 0)) ∧ c.toList[i * e.sz + off]? = some v0 ∧
      SInv m N ((s.set id (v, .hvec e xs i x off new nv)).set new (nv, .vec σ ys)) hd' F' size ∧ Goes s ((s.set id (v, .hvec e xs i x off new nv)).set new (nv, .vec σ ys)) hd hd' ∧ (∀ j k, k ∈ F' j → ∃ j', k ∈ F j') ∧
      RepC m N ((s.set id (v, .hvec e xs i x off new nv)).set new (nv, .vec σ ys)) hd' (.own new nv) v0 := by
  have hob := I.obj id
  rw [hs] at hob
  obtain ⟨g, cap, c, T, v0, Fa, G, Fb, h1, h2, h3, h4, h5, h6⟩ := row_split hob hx hg
  have hv : (s id).1 = v := by rw [hs]
  obtain ⟨o1, o2⟩ := out_ok I id (.ovec e xs) (by rw [hs]; exact fun _ => ⟨rfl, rfl, Nat.le_refl _⟩) (by simp [Obj.isB]) (fun s' => ⟨rfl, RepT.own_len hob⟩)
  rw [hv] at o1 o2
  have hnod := I.nodup id
  rw [h4] at hnod
  have n1 := List.nodup_append.1 hnod
  have n2 := List.nodup_append.1 n1.2.1
  have hGF : ∀ k ∈ G, k ∈ F id := fun k hk => by rw [h4]; exact List.mem_append_right _ (List.mem_append_left _ hk)
  have hFF : ∀ k ∈ Fa ++ Fb, k ∈ F id := fun k hk => by
    rw [h4]
    rcases List.mem_append.1 hk with hk | hk
    · exact List.mem_append_left _ hk
    · exact List.mem_append_right _ (List.mem_append_right _ hk)
  have hfr : Fresh N (fun j => if j = id then [] else F j) size G := ⟨n2.1, fun k hk => I.ltF id k (hGF k hk), fun k hk => I.sep id k (hGF k hk), fun k hk j hj => by
    by_cases ej : j = id
    · simp [ej] at hj
    · simp only [ej, if_false] at hj
      exact ej (I.once j id k hj (hGF k hk))⟩
  have hsn : (s.set id (v, .ovec e xs)) new = s new := Sto.set_ne _ _ hne
  have hone := RepT.one' h5 v0 (by simp)
  have k1 := new_ok o1 new nv (.vec σ ys) v0 G hfr (by rw [hsn]; omega) (fun s' hd' g e => h5)
  have hid1 : ((s.set id (v, .ovec e xs)).set new (nv, .vec σ ys)) id = (v, .ovec e xs) := by rw [Sto.set_ne _ _ (Ne.symm hne), Sto.set_same]
  have hset : ((s.set id (v, .ovec e xs)).set new (nv, .vec σ ys)).set id (v, .hvec e xs i x off new nv) = (s.set id (v, .hvec e xs i x off new nv)).set new (nv, .vec σ ys) := by
    funext j
    by_cases e1 : j = id
    · subst e1; rw [Sto.set_same, Sto.set_ne _ _ (Ne.symm hne), Sto.set_same]
    · rw [Sto.set_ne _ _ e1]
      by_cases e2 : j = new
      · subst e2; rw [Sto.set_same, Sto.set_same]
      · rw [Sto.set_ne _ _ e2, Sto.set_ne _ _ e2, Sto.set_ne _ _ e1, Sto.set_ne _ _ e1]
  have g2 : Goes ((s.set id (v, .ovec e xs)).set new (nv, .vec σ ys)) (((s.set id (v, .ovec e xs)).set new (nv, .vec σ ys)).set id (v, .hvec e xs i x off new nv)) (fun j => if j = new then v0 else hd j) (fun j => if j = new then v0 else hd j) := by
    have := Goes.set_like (s := (s.set id (v, .ovec e xs)).set new (nv, .vec σ ys)) (hd := fun j => if j = new then v0 else hd j) id (.hvec e xs i x off new nv) (fun _ => by rw [hid1]; exact ⟨rfl, rfl, Nat.le_refl _⟩) (by simp [Obj.isB])
    rwa [hid1] at this
  have I2 := k1.inv.upd (N' := N) (m' := m) (hd' := fun j => if j = new then v0 else hd j) id (v, .hvec e xs i x off new nv) (Fa ++ Fb) (Nat.le_refl _) (fun b hb => ⟨hb, rfl⟩) (fun k hk => ⟨k1.inv.ltN k hk, fun j _ hj => k1.inv.sep j k hj hk, fun hF => I.sep id k (hFF k hF) hk⟩)
    (fun _ _ _ _ => rfl) (by
      rw [List.nodup_append]
      exact ⟨n1.1, n2.2.1, fun a ha b hb => n1.2.2 a ha b (List.mem_append_right _ hb)⟩) (fun k hk => ⟨I.ltF id k (hFF k hk), fun j hj hk' => by
      by_cases e2 : j = new
      · simp only [e2, if_true] at hk'
        rcases List.mem_append.1 hk with h | h
        · exact n1.2.2 k h k (List.mem_append_left _ hk') rfl
        · exact n2.2.2 k hk' k h rfl
      · simp only [e2, hj, if_false] at hk'
        exact hj (I.once j id k hk' (hFF k hk))⟩) g2 (fun _ _ => rfl) (by
      refine ⟨v0, Fa, Fb, hx, ⟨?_, hone, fun _ _ => by simp⟩, rfl, ⟨g, cap, by simp only [if_neg (Ne.symm hne)]; exact h1⟩, by simp only [if_neg (Ne.symm hne)]; exact h6⟩
      rw [Sto.set_ne _ _ hne, Sto.set_same]; exact Nat.le_refl _)
  rw [hset] at I2 g2
  refine ⟨g, cap, c, T, v0, _, _, h1, h2, h3, I2, (o2.trans k1.goes).trans g2, fun j k hk => ?_, ?_, hone, fun _ _ => by simp⟩
  · by_cases e1 : j = id
    · simp only [e1, if_true] at hk; exact ⟨id, hFF k hk⟩
    · by_cases e2 : j = new
      · simp only [e2, if_neg hne, if_true] at hk; exact ⟨id, hGF k hk⟩
      · simp only [e1, e2, if_false] at hk; exact ⟨j, hk⟩
  · rw [Sto.set_same]; exact Nat.le_refl _

/-- A load that takes a part out. -/
theorem good_borrow {t : TypeId} {x : Operand} (ho : o.op = .load t x) (hb : E.borrow (o.dst.getD 0) t = true ∧ deepEp (st.eval x) st.o = true) (h : exOp E O o st K = some r) : ∃ e, K e = some r ∧ Good E X o st e := by
  have hx : x ∈ o.op.operands := by rw [ho]; simp [Op.operands]
  simp only [exOp, ho] at h
  rw [if_pos hb] at h
  obtain ⟨c, hc, h⟩ := one_some h
  split at h
  · rename_i id ver i off
    split at h
    · rename_i hif
      obtain ⟨hok, hag, hsz⟩ := hif
      split at h
      · rename_i v e xs hs
        split at h
        · rename_i hv
          subst hv
          unfold borrowK at h
          split at h
          · rename_i y hy
            split at h
            · rename_i σ ys hg
              split at h
              · rename_i hn
                refine ⟨_, h, Good.make fun st' he hi a w N hd F I => ?_⟩
                have hid := hi id (.inl (by simp)); rw [hs] at hid
                have hnew := hi (newId o.dst) (.inl (by simp))
                have hu := I.eval x; rw [he x hx, hc] at hu
                obtain ⟨g', len, cap', e1, e2⟩ := hu.2.2 (by rw [hid]) (by rw [hid]; rfl)
                rw [hid] at e2
                obtain ⟨g, cap, cc, T, v0, hd', F', k1, k2, k3, k4, k5, k6, k7⟩ := borrow_ok I.s hid hy hg hn.1 (nv := (st.o (newId o.dst)).1 + 1) (by rw [hnew])
                rw [k1] at e1
                injection e1 with e1 _ _; injection e1 with e1; injection e1 with e1
                subst e1
                have e2' : a.eval x = .pointer (some ⟨g, i * e.sz + off, none⟩) := e2
                have hcell : cellsIn (memOf w) g (i * e.sz + off) [v0] := ⟨cc, T, (0, 0), k2, fun j u hj => by
                  cases j with
                  | zero => simp at hj; subst hj; simpa using k3
                  | succ j => simp at hj⟩
                obtain ⟨u, hr, hu'⟩ := run_loadVar hcell hok (by rw [hsz]; rfl) (fun _ => hsz)
                rw [hag, hsz] at hu'
                have hu2 : u = v0 := by simpa using hu'.symm
                subst hu2
                refine ⟨u, w, [], _, N, hd', F', by simp [execOp, ho, Instr.loadAt, e2', Instr.sureAddr, hr], ⟨fun j hj => ?_, fun j hj => ?_, Moves.refl w, by simp, k4, fun _ h => h, k5, fun _ h => .inl h, fun j k hk => .inl (k6 j k hk), k7⟩⟩
                · simp only [List.mem_cons, List.not_mem_nil, or_false] at hj
                  show _ = (Sto.set (Sto.set _ _ _) _ _) j
                  by_cases e5 : j = newId o.dst
                  · subst e5; rw [Sto.set_same, Sto.set_same]
                  · rw [Sto.set_ne _ _ e5, Sto.set_ne _ _ e5]
                    rcases hj with h | h
                    · rw [h, Sto.set_same, Sto.set_same]
                    · exact absurd h e5
                · have q1 : j ≠ id := fun h => hj (by simp [h])
                  have q2 : j ≠ newId o.dst := fun h => hj (by simp [h])
                  rw [Sto.set_ne _ _ q2, Sto.set_ne _ _ q1]
              · cases h
            · cases h
          · cases h
        · cases h
      · rename_i v e xs i' y0 off' id' ver' hs
        split at h
        · rename_i hv
          obtain ⟨rfl, hne⟩ := hv
          split at h
          · rename_i zs s1 hf
            unfold borrowK at h
            split at h
            · rename_i y hy
              split at h
              · rename_i σ ys hg
                split at h
                · rename_i hn
                  have hn2 : newId o.dst ≠ id' := by
                    have := hn.2
                    simp at this
                    exact fun h => this (by rw [h])
                  refine ⟨_, h, Good.make fun st' he hi a w N hd F I => ?_⟩
                  have hid := hi id (.inl (by simp)); rw [hs] at hid
                  have hid' := hi id' (.inl (by simp))
                  have hnew := hi (newId o.dst) (.inl (by simp))
                  have hu := I.eval x; rw [he x hx, hc] at hu
                  obtain ⟨g', len, cap', e1, e2⟩ := hu.2.2 (by rw [hid]) (by rw [hid]; rfl)
                  rw [hid] at e2
                  obtain ⟨s2, f1, f2, f3⟩ := fillK_alike hf hid'
                  obtain ⟨⟨Fa, Fb, hF, hrep⟩, hlen, J, g1, hvv, hid2, g0, cap0, hh⟩ := fill_ok I.s hid hne f1
                  -- the row is whole again
                  have hidx : s2 id = (v, .hvec e xs i' y0 off' id' ver') := by rw [hid2, hid]
                  have hFid : (fun j => if j = id' then [] else F j) id = F id := by simp only [if_neg (Ne.symm hne)]
                  have gw : Goes s2 (s2.set id (v, .vec e zs)) hd hd := by
                    have := Goes.set_like (s := s2) (hd := hd) id (.vec e zs) (fun _ => by rw [hidx]; exact ⟨rfl, rfl, by show List.length xs ≤ List.length zs; omega⟩) (by simp [Obj.isB])
                    rwa [hidx] at this
                  have hnd1 := I.s.nodup id
                  rw [hF] at hnd1
                  have n1 := List.nodup_append.1 hnd1
                  have hmem : ∀ k, k ∈ Fa ++ (F id' ++ Fb) → k ∈ F id ∨ k ∈ F id' := by
                    intro k hk
                    rcases List.mem_append.1 hk with hk | hk
                    · exact .inl (by rw [hF]; exact List.mem_append_left _ hk)
                    · rcases List.mem_append.1 hk with hk | hk
                      · exact .inr hk
                      · exact .inl (by rw [hF]; exact List.mem_append_right _ hk)
                  have J2 := J.upd (N' := N) (m' := memOf w) (hd' := hd) id (v, .vec e zs) (Fa ++ (F id' ++ Fb)) (Nat.le_refl _) (fun b hb => ⟨hb, rfl⟩) (fun k hk => ⟨I.s.ltN k hk, fun j _ hj => J.sep j k hj hk, fun h => by
                      rcases hmem k h with h | h
                      · exact I.s.sep id k h hk
                      · exact I.s.sep id' k h hk⟩) (fun _ _ _ _ => rfl) (by
                      rw [List.nodup_append]
                      refine ⟨n1.1, ?_, fun p hp q hq epq => ?_⟩
                      · rw [List.nodup_append]
                        refine ⟨I.s.nodup id', n1.2.1, fun p hp q hq epq => ?_⟩
                        subst epq
                        exact hne (I.s.once id' id p hp (by rw [hF]; exact List.mem_append_right _ hq))
                      · subst epq
                        rcases List.mem_append.1 hq with hq | hq
                        · exact hne (I.s.once id' id p hq (by rw [hF]; exact List.mem_append_left _ hp))
                        · exact n1.2.2 p hp p hq rfl) (fun k hk => ⟨by
                      rcases hmem k hk with h | h
                      · exact I.s.ltF id k h
                      · exact I.s.ltF id' k h, fun j hj hk' => by
                      by_cases e4 : j = id'
                      · simp [e4] at hk'
                      · simp only [e4, if_false] at hk'
                        rcases hmem k hk with h | h
                        · exact hj (I.s.once j id k hk' h)
                        · exact e4 (I.s.once j id' k hk' h)⟩) gw (fun _ _ => rfl) hrep
                  have hs3 : (s2.set id (v, .vec e zs)) id = (v, .vec e zs) := Sto.set_same _ _ _
                  have hnv : ((s2.set id (v, .vec e zs)) (newId o.dst)) = st.o (newId o.dst) := by rw [Sto.set_ne _ _ hn.1, f3 _ hn2, hnew]
                  have hnv1 : (s1 (newId o.dst)) = st.o (newId o.dst) := fillK_loc hf _ hn2
                  obtain ⟨g, cap, cc, T, v0, hd', F', k1, k2, k3, k4, k5, k6, k7⟩ := borrow_ok J2 hs3 hy hg hn.1 (nv := (s1 (newId o.dst)).1 + 1) (by rw [hnv, hnv1])
                  have hset : ((s2.set id (v, .vec e zs)).set id (v, .hvec e zs i y off (newId o.dst) ((s1 (newId o.dst)).1 + 1))) = s2.set id (v, .hvec e zs i y off (newId o.dst) ((s1 (newId o.dst)).1 + 1)) := by
                    funext j
                    by_cases e4 : j = id
                    · subst e4; rw [Sto.set_same, Sto.set_same]
                    · rw [Sto.set_ne _ _ e4, Sto.set_ne _ _ e4, Sto.set_ne _ _ e4]
                  rw [hset] at k4 k5 k7
                  rw [k1] at e1
                  injection e1 with e1 _ _; injection e1 with e1; injection e1 with e1
                  subst e1
                  have e2' : a.eval x = .pointer (some ⟨g, i * e.sz + off, none⟩) := e2
                  have hcell : cellsIn (memOf w) g (i * e.sz + off) [v0] := ⟨cc, T, (0, 0), k2, fun j u hj => by
                    cases j with
                    | zero => simp at hj; subst hj; simpa using k3
                    | succ j => simp at hj⟩
                  obtain ⟨u, hr, hu'⟩ := run_loadVar hcell hok (by rw [hsz]; rfl) (fun _ => hsz)
                  rw [hag, hsz] at hu'
                  have hu2 : u = v0 := by simpa using hu'.symm
                  subst hu2
                  refine ⟨u, w, [], _, N, hd', F', by simp [execOp, ho, Instr.loadAt, e2', Instr.sureAddr, hr], ⟨fun j hj => ?_, fun j hj => ?_, Moves.refl w, by simp, k4, fun _ h => h, (g1.trans gw).trans k5, fun _ h => .inl h, fun j k hk => ?_, k7⟩⟩
                  · simp only [List.mem_cons, List.not_mem_nil, or_false] at hj
                    show _ = (Sto.set (Sto.set _ _ _) _ _) j
                    by_cases e5 : j = newId o.dst
                    · subst e5; rw [Sto.set_same, Sto.set_same]
                    · rw [Sto.set_ne _ _ e5, Sto.set_ne _ _ e5]
                      by_cases e6 : j = id
                      · subst e6; rw [Sto.set_same, Sto.set_same]
                      · rw [Sto.set_ne _ _ e6, Sto.set_ne _ _ e6]
                        rcases hj with h | h | h
                        · exact absurd h e6
                        · exact absurd h e5
                        · rw [h]; exact f2
                  · have q1 : j ≠ id := fun h => hj (by simp [h])
                    have q2 : j ≠ newId o.dst := fun h => hj (by simp [h])
                    have q3 : j ≠ id' := fun h => hj (by simp [h])
                    rw [Sto.set_ne _ _ q2, Sto.set_ne _ _ q1, f3 j q3]
                  · obtain ⟨j', hj'⟩ := k6 j k hk
                    by_cases e7 : j' = id
                    · simp only [e7, if_true] at hj'
                      rcases hmem k hj' with h | h
                      · exact .inl ⟨id, h⟩
                      · exact .inl ⟨id', h⟩
                    · simp only [e7, if_false] at hj'
                      by_cases e8 : j' = id'
                      · simp [e8] at hj'
                      · simp only [e8, if_false] at hj'; exact .inl ⟨j', hj'⟩
                · cases h
              · cases h
            · cases h
          · cases h
        · cases h
      · cases h
    · cases h
  · cases h

theorem good_load {t : TypeId} {x : Operand} (ho : o.op = .load t x) (h : exOp E O o st K = some r) : ∃ e, K e = some r ∧ Good E X o st e := by
  by_cases hb : E.borrow (o.dst.getD 0) t = true ∧ deepEp (st.eval x) st.o = true
  · exact good_borrow ho hb h
  · exact good_load0 ho hb h

theorem good_alloc {t : TypeId} (ho : o.op = .alloc t) (h : exOp E O o st K = some r) : ∃ e, K e = some r ∧ Good E X o st e := by
  simp only [exOp, ho] at h
  split at h
  · rename_i cs hz
    refine ⟨_, h, Good.make fun st' hx hi a w N hd F I => ?_⟩
    obtain ⟨i, z, h1, h2, h3, h4⟩ := run_zeroValue hz
    have hid : st'.o (newId o.dst) = st.o (newId o.dst) := hi _ (.inl (by simp))
    obtain ⟨s', N', hd', F', L⟩ := left_box (X := X) I.s (cs := cs) (vs := z.cells.toList) (constCs_rep h3) t hid
    exact ⟨_, _, [], s', N', hd', F', by simp [execOp, ho, Instr.alloc, h4, run_newVar], L⟩
  · cases h

theorem good_box {t : TypeId} {x : Operand} (ho : o.op = .box t x) (h : exOp E O o st K = some r) : ∃ e, K e = some r ∧ Good E X o st e := by
  have hx : x ∈ o.op.operands := by rw [ho]; simp [Op.operands]
  simp only [exOp, ho] at h
  split at h
  · rename_i c hc
    refine ⟨_, h, Good.make fun st' he hi a w N hd F I => ?_⟩
    have hv := I.eval x
    rw [he x hx, hc] at hv
    have hid : st'.o (newId o.dst) = st.o (newId o.dst) := hi _ (.inl (by simp))
    have h1 := RepC.one' hv
    obtain ⟨s', N', hd', F', L⟩ := left_box (X := X) I.s (cs := [c]) (vs := [a.eval x]) ⟨hv, trivial⟩ t hid
    exact ⟨_, _, [], s', N', hd', F', by simp [execOp, ho, Instr.box, run_newVar, cells_one h1], L⟩
  · rename_i cs hc
    refine ⟨_, h, Good.make fun st' he hi a w N hd F I => ?_⟩
    have hv := I.eval x
    rw [he x hx, hc] at hv
    have hid : st'.o (newId o.dst) = st.o (newId o.dst) := hi _ (.inl (by simp))
    obtain ⟨vs, e1, h1⟩ := hv
    obtain ⟨s', N', hd', F', L⟩ := left_box (X := X) I.s (cs := cs) (vs := vs) h1 t hid
    exact ⟨_, _, [], s', N', hd', F', by simp [execOp, ho, Instr.box, run_newVar, e1, Value.cells], L⟩
  · cases h

/-! ### build -/
theorem fold_set (off : Nat) : ∀ (vs : List Value) (n : Nat) (cs : List Value), off + n + vs.length ≤ cs.length →
    (vs.zipIdx n).foldl (fun (cs : Array Value) (p : Value × Nat) => cs.setIfInBounds (off + p.2) p.1) ⟨cs⟩ = ⟨cs.take (off + n) ++ vs ++ cs.drop (off + n + vs.length)⟩
  | [], n, cs, _ => by simp
  | v :: vs, n, cs, h => by
    have hl : off + (n + 1) + vs.length ≤ (cs.set (off + n) v).length := by simp at h ⊢; omega
    have ih := fold_set off vs (n + 1) (cs.set (off + n) v) hl
    have hs := list_seg_step cs (off + n) v vs (by simp at h; omega)
    simp only [List.zipIdx_cons, List.foldl_cons, List.setIfInBounds_toArray] 
    rw [ih]
    congr 1

theorem fill_step (place : Nat → Option (Nat × Nat)) {i off : Nat} {v : Value} {vs cs : List Value} {rest : List (Nat × Value)} (hp : place i = some (off, vs.length)) (hv : v.cells = ⟨vs⟩) (hl : off + vs.length ≤ cs.length) :
    Instr.fill place ⟨cs⟩ ((i, v) :: rest) = Instr.fill place ⟨cs.take off ++ vs ++ cs.drop (off + vs.length)⟩ rest := by
  have h := fold_set off vs 0 cs (by omega)
  have h2 : v.cells.zipIdx.foldl (fun (cs : Array Value) (p : Value × Nat) => cs.setIfInBounds (off + p.2) p.1) ⟨cs⟩ = (vs.zipIdx 0).foldl (fun (cs : Array Value) (p : Value × Nat) => cs.setIfInBounds (off + p.2) p.1) ⟨cs⟩ := by
    rw [hv]; simp
  rw [Instr.fill, hp]
  simp only [hv]
  have h3 : ¬ ((decide ((⟨vs⟩ : Array Value).size ≠ vs.length) || decide (off + (⟨vs⟩ : Array Value).size > (⟨cs⟩ : Array Value).size)) = true) := by
    simp; omega
  rw [if_neg h3]
  rw [hv] at h2
  simp only [Nat.add_zero] at h
  rw [← h, ← h2]

theorem RepV.cells {m : Mem} {N : Nat → Prop} {s : Sto} {hd : Nat → Value} {v : V} {u : Value} (h : RepV m N s hd v u) (hne : v.cells ≠ []) : ∃ us, u.cells = ⟨us⟩ ∧ RepCs m N s hd v.cells us := by
  cases v with
  | one c => exact ⟨[u], cells_one (RepC.one' h), h, trivial⟩
  | agg cs =>
    obtain ⟨vs, rfl, h1⟩ := h
    exact ⟨vs, rfl, h1⟩
  | _ => exact absurd rfl hne

theorem RepCs.setCs {m : Mem} {N : Nat → Prop} {s : Sto} {hd : Nat → Value} {cs vs : List C} {us ws : List Value} (h : RepCs m N s hd cs us) (h' : RepCs m N s hd vs ws) (off : Nat) : RepCs m N s hd (setCs cs off vs) (us.take off ++ ws ++ us.drop (off + ws.length)) := by
  unfold Ev.setCs
  rw [h'.len]
  exact (h.take.append h').append h.drop

theorem fillCs_ok {P : Program} {fs : List Field} {places : List (Nat × Nat)} (hpl : ∀ (i : Nat) (f : Field), fs[i]? = some f → places[i]? = some (f.offset, szP P f.type)) {m : Mem} {N : Nat → Prop} {s : Sto} {hd : Nat → Value} {st : St} {a : Act} :
    ∀ (parts : List (Nat × Operand)) (cs ds : List C) (us : List Value), (∀ p ∈ parts, RepV m N s hd (st.eval p.2) (a.eval p.2)) → fillCs P fs (parts.map fun p => (p.1, st.eval p.2)) cs = some ds → RepCs m N s hd cs us →
      ∃ ws, Instr.fill (fun i => places[i]?) ⟨us⟩ (parts.map fun p => (p.1, a.eval p.2)) = some ⟨ws⟩ ∧ RepCs m N s hd ds ws
  | [], cs, ds, us, _, h, hr => by
    obtain rfl := Option.some.inj h
    exact ⟨us, rfl, hr⟩
  | (i, x) :: parts, cs, ds, us, hv, h, hr => by
    simp only [List.map_cons, fillCs] at h ⊢
    split at h
    · rename_i f hf
      split at h
      · rename_i hc
        obtain ⟨vs, e1, h1⟩ := RepV.cells (hv (i, x) (by simp)) (fun h0 => hc.2.2 (by rw [h0]; rfl))
        have hlen := h1.len
        have hl2 := hr.len
        rw [fill_step (fun i => places[i]?) (vs := vs) (by rw [hpl i f hf, hlen, hc.1]) e1 (by have := hc.1; have := hc.2.1; simp only at hlen this; omega)]
        exact fillCs_ok hpl parts _ ds _ (fun p hp => hv p (List.mem_cons_of_mem _ hp)) h (RepCs.setCs hr h1 f.offset)
      · cases h
    · cases h

theorem places_some {P : Program} : ∀ (fs : List Field), (fs.all fun f => (P.info? f.type).isSome) = true → ∃ places, fs.mapM (fun f => (P.info? f.type).map fun i => (f.offset, i.size)) = some places ∧ ∀ (i : Nat) (f : Field), fs[i]? = some f → places[i]? = some (f.offset, szP P f.type)
  | [], _ => ⟨[], by simp, by simp⟩
  | f :: fs, h => by
    simp only [List.all_cons, Bool.and_eq_true] at h
    obtain ⟨i, hi⟩ := Option.isSome_iff_exists.1 h.1
    obtain ⟨pl, h1, h2⟩ := places_some fs h.2
    refine ⟨(f.offset, i.size) :: pl, by simp [List.mapM_cons, hi, h1], fun j g hg => ?_⟩
    cases j with
    | zero => simp at hg; subst hg; simp [szP, hi]
    | succ j => simp at hg ⊢; exact h2 j g hg

theorem good_build {t : TypeId} {parts : Array (Nat × Operand)} (ho : o.op = .build t parts) (h : exOp E O o st K = some r) : ∃ e, K e = some r ∧ Good E X o st e := by
  have hx : ∀ p ∈ parts.toList, p.2 ∈ o.op.operands := by
    intro p hp; rw [ho]; simp [Op.operands]; exact ⟨p.1, by simpa using hp⟩
  simp only [exOp, ho] at h
  split at h
  · rename_i cs hz
    split at h
    · rename_i hb
      split at h
      · rename_i ds hf
        refine ⟨_, h, Good.val fun st' he hm a w N hd' F I => ?_⟩
        obtain ⟨it, z, h1, h2, h3, h4⟩ := run_zeroValue hz
        unfold buildable at hb
        split at hb
        · rename_i fs hu
          obtain ⟨pl, hp1, hp2⟩ := places_some fs.toList hb
          have hfs : fieldsP E.P t = fs.toList := by simp [fieldsP, hu]
          rw [hfs] at hf
          have hmap : (parts.toList.map fun p => (p.1, st.eval p.2)) = (parts.toList.map fun p => (p.1, st'.eval p.2)) := by
            apply List.map_congr_left
            intro p hp
            rw [he p.2 (hx p hp)]
          rw [hmap] at hf
          obtain ⟨ws, hw1, hw2⟩ := fillCs_ok (P := E.P) (st := st') (a := a) hp2 parts.toList cs ds z.cells.toList (fun p _ => I.eval p.2) hf (constCs_rep h3)
          refine ⟨.agg ⟨ws⟩, ?_, ws, rfl, hw2⟩
          have hb : E.P.built t (parts.map fun (i, x) => (i, a.eval x)).toList = some ⟨ws⟩ := by
            simp only [Program.built, h1, hu, h2, hp1]
            simpa using hw1
          have := run_build (P := E.P) w t (parts.map fun (i, x) => (i, a.eval x)) ⟨ws⟩ hb
          simp [execOp, ho, this]
        · cases hb
      · cases h
    · cases h
  · cases h
end

end Go.Proofs.YtofkhmedmeihiaaPn.Ev
