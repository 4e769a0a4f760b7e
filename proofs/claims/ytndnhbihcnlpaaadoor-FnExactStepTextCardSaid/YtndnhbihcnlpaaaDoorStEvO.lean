/- Texts laid together: EvK, EvL, EvM, EvN, EvO; no condition but those that each theorem names. -/
import Derived.Test.YtndnhbihcnlpaaaDoorStEvJ
import Derived.Laws.CopyRow
import Derived.Laws.OwnMore
import Derived.Carry
/- The evaluator: operations that make objects or write. -/
namespace Go.Proofs.YtndnhbihcnlpaaaDoorSt.Ev
open Go

theorem memOf_alloc_old (w : World) (o : Go.Obj) {k : Nat} (hk : k < w.heap.size) : memOf (w.alloc o) k = memOf w k := Go.heap_alloc_old w o hk
theorem memOf_alloc_new (w : World) (o : Go.Obj) : memOf (w.alloc o) w.heap.size = some o := heap_alloc_new w o
theorem size_alloc (w : World) (o : Go.Obj) : (w.alloc o).heap.size = w.heap.size + 1 := by simp

/-- The world goes on; what is seen and what is owned stay as they are. -/
theorem SInv.world {m m' : Mem} {N : Nat → Prop} {s : Sto} {hd : Nat → Value} {F : Nat → List Nat} {size size' : Nat} (I : SInv m N s hd F size) (hsz : size ≤ size') (hm : ∀ k, k < size → m' k = m k) : SInv m' N s hd F size' where
  obj := fun i => ObjRep.goes (fun b hb => ⟨hb, hm b (I.ltN b hb)⟩) (Goes.refl s hd) (fun k hk => hm k (I.ltF i k hk)) (I.obj i)
  once := I.once
  nodup := I.nodup
  sep := I.sep
  ltF := fun i k hk => Nat.lt_of_lt_of_le (I.ltF i k hk) hsz
  ltN := fun k hk => Nat.lt_of_lt_of_le (I.ltN k hk) hsz

theorem app_eq {st : St} {e : Eff} {s : Sto} (h1 : ∀ i ∈ e.w, s i = e.s i) (h2 : ∀ i, i ∉ e.w → s i = st.o i) (d : Option Nat) : (st.app d e).o = s := by
  funext i
  show (if e.w.contains i then e.s i else st.o i) = s i
  by_cases h : i ∈ e.w
  · rw [if_pos (by simpa using h), h1 i h]
  · rw [if_neg (by simpa using h), h2 i h]

section
variable {E : Env} {O : Oracle E} {X : Ctx} {o : Oper} {st : St} {R : Type} {K : Eff → Option R} {r : R}

/-- What the run of an operation leaves, told once. -/
structure Left (X : Ctx) (st : St) (e : Eff) (w : World) (N : Nat → Prop) (hd : Nat → Value) (F : Nat → List Nat) (u : Value) (w' : World) (W : List Nat) (s' : Sto) (N' : Nat → Prop) (hd' : Nat → Value) (F' : Nat → List Nat) : Prop where
  sw : ∀ i ∈ e.w, s' i = e.s i
  so : ∀ i, i ∉ e.w → s' i = st.o i
  mv : Moves w w' W
  own : ∀ k ∈ W, ∃ i, k ∈ F i
  inv : SInv (memOf w') N' s' hd' F' w'.heap.size
  up : ∀ k, N k → N' k
  goes : Goes st.o s' hd hd'
  new : ∀ k, N' k → N k ∨ (∃ i, k ∈ F i) ∨ w.heap.size ≤ k
  sub : ∀ i k, k ∈ F' i → (∃ j, k ∈ F j) ∨ w.heap.size ≤ k
  val : RepV (memOf w') N' s' hd' e.v u

theorem Left.inv' {e : Eff} {w : World} {N : Nat → Prop} {hd : Nat → Value} {F : Nat → List Nat} {u : Value} {w' : World} {W : List Nat} {s' : Sto} {N' : Nat → Prop} {hd' : Nat → Value} {F' : Nat → List Nat} {a : Act} {d : Option Nat}
    (I : InvD X st a w N hd F) (hdst : dstOK X d) (L : Left X st e w N hd F u w' W s' N' hd' F') : Inv X (st.app d e) (a.put d u) w' :=
  ⟨N', hd', F', I.put hdst (app_eq L.sw L.so d) L.inv (fun b hb => ⟨L.up b hb, L.mv.block b (I.s.ltN b hb) fun hW => by
    obtain ⟨i, hi⟩ := L.own b hW
    exact I.s.sep i b hi hb⟩) L.goes (I.fr.move L.mv L.own L.up L.new L.sub) L.val⟩

theorem Good.make {e : Eff} (h : ∀ st' : St, (∀ x ∈ o.op.operands, st'.eval x = st.eval x) → (∀ i, i ∈ e.w ∨ i ∈ e.r → st'.o i = st.o i) → ∀ a w N hd F, InvD X st' a w N hd F →
      ∃ u w' W s' N' hd' F', (execOp a.eval o).run E.P w = .ok (.value u) w' ∧ Left X st' e w N hd F u w' W s' N' hd' F') : Good E X o st e := by
  intro st' h1 h2 a w ⟨N, hd, F, I⟩ hdst K Q hK
  obtain ⟨u, w', W, s', N', hd', F', hr, L⟩ := h st' h1 h2 a w N hd F I
  exact wp_value hr (hK _ _ (L.inv' I hdst))

theorem Good.write {e : Eff} (hv : e.v = .undef) (h : ∀ st' : St, (∀ x ∈ o.op.operands, st'.eval x = st.eval x) → (∀ i, i ∈ e.w ∨ i ∈ e.r → st'.o i = st.o i) → ∀ a w N hd F, InvD X st' a w N hd F →
      ∃ w' W s' N' hd' F', (execOp a.eval o).run E.P w = .ok .skip w' ∧ Left X st' e w N hd F undef w' W s' N' hd' F') : Good E X o st e := by
  intro st' h1 h2 a w ⟨N, hd, F, I⟩ hdst K Q hK
  obtain ⟨w', W, s', N', hd', F', hr, L⟩ := h st' h1 h2 a w N hd F I
  exact wp_skip' hr (hK _ _ (L.inv' I hdst))

/-- A block more, and an object for it. -/
theorem left_new {e : Eff} {w : World} {N0 : Nat → Prop} {hd : Nat → Value} {F0 : Nat → List Nat} (I0 : SInv (memOf w) N0 st.o hd F0 w.heap.size)
    {s : Sto} {N : Nat → Prop} {F : Nat → List Nat} (I : SInv (memOf w) N s hd F w.heap.size) (g : Goes st.o s hd hd) (hup : ∀ k, N0 k → N k) (hnew : ∀ k, N k → N0 k ∨ ∃ i, k ∈ F0 i) (hsub : ∀ i k, k ∈ F i → k ∈ F0 i)
    {w1 w' : World} {cells : Array Value} {T : TypeId} (hw1 : Moves w w1 []) (hsz : w1.heap.size = w.heap.size) (hw' : w' = w1.alloc (.cells cells T)) {id : Nat} {ob : Obj} {u : Value} {cc : C} {G : List Nat}
    (hG : G.Nodup) (hGl : ∀ k ∈ G, k < w.heap.size + 1 ∧ ¬ N k ∧ ∀ i, k ∉ F i) (hGo : ∀ k ∈ G, (∃ i, k ∈ F0 i) ∨ w.heap.size ≤ k)
    (hob : ∀ s' hd', Goes s s' hd hd' → hd' id = u → (∀ k, N k → memOf w' k = memOf w k) → ObjRep (memOf w') N s' hd' ob u G)
    (hcc : ∀ hd', hd' id = u → RepC (memOf w') N (s.set id ((s id).1 + 1, ob)) hd' cc u)
    (hev : e.v = .one cc) (hw : ∀ i, i ∈ e.w → (s.set id ((s id).1 + 1, ob)) i = e.s i) (ho : ∀ i, i ∉ e.w → (s.set id ((s id).1 + 1, ob)) i = st.o i) :
    ∃ s' N' hd' F', Left X st e w N0 hd F0 u w' [] s' N' hd' F' := by
  have hsz' : w'.heap.size = w.heap.size + 1 := by rw [hw', size_alloc, hsz]
  have hmem : ∀ k, k < w.heap.size → memOf w' k = memOf w k := by
    intro k hk
    rw [hw', memOf_alloc_old w1 _ (by omega)]
    exact hw1.block k hk (by simp)
  have I1 : SInv (memOf w') N s hd F w'.heap.size := I.world (by omega) hmem
  have hF : Fresh N F w'.heap.size G := ⟨hG, fun k hk => by rw [hsz']; exact (hGl k hk).1, fun k hk => (hGl k hk).2.1, fun k hk => (hGl k hk).2.2⟩
  have k := new_ok I1 id ((s id).1 + 1) ob u G hF (by omega) (fun s' hd' g h => hob s' hd' g h (fun k hk => hmem k (I.ltN k hk)))
  have hmv : Moves w w' [] := by rw [hw']; exact hw1.trans (Moves.alloc w1 _)
  refine ⟨_, N, _, _, hw, ho, hmv, by simp, k.inv, hup, g.trans k.goes, fun k hk => ?_, fun i k' hk => ?_, ?_⟩
  · rcases hnew k hk with h | h
    · exact .inl h
    · exact .inr (.inl h)
  · rcases k.sub i k' hk with h | h
    · exact .inl ⟨i, hsub i k' h⟩
    · exact hGo k' h
  · rw [hev]; exact hcc _ (by simp)

theorem run_zeroValue {P : Program} {t : TypeId} {cs : List C} (h : zeroCs P t = some cs) : ∃ i z, P.info? t = some i ∧ i.zero = some z ∧ constCs z.cells.toList = some cs ∧ ∀ w, (zeroValue t).run P w = .ok z w := by
  unfold zeroCs at h
  split at h
  · rename_i z hz
    obtain ⟨i, hi, hz'⟩ := Option.bind_eq_some_iff.1 hz
    exact ⟨i, z, hi, hz', h, fun w => by simp [zeroValue, typeInfo, hi, hz']⟩
  · cases h

theorem cells_one {v : Value} (h : v.oneCell' = true) : v.cells = #[v] := by cases v <;> first | rfl | (simp [Value.oneCell'] at h)

theorem run_newVar {P : Program} {w : World} (t : TypeId) (v : Value) : (newVar t v).run P w = .ok ⟨w.heap.size, 0, none⟩ (w.alloc (.cells v.cells t)) := by
  simp [newVar, newRow]

/-- A new box. -/
theorem left_box {st' : St} {w : World} {N : Nat → Prop} {hd : Nat → Value} {F : Nat → List Nat} (I : SInv (memOf w) N st'.o hd F w.heap.size) {cs : List C} {vs : List Value} (hcs : RepCs (memOf w) N st'.o hd cs vs) (t : TypeId) {id : Nat} {s0 : Sto} (hid : st'.o id = s0 id) :
    ∃ s' N' hd' F', Left X st' { v := .one (.bp id ((s0 id).1 + 1) 0), s := s0.set id ((s0 id).1 + 1, .box cs), w := [id] } w N hd F (.pointer (some ⟨w.heap.size, 0, none⟩)) (w.alloc (.cells ⟨vs⟩ t)) [] s' N' hd' F' := by
  refine left_new (X := X) (st := st') (w := w) I I (Goes.refl _ _) (fun _ h => h) (fun _ h => .inl h) (fun _ _ h => h) (Moves.refl w) rfl (w' := w.alloc (.cells ⟨vs⟩ t)) rfl
    (id := id) (ob := .box cs) (u := .pointer (some ⟨w.heap.size, 0, none⟩)) (cc := .bp id ((st'.o id).1 + 1) 0) (G := [w.heap.size]) (by simp) ?_ (by simp)
    (fun s' hd' g e hN => ⟨w.heap.size, vs, t, rfl, by rw [memOf_alloc_new], hcs.goes (fun b hb => ⟨hb, hN b hb⟩) g, rfl⟩)
    (fun hd' e => ⟨by simp [Sto.set_same], rfl, fun _ _ => ⟨w.heap.size, e, rfl⟩⟩) (by rw [hid]) ?_ ?_
  · intro k hk
    simp at hk; subst hk
    exact ⟨by omega, fun h => Nat.lt_irrefl _ (I.ltN _ h), fun i h => Nat.lt_irrefl _ (I.ltF i _ h)⟩
  · intro i hi'
    simp at hi'; subst hi'
    show _ = (s0.set _ _) _
    rw [Sto.set_same, Sto.set_same, hid]
  · intro i hi'
    simp at hi'
    exact Sto.set_ne _ _ hi'

/-- A part of a row is taken out. -/
theorem borrow_ok {m : Mem} {N : Nat → Prop} {s : Sto} {hd : Nat → Value} {F : Nat → List Nat} {size : Nat} (I : SInv m N s hd F size) {id v : Nat} {e : Ty} {xs : List e.den} (hs : s id = (v, .vec e xs)) {i off : Nat} {x : e.den} (hx : xs[i]? = some x) {σ : Ty} {ys : List σ.den} (hg : getAt e x off = some ⟨σ, ys⟩) {new nv : Nat} (hne : new ≠ id) (hnv : nv = (s new).1 + 1) :
    ∃ g cap c T v0 hd' F', hd id = .slice (some ⟨g, 0, none⟩) (List.length xs) cap ∧ m g = some (.cells c T (0, 0)) ∧ c.toList[i * e.sz + off]? = some v0 ∧
      SInv m N ((s.set id (v, .hvec e xs i x off new nv)).set new (nv, .vec σ ys)) hd' F' size ∧ Goes s ((s.set id (v, .hvec e xs i x off new nv)).set new (nv, .vec σ ys)) hd hd' ∧ (∀ j k, k ∈ F' j → ∃ j', k ∈ F j') ∧
      RepC m N ((s.set id (v, .hvec e xs i x off new nv)).set new (nv, .vec σ ys)) hd' (.own new nv) v0 := by
  have hob := I.obj id
  rw [hs] at hob
  obtain ⟨g, cap, c, T, v0, Fa, G, Fb, h1, h2, h3, h4, h5, h6⟩ := row_split hob hx hg
  have hv : (s id).1 = v := by rw [hs]
  obtain ⟨o1, o2⟩ := out_ok I id (.ovec e xs) (by rw [hs]; exact fun _ => ⟨rfl, rfl, Nat.le_refl _⟩) (by simp [Obj.isB]) (fun s' => ⟨rfl, RepT.own_len hob⟩)
  rw [hv] at o1 o2
  have hnod := I.nodup id
  rw [h4] at hnod
  have n1 := List.nodup_append.1 hnod
  have n2 := List.nodup_append.1 n1.2.1
  have hGF : ∀ k ∈ G, k ∈ F id := fun k hk => by rw [h4]; exact List.mem_append_right _ (List.mem_append_left _ hk)
  have hFF : ∀ k ∈ Fa ++ Fb, k ∈ F id := fun k hk => by
    rw [h4]
    rcases List.mem_append.1 hk with hk | hk
    · exact List.mem_append_left _ hk
    · exact List.mem_append_right _ (List.mem_append_right _ hk)
  have hfr : Fresh N (fun j => if j = id then [] else F j) size G := ⟨n2.1, fun k hk => I.ltF id k (hGF k hk), fun k hk => I.sep id k (hGF k hk), fun k hk j hj => by
    by_cases ej : j = id
    · simp [ej] at hj
    · simp only [ej, if_false] at hj
      exact ej (I.once j id k hj (hGF k hk))⟩
  have hsn : (s.set id (v, .ovec e xs)) new = s new := Sto.set_ne _ _ hne
  have hone := RepT.one' h5 v0 (by simp)
  have k1 := new_ok o1 new nv (.vec σ ys) v0 G hfr (by rw [hsn]; omega) (fun s' hd' g e => h5)
  have hid1 : ((s.set id (v, .ovec e xs)).set new (nv, .vec σ ys)) id = (v, .ovec e xs) := by rw [Sto.set_ne _ _ (Ne.symm hne), Sto.set_same]
  have hset : ((s.set id (v, .ovec e xs)).set new (nv, .vec σ ys)).set id (v, .hvec e xs i x off new nv) = (s.set id (v, .hvec e xs i x off new nv)).set new (nv, .vec σ ys) := by
    funext j
    by_cases e1 : j = id
    · subst e1; rw [Sto.set_same, Sto.set_ne _ _ (Ne.symm hne), Sto.set_same]
    · rw [Sto.set_ne _ _ e1]
      by_cases e2 : j = new
      · subst e2; rw [Sto.set_same, Sto.set_same]
      · rw [Sto.set_ne _ _ e2, Sto.set_ne _ _ e2, Sto.set_ne _ _ e1, Sto.set_ne _ _ e1]
  have g2 : Goes ((s.set id (v, .ovec e xs)).set new (nv, .vec σ ys)) (((s.set id (v, .ovec e xs)).set new (nv, .vec σ ys)).set id (v, .hvec e xs i x off new nv)) (fun j => if j = new then v0 else hd j) (fun j => if j = new then v0 else hd j) := by
    have := Goes.set_like (s := (s.set id (v, .ovec e xs)).set new (nv, .vec σ ys)) (hd := fun j => if j = new then v0 else hd j) id (.hvec e xs i x off new nv) (fun _ => by rw [hid1]; exact ⟨rfl, rfl, Nat.le_refl _⟩) (by simp [Obj.isB])
    rwa [hid1] at this
  have I2 := k1.inv.upd (N' := N) (m' := m) (hd' := fun j => if j = new then v0 else hd j) id (v, .hvec e xs i x off new nv) (Fa ++ Fb) (Nat.le_refl _) (fun b hb => ⟨hb, rfl⟩) (fun k hk => ⟨k1.inv.ltN k hk, fun j _ hj => k1.inv.sep j k hj hk, fun hF => I.sep id k (hFF k hF) hk⟩)
    (fun _ _ _ _ => rfl) (by
      rw [List.nodup_append]
      exact ⟨n1.1, n2.2.1, fun a ha b hb => n1.2.2 a ha b (List.mem_append_right _ hb)⟩) (fun k hk => ⟨I.ltF id k (hFF k hk), fun j hj hk' => by
      by_cases e2 : j = new
      · simp only [e2, if_true] at hk'
        rcases List.mem_append.1 hk with h | h
        · exact n1.2.2 k h k (List.mem_append_left _ hk') rfl
        · exact n2.2.2 k hk' k h rfl
      · simp only [e2, hj, if_false] at hk'
        exact hj (I.once j id k hk' (hFF k hk))⟩) g2 (fun _ _ => rfl) (by
      refine ⟨v0, Fa, Fb, hx, ⟨?_, hone, fun _ _ => by simp⟩, rfl, ⟨g, cap, by simp only [if_neg (Ne.symm hne)]; exact h1⟩, by simp only [if_neg (Ne.symm hne)]; exact h6⟩
      rw [Sto.set_ne _ _ hne, Sto.set_same]; exact Nat.le_refl _)
  rw [hset] at I2 g2
  refine ⟨g, cap, c, T, v0, _, _, h1, h2, h3, I2, (o2.trans k1.goes).trans g2, fun j k hk => ?_, ?_, hone, fun _ _ => by simp⟩
  · by_cases e1 : j = id
    · simp only [e1, if_true] at hk; exact ⟨id, hFF k hk⟩
    · by_cases e2 : j = new
      · simp only [e2, if_neg hne, if_true] at hk; exact ⟨id, hGF k hk⟩
      · simp only [e1, e2, if_false] at hk; exact ⟨j, hk⟩
  · rw [Sto.set_same]; exact Nat.le_refl _

/-- A row is taken out of a row of rows. -/
theorem take_ok {m : Mem} {N : Nat → Prop} {s : Sto} {hd : Nat → Value} {F : Nat → List Nat} {size : Nat} (I : SInv m N s hd F size) {id v : Nat} {a : Ty} {xs : List (Ty.mv a).den} (hs : s id = (v, .vec (.mv a) xs)) {i : Nat} {ys : List a.den} (hx : xs[i]? = some (some (true, ys))) {new nv : Nat} (hne : new ≠ id) (hnv : nv = (s new).1 + 1) :
    ∃ g cap c T v0 hd' F', hd id = .slice (some ⟨g, 0, none⟩) (List.length xs) cap ∧ m g = some (.cells c T (0, 0)) ∧ c.toList[i]? = some v0 ∧
      SInv m N ((s.set id (v, .vec (.mv a) (xs.set i none))).set new (nv, .vec a ys)) hd' F' size ∧ Goes s ((s.set id (v, .vec (.mv a) (xs.set i none))).set new (nv, .vec a ys)) hd hd' ∧ (∀ j k, k ∈ F' j → ∃ j', k ∈ F j') ∧
      RepC m N ((s.set id (v, .vec (.mv a) (xs.set i none))).set new (nv, .vec a ys)) hd' (.own new nv) v0 := by
  have hob := I.obj id
  rw [hs] at hob
  obtain ⟨g, cap, c, T, v0, Fa, G, Fb, h1, h2, h3, h4, h5', h6⟩ := mv_at hob hx
  have h5 : RepT m N (.own a) ys [v0] G := h5'
  have hv : (s id).1 = v := by rw [hs]
  obtain ⟨o1, o2⟩ := out_ok I id (.ovec (.mv a) xs) (by rw [hs]; exact fun _ => ⟨rfl, rfl, Nat.le_refl _⟩) (by simp [Obj.isB]) (fun s' => ⟨rfl, RepT.own_len hob⟩)
  rw [hv] at o1 o2
  have hnod := I.nodup id
  rw [h4] at hnod
  have n1 := List.nodup_append.1 hnod
  have n2 := List.nodup_append.1 n1.2.1
  have hGF : ∀ k ∈ G, k ∈ F id := fun k hk => by rw [h4]; exact List.mem_append_right _ (List.mem_append_left _ hk)
  have hFF : ∀ k ∈ Fa ++ Fb, k ∈ F id := fun k hk => by
    rw [h4]
    rcases List.mem_append.1 hk with hk | hk
    · exact List.mem_append_left _ hk
    · exact List.mem_append_right _ (List.mem_append_right _ hk)
  have hfr : Fresh N (fun j => if j = id then [] else F j) size G := ⟨n2.1, fun k hk => I.ltF id k (hGF k hk), fun k hk => I.sep id k (hGF k hk), fun k hk j hj => by
    by_cases ej : j = id
    · simp [ej] at hj
    · simp only [ej, if_false] at hj
      exact ej (I.once j id k hj (hGF k hk))⟩
  have hsn : (s.set id (v, .ovec (.mv a) xs)) new = s new := Sto.set_ne _ _ hne
  have hone := RepT.one' h5 v0 (by simp)
  have k1 := new_ok o1 new nv (.vec a ys) v0 G hfr (by rw [hsn]; omega) (fun s' hd' g e => h5)
  have hid1 : ((s.set id (v, .ovec (.mv a) xs)).set new (nv, .vec a ys)) id = (v, .ovec (.mv a) xs) := by rw [Sto.set_ne _ _ (Ne.symm hne), Sto.set_same]
  have hset : ((s.set id (v, .ovec (.mv a) xs)).set new (nv, .vec a ys)).set id (v, .vec (.mv a) (xs.set i none)) = (s.set id (v, .vec (.mv a) (xs.set i none))).set new (nv, .vec a ys) := by
    funext j
    by_cases e1 : j = id
    · subst e1; rw [Sto.set_same, Sto.set_ne _ _ (Ne.symm hne), Sto.set_same]
    · rw [Sto.set_ne _ _ e1]
      by_cases e2 : j = new
      · subst e2; rw [Sto.set_same, Sto.set_same]
      · rw [Sto.set_ne _ _ e2, Sto.set_ne _ _ e2, Sto.set_ne _ _ e1, Sto.set_ne _ _ e1]
  have g2 : Goes ((s.set id (v, .ovec (.mv a) xs)).set new (nv, .vec a ys)) (((s.set id (v, .ovec (.mv a) xs)).set new (nv, .vec a ys)).set id (v, .vec (.mv a) (xs.set i none))) (fun j => if j = new then v0 else hd j) (fun j => if j = new then v0 else hd j) := by
    have := Goes.set_like (s := (s.set id (v, .ovec (.mv a) xs)).set new (nv, .vec a ys)) (hd := fun j => if j = new then v0 else hd j) id (.vec (.mv a) (xs.set i none)) (fun _ => by rw [hid1]; exact ⟨rfl, rfl, by simp [Obj.vlen]⟩) (by simp [Obj.isB])
    rwa [hid1] at this
  have I2 := k1.inv.upd (N' := N) (m' := m) (hd' := fun j => if j = new then v0 else hd j) id (v, .vec (.mv a) (xs.set i none)) (Fa ++ Fb) (Nat.le_refl _) (fun b hb => ⟨hb, rfl⟩) (fun k hk => ⟨k1.inv.ltN k hk, fun j _ hj => k1.inv.sep j k hj hk, fun hF => I.sep id k (hFF k hF) hk⟩)
    (fun _ _ _ _ => rfl) (by
      rw [List.nodup_append]
      exact ⟨n1.1, n2.2.1, fun a ha b hb => n1.2.2 a ha b (List.mem_append_right _ hb)⟩) (fun k hk => ⟨I.ltF id k (hFF k hk), fun j hj hk' => by
      by_cases e2 : j = new
      · simp only [e2, if_true] at hk'
        rcases List.mem_append.1 hk with h | h
        · exact n1.2.2 k h k (List.mem_append_left _ hk') rfl
        · exact n2.2.2 k hk' k h rfl
      · simp only [e2, hj, if_false] at hk'
        exact hj (I.once j id k hk' (hFF k hk))⟩) g2 (fun _ _ => rfl) (by
      show RepT m N (.own (.mv a)) (xs.set i none) [if id = new then v0 else hd id] (Fa ++ Fb)
      rw [if_neg (Ne.symm hne)]; exact h6)
  rw [hset] at I2 g2
  refine ⟨g, cap, c, T, v0, _, _, h1, h2, h3, I2, (o2.trans k1.goes).trans g2, fun j k hk => ?_, ?_, hone, fun _ _ => by simp⟩
  · by_cases e1 : j = id
    · simp only [e1, if_true] at hk; exact ⟨id, hFF k hk⟩
    · by_cases e2 : j = new
      · simp only [e2, if_neg hne, if_true] at hk; exact ⟨id, hGF k hk⟩
      · simp only [e1, e2, if_false] at hk; exact ⟨j, hk⟩
  · rw [Sto.set_same]; exact Nat.le_refl _

theorem takeO_some {α : Type} {xs : List (Option (Bool × List α))} {i : Nat} {ys : List α} (h : takeO xs i = some ys) : xs[i]? = some (some (true, ys)) := by
  unfold takeO at h
  split at h
  · rename_i hx; obtain rfl := Option.some.inj h; exact hx
  · cases h
theorem seeO_some {α : Type} {xs : List (Option (Bool × List α))} {i : Nat} {ys : List α} (h : seeO xs i = some ys) : xs[i]? = some (some (false, ys)) := by
  unfold seeO at h
  split at h
  · rename_i hx; obtain rfl := Option.some.inj h; exact hx
  · cases h

/-- A load off a row of rows that are owned, read, or gone. -/
theorem good_mv {t : TypeId} {x : Operand} (ho : o.op = .load t x) {p : Nat × Nat × Nat × Sigma fun a : Ty => List (Ty.mv a).den} (hm : mvEp (st.eval x) st.o = some p) (h : exOp E O o st K = some r) : ∃ e, K e = some r ∧ Good E X o st e := by
  have hx : x ∈ o.op.operands := by rw [ho]; simp [Op.operands]
  obtain ⟨id, v, i, a, xs⟩ := p
  obtain ⟨hc, hs⟩ : st.eval x = .one (.ep id v i 0) ∧ st.o id = (v, .vec (.mv a) xs) := by
    unfold mvEp at hm
    split at hm
    · rename_i id' ver' i' off' he
      split at hm
      · rename_i v' a' xs' hs'
        split at hm
        · rename_i hv
          obtain ⟨rfl, rfl⟩ := hv
          simp only [Option.some.injEq, Prod.mk.injEq, Sigma.mk.injEq] at hm
          obtain ⟨rfl, rfl, rfl, rfl, hxs⟩ := hm
          cases hxs
          exact ⟨he, hs'⟩
        · cases hm
      · cases hm
    · cases hm
  simp only [exOp, ho, hm] at h
  split at h
  · rename_i hif
    obtain ⟨hok, hag, hsz⟩ := hif
    have addr : ∀ {st' : St} {b : Act} {w : World} {N : Nat → Prop} {hd : Nat → Value} {F : Nat → List Nat}, InvD X st' b w N hd F → st'.eval x = st.eval x → st'.o id = st.o id → ∀ {g cap : Nat}, hd id = .slice (some ⟨g, 0, none⟩) (List.length xs) cap → b.eval x = .pointer (some ⟨g, i, none⟩) := by
      intro st' b w N hd F I he hid g cap hg
      have hu := I.eval x; rw [he, hc] at hu
      rw [hs] at hid
      obtain ⟨g', len, cap', e1, e2⟩ := hu.2.2 (by rw [hid]) (by rw [hid]; rfl)
      rw [hid] at e2
      rw [hg] at e1
      injection e1 with e1 _ _; injection e1 with e1; injection e1 with e1
      subst e1
      have e2' : b.eval x = .pointer (some ⟨g, i * 1 + 0, none⟩) := e2
      simpa using e2'
    split at h
    · obtain ⟨ys, hy, h⟩ := Option.bind_eq_some_iff.1 h
      have hxs := takeO_some hy
      split at h
      · rename_i hn
        refine ⟨_, h, Good.make fun st' he hi b w N hd F I => ?_⟩
        have hid := hi id (.inl (by simp))
        have hnew := hi (newId o.dst) (.inl (by simp))
        have hid0 := hid
        rw [hs] at hid
        obtain ⟨g, cap, cc, T, v0, hd', F', k1, k2, k3, k4, k5, k6, k7⟩ := take_ok I.s hid hxs hn (nv := (st.o (newId o.dst)).1 + 1) (by rw [hnew])
        have e2' := addr I (he x hx) hid0 k1
        have hcell : cellsIn (memOf w) g i [v0] := ⟨cc, T, (0, 0), k2, fun j u hj => by
          cases j with
          | zero => simp at hj; subst hj; simpa using k3
          | succ j => simp at hj⟩
        obtain ⟨u, hr, hu'⟩ := run_loadVar hcell hok (by rw [hsz]; rfl) (fun _ => hsz)
        rw [hag, hsz] at hu'
        have hu2 : u = v0 := by simpa using hu'.symm
        subst hu2
        refine ⟨u, w, [], _, N, hd', F', by simp [execOp, ho, Instr.loadAt, e2', Instr.sureAddr, hr], ⟨fun j hj => ?_, fun j hj => ?_, Moves.refl w, by simp, k4, fun _ h => h, k5, fun _ h => .inl h, fun j k hk => .inl (k6 j k hk), k7⟩⟩
        · simp only [List.mem_cons, List.not_mem_nil, or_false] at hj
          show _ = (Sto.set (Sto.set _ _ _) _ _) j
          by_cases e5 : j = newId o.dst
          · subst e5; rw [Sto.set_same, Sto.set_same]
          · rw [Sto.set_ne _ _ e5, Sto.set_ne _ _ e5]
            rcases hj with h | h
            · rw [h, Sto.set_same, Sto.set_same]
            · exact absurd h e5
        · have q1 : j ≠ id := fun h => hj (by simp [h])
          have q2 : j ≠ newId o.dst := fun h => hj (by simp [h])
          rw [Sto.set_ne _ _ q2, Sto.set_ne _ _ q1]
      · cases h
    · split at h
      · obtain ⟨ys, hy, h⟩ := Option.bind_eq_some_iff.1 h
        have hxs := seeO_some hy
        refine ⟨_, h, Good.val fun st' he hi b w N hd F I => ?_⟩
        have hid := hi id (by simp)
        have hid0 := hid
        rw [hs] at hid
        have hob := I.s.obj id
        rw [hid] at hob
        obtain ⟨g, cap, cc, T, v0, Fa, G, Fb, k1, k2, k3, k4, k5, k6⟩ := mv_at hob hxs
        have e2' := addr I (he x hx) hid0 k1
        have hcell : cellsIn (memOf w) g i [v0] := ⟨cc, T, (0, 0), k2, fun j u hj => by
          cases j with
          | zero => simp at hj; subst hj; simpa using k3
          | succ j => simp at hj⟩
        obtain ⟨u, hr, hu'⟩ := run_loadVar hcell hok (by rw [hsz]; rfl) (fun _ => hsz)
        rw [hag, hsz] at hu'
        have hu2 : u = v0 := by simpa using hu'.symm
        subst hu2
        have hG : G = [] := k5.1
        subst hG
        exact ⟨u, by simp [execOp, ho, Instr.loadAt, e2', Instr.sureAddr, hr], k5⟩
      · cases h
  · cases h

/-- A load that takes a part out. -/
theorem good_borrow {t : TypeId} {x : Operand} (ho : o.op = .load t x) (hmv : mvEp (st.eval x) st.o = none) (hb : E.borrow (o.dst.getD 0) t = true ∧ deepEp (st.eval x) st.o = true) (h : exOp E O o st K = some r) : ∃ e, K e = some r ∧ Good E X o st e := by
  have hx : x ∈ o.op.operands := by rw [ho]; simp [Op.operands]
  simp only [exOp, ho, hmv] at h
  rw [if_pos hb] at h
  obtain ⟨c, hc, h⟩ := one_some h
  split at h
  · rename_i id ver i off
    split at h
    · rename_i hif
      obtain ⟨hok, hag, hsz⟩ := hif
      split at h
      · rename_i v e xs hs
        split at h
        · rename_i hv
          subst hv
          unfold borrowK at h
          split at h
          · rename_i y hy
            split at h
            · rename_i σ ys hg
              split at h
              · rename_i hn
                refine ⟨_, h, Good.make fun st' he hi a w N hd F I => ?_⟩
                have hid := hi id (.inl (by simp)); rw [hs] at hid
                have hnew := hi (newId o.dst) (.inl (by simp))
                have hu := I.eval x; rw [he x hx, hc] at hu
                obtain ⟨g', len, cap', e1, e2⟩ := hu.2.2 (by rw [hid]) (by rw [hid]; rfl)
                rw [hid] at e2
                obtain ⟨g, cap, cc, T, v0, hd', F', k1, k2, k3, k4, k5, k6, k7⟩ := borrow_ok I.s hid hy hg hn.1 (nv := (st.o (newId o.dst)).1 + 1) (by rw [hnew])
                rw [k1] at e1
                injection e1 with e1 _ _; injection e1 with e1; injection e1 with e1
                subst e1
                have e2' : a.eval x = .pointer (some ⟨g, i * e.sz + off, none⟩) := e2
                have hcell : cellsIn (memOf w) g (i * e.sz + off) [v0] := ⟨cc, T, (0, 0), k2, fun j u hj => by
                  cases j with
                  | zero => simp at hj; subst hj; simpa using k3
                  | succ j => simp at hj⟩
                obtain ⟨u, hr, hu'⟩ := run_loadVar hcell hok (by rw [hsz]; rfl) (fun _ => hsz)
                rw [hag, hsz] at hu'
                have hu2 : u = v0 := by simpa using hu'.symm
                subst hu2
                refine ⟨u, w, [], _, N, hd', F', by simp [execOp, ho, Instr.loadAt, e2', Instr.sureAddr, hr], ⟨fun j hj => ?_, fun j hj => ?_, Moves.refl w, by simp, k4, fun _ h => h, k5, fun _ h => .inl h, fun j k hk => .inl (k6 j k hk), k7⟩⟩
                · simp only [List.mem_cons, List.not_mem_nil, or_false] at hj
                  show _ = (Sto.set (Sto.set _ _ _) _ _) j
                  by_cases e5 : j = newId o.dst
                  · subst e5; rw [Sto.set_same, Sto.set_same]
                  · rw [Sto.set_ne _ _ e5, Sto.set_ne _ _ e5]
                    rcases hj with h | h
                    · rw [h, Sto.set_same, Sto.set_same]
                    · exact absurd h e5
                · have q1 : j ≠ id := fun h => hj (by simp [h])
                  have q2 : j ≠ newId o.dst := fun h => hj (by simp [h])
                  rw [Sto.set_ne _ _ q2, Sto.set_ne _ _ q1]
              · cases h
            · cases h
          · cases h
        · cases h
      · rename_i v e xs i' y0 off' id' ver' hs
        split at h
        · rename_i hv
          obtain ⟨rfl, hne⟩ := hv
          split at h
          · rename_i zs s1 hf
            unfold borrowK at h
            split at h
            · rename_i y hy
              split at h
              · rename_i σ ys hg
                split at h
                · rename_i hn
                  have hn2 : newId o.dst ≠ id' := by
                    have := hn.2
                    simp at this
                    exact fun h => this (by rw [h])
                  refine ⟨_, h, Good.make fun st' he hi a w N hd F I => ?_⟩
                  have hid := hi id (.inl (by simp)); rw [hs] at hid
                  have hid' := hi id' (.inl (by simp))
                  have hnew := hi (newId o.dst) (.inl (by simp))
                  have hu := I.eval x; rw [he x hx, hc] at hu
                  obtain ⟨g', len, cap', e1, e2⟩ := hu.2.2 (by rw [hid]) (by rw [hid]; rfl)
                  rw [hid] at e2
                  obtain ⟨s2, f1, f2, f3⟩ := fillK_alike hf hid'
                  obtain ⟨⟨Fa, Fb, hF, hrep⟩, hlen, J, g1, hvv, hid2, g0, cap0, hh⟩ := fill_ok I.s hid hne f1
                  -- the row is whole again
                  have hidx : s2 id = (v, .hvec e xs i' y0 off' id' ver') := by rw [hid2, hid]
                  have hFid : (fun j => if j = id' then [] else F j) id = F id := by simp only [if_neg (Ne.symm hne)]
                  have gw : Goes s2 (s2.set id (v, .vec e zs)) hd hd := by
                    have := Goes.set_like (s := s2) (hd := hd) id (.vec e zs) (fun _ => by rw [hidx]; exact ⟨rfl, rfl, by show List.length xs ≤ List.length zs; omega⟩) (by simp [Obj.isB])
                    rwa [hidx] at this
                  have hnd1 := I.s.nodup id
                  rw [hF] at hnd1
                  have n1 := List.nodup_append.1 hnd1
                  have hmem : ∀ k, k ∈ Fa ++ (F id' ++ Fb) → k ∈ F id ∨ k ∈ F id' := by
                    intro k hk
                    rcases List.mem_append.1 hk with hk | hk
                    · exact .inl (by rw [hF]; exact List.mem_append_left _ hk)
                    · rcases List.mem_append.1 hk with hk | hk
                      · exact .inr hk
                      · exact .inl (by rw [hF]; exact List.mem_append_right _ hk)
                  have J2 := J.upd (N' := N) (m' := memOf w) (hd' := hd) id (v, .vec e zs) (Fa ++ (F id' ++ Fb)) (Nat.le_refl _) (fun b hb => ⟨hb, rfl⟩) (fun k hk => ⟨I.s.ltN k hk, fun j _ hj => J.sep j k hj hk, fun h => by
                      rcases hmem k h with h | h
                      · exact I.s.sep id k h hk
                      · exact I.s.sep id' k h hk⟩) (fun _ _ _ _ => rfl) (by
                      rw [List.nodup_append]
                      refine ⟨n1.1, ?_, fun p hp q hq epq => ?_⟩
                      · rw [List.nodup_append]
                        refine ⟨I.s.nodup id', n1.2.1, fun p hp q hq epq => ?_⟩
                        subst epq
                        exact hne (I.s.once id' id p hp (by rw [hF]; exact List.mem_append_right _ hq))
                      · subst epq
                        rcases List.mem_append.1 hq with hq | hq
                        · exact hne (I.s.once id' id p hq (by rw [hF]; exact List.mem_append_left _ hp))
                        · exact n1.2.2 p hp p hq rfl) (fun k hk => ⟨by
                      rcases hmem k hk with h | h
                      · exact I.s.ltF id k h
                      · exact I.s.ltF id' k h, fun j hj hk' => by
                      by_cases e4 : j = id'
                      · simp [e4] at hk'
                      · simp only [e4, if_false] at hk'
                        rcases hmem k hk with h | h
                        · exact hj (I.s.once j id k hk' h)
                        · exact e4 (I.s.once j id' k hk' h)⟩) gw (fun _ _ => rfl) hrep
                  have hs3 : (s2.set id (v, .vec e zs)) id = (v, .vec e zs) := Sto.set_same _ _ _
                  have hnv : ((s2.set id (v, .vec e zs)) (newId o.dst)) = st.o (newId o.dst) := by rw [Sto.set_ne _ _ hn.1, f3 _ hn2, hnew]
                  have hnv1 : (s1 (newId o.dst)) = st.o (newId o.dst) := fillK_loc hf _ hn2
                  obtain ⟨g, cap, cc, T, v0, hd', F', k1, k2, k3, k4, k5, k6, k7⟩ := borrow_ok J2 hs3 hy hg hn.1 (nv := (s1 (newId o.dst)).1 + 1) (by rw [hnv, hnv1])
                  have hset : ((s2.set id (v, .vec e zs)).set id (v, .hvec e zs i y off (newId o.dst) ((s1 (newId o.dst)).1 + 1))) = s2.set id (v, .hvec e zs i y off (newId o.dst) ((s1 (newId o.dst)).1 + 1)) := by
                    funext j
                    by_cases e4 : j = id
                    · subst e4; rw [Sto.set_same, Sto.set_same]
                    · rw [Sto.set_ne _ _ e4, Sto.set_ne _ _ e4, Sto.set_ne _ _ e4]
                  rw [hset] at k4 k5 k7
                  rw [k1] at e1
                  injection e1 with e1 _ _; injection e1 with e1; injection e1 with e1
                  subst e1
                  have e2' : a.eval x = .pointer (some ⟨g, i * e.sz + off, none⟩) := e2
                  have hcell : cellsIn (memOf w) g (i * e.sz + off) [v0] := ⟨cc, T, (0, 0), k2, fun j u hj => by
                    cases j with
                    | zero => simp at hj; subst hj; simpa using k3
                    | succ j => simp at hj⟩
                  obtain ⟨u, hr, hu'⟩ := run_loadVar hcell hok (by rw [hsz]; rfl) (fun _ => hsz)
                  rw [hag, hsz] at hu'
                  have hu2 : u = v0 := by simpa using hu'.symm
                  subst hu2
                  refine ⟨u, w, [], _, N, hd', F', by simp [execOp, ho, Instr.loadAt, e2', Instr.sureAddr, hr], ⟨fun j hj => ?_, fun j hj => ?_, Moves.refl w, by simp, k4, fun _ h => h, (g1.trans gw).trans k5, fun _ h => .inl h, fun j k hk => ?_, k7⟩⟩
                  · simp only [List.mem_cons, List.not_mem_nil, or_false] at hj
                    show _ = (Sto.set (Sto.set _ _ _) _ _) j
                    by_cases e5 : j = newId o.dst
                    · subst e5; rw [Sto.set_same, Sto.set_same]
                    · rw [Sto.set_ne _ _ e5, Sto.set_ne _ _ e5]
                      by_cases e6 : j = id
                      · subst e6; rw [Sto.set_same, Sto.set_same]
                      · rw [Sto.set_ne _ _ e6, Sto.set_ne _ _ e6]
                        rcases hj with h | h | h
                        · exact absurd h e6
                        · exact absurd h e5
                        · rw [h]; exact f2
                  · have q1 : j ≠ id := fun h => hj (by simp [h])
                    have q2 : j ≠ newId o.dst := fun h => hj (by simp [h])
                    have q3 : j ≠ id' := fun h => hj (by simp [h])
                    rw [Sto.set_ne _ _ q2, Sto.set_ne _ _ q1, f3 j q3]
                  · obtain ⟨j', hj'⟩ := k6 j k hk
                    by_cases e7 : j' = id
                    · simp only [e7, if_true] at hj'
                      rcases hmem k hj' with h | h
                      · exact .inl ⟨id, h⟩
                      · exact .inl ⟨id', h⟩
                    · simp only [e7, if_false] at hj'
                      by_cases e8 : j' = id'
                      · simp [e8] at hj'
                      · simp only [e8, if_false] at hj'; exact .inl ⟨j', hj'⟩
                · cases h
              · cases h
            · cases h
          · cases h
        · cases h
      · cases h
    · cases h
  · cases h

theorem good_load {t : TypeId} {x : Operand} (ho : o.op = .load t x) (h : exOp E O o st K = some r) : ∃ e, K e = some r ∧ Good E X o st e := by
  cases hm : mvEp (st.eval x) st.o with
  | some p => exact good_mv ho hm h
  | none =>
    by_cases hb : E.borrow (o.dst.getD 0) t = true ∧ deepEp (st.eval x) st.o = true
    · exact good_borrow ho hm hb h
    · exact good_load0 ho hm hb h

theorem good_alloc {t : TypeId} (ho : o.op = .alloc t) (h : exOp E O o st K = some r) : ∃ e, K e = some r ∧ Good E X o st e := by
  simp only [exOp, ho] at h
  split at h
  · rename_i cs hz
    refine ⟨_, h, Good.make fun st' hx hi a w N hd F I => ?_⟩
    obtain ⟨i, z, h1, h2, h3, h4⟩ := run_zeroValue hz
    have hid : st'.o (newId o.dst) = st.o (newId o.dst) := hi _ (.inl (by simp))
    obtain ⟨s', N', hd', F', L⟩ := left_box (X := X) I.s (cs := cs) (vs := z.cells.toList) (constCs_rep h3) t hid
    exact ⟨_, _, [], s', N', hd', F', by simp [execOp, ho, Instr.alloc, h4, run_newVar], L⟩
  · cases h

theorem good_box {t : TypeId} {x : Operand} (ho : o.op = .box t x) (h : exOp E O o st K = some r) : ∃ e, K e = some r ∧ Good E X o st e := by
  have hx : x ∈ o.op.operands := by rw [ho]; simp [Op.operands]
  simp only [exOp, ho] at h
  split at h
  · rename_i c hc
    refine ⟨_, h, Good.make fun st' he hi a w N hd F I => ?_⟩
    have hv := I.eval x
    rw [he x hx, hc] at hv
    have hid : st'.o (newId o.dst) = st.o (newId o.dst) := hi _ (.inl (by simp))
    have h1 := RepC.one' hv
    obtain ⟨s', N', hd', F', L⟩ := left_box (X := X) I.s (cs := [c]) (vs := [a.eval x]) ⟨hv, trivial⟩ t hid
    exact ⟨_, _, [], s', N', hd', F', by simp [execOp, ho, Instr.box, run_newVar, cells_one h1], L⟩
  · rename_i cs hc
    refine ⟨_, h, Good.make fun st' he hi a w N hd F I => ?_⟩
    have hv := I.eval x
    rw [he x hx, hc] at hv
    have hid : st'.o (newId o.dst) = st.o (newId o.dst) := hi _ (.inl (by simp))
    obtain ⟨vs, e1, h1⟩ := hv
    obtain ⟨s', N', hd', F', L⟩ := left_box (X := X) I.s (cs := cs) (vs := vs) h1 t hid
    exact ⟨_, _, [], s', N', hd', F', by simp [execOp, ho, Instr.box, run_newVar, e1, Value.cells], L⟩
  · cases h

/-! ### build -/
theorem fold_set (off : Nat) : ∀ (vs : List Value) (n : Nat) (cs : List Value), off + n + vs.length ≤ cs.length →
    (vs.zipIdx n).foldl (fun (cs : Array Value) (p : Value × Nat) => cs.setIfInBounds (off + p.2) p.1) ⟨cs⟩ = ⟨cs.take (off + n) ++ vs ++ cs.drop (off + n + vs.length)⟩
  | [], n, cs, _ => by simp
  | v :: vs, n, cs, h => by
    have hl : off + (n + 1) + vs.length ≤ (cs.set (off + n) v).length := by simp at h ⊢; omega
    have ih := fold_set off vs (n + 1) (cs.set (off + n) v) hl
    have hs := list_seg_step cs (off + n) v vs (by simp at h; omega)
    simp only [List.zipIdx_cons, List.foldl_cons, List.setIfInBounds_toArray] 
    rw [ih]
    congr 1

theorem fill_step (place : Nat → Option (Nat × Nat)) {i off : Nat} {v : Value} {vs cs : List Value} {rest : List (Nat × Value)} (hp : place i = some (off, vs.length)) (hv : v.cells = ⟨vs⟩) (hl : off + vs.length ≤ cs.length) :
    Instr.fill place ⟨cs⟩ ((i, v) :: rest) = Instr.fill place ⟨cs.take off ++ vs ++ cs.drop (off + vs.length)⟩ rest := by
  have h := fold_set off vs 0 cs (by omega)
  have h2 : v.cells.zipIdx.foldl (fun (cs : Array Value) (p : Value × Nat) => cs.setIfInBounds (off + p.2) p.1) ⟨cs⟩ = (vs.zipIdx 0).foldl (fun (cs : Array Value) (p : Value × Nat) => cs.setIfInBounds (off + p.2) p.1) ⟨cs⟩ := by
    rw [hv]; simp
  rw [Instr.fill, hp]
  simp only [hv]
  have h3 : ¬ ((decide ((⟨vs⟩ : Array Value).size ≠ vs.length) || decide (off + (⟨vs⟩ : Array Value).size > (⟨cs⟩ : Array Value).size)) = true) := by
    simp; omega
  rw [if_neg h3]
  rw [hv] at h2
  simp only [Nat.add_zero] at h
  rw [← h, ← h2]

theorem RepV.cells {m : Mem} {N : Nat → Prop} {s : Sto} {hd : Nat → Value} {v : V} {u : Value} (h : RepV m N s hd v u) (hne : v.cells ≠ []) : ∃ us, u.cells = ⟨us⟩ ∧ RepCs m N s hd v.cells us := by
  cases v with
  | one c => exact ⟨[u], cells_one (RepC.one' h), h, trivial⟩
  | agg cs =>
    obtain ⟨vs, rfl, h1⟩ := h
    exact ⟨vs, rfl, h1⟩
  | _ => exact absurd rfl hne

theorem RepCs.setCs {m : Mem} {N : Nat → Prop} {s : Sto} {hd : Nat → Value} {cs vs : List C} {us ws : List Value} (h : RepCs m N s hd cs us) (h' : RepCs m N s hd vs ws) (off : Nat) : RepCs m N s hd (setCs cs off vs) (us.take off ++ ws ++ us.drop (off + ws.length)) := by
  unfold Ev.setCs
  rw [h'.len]
  exact (h.take.append h').append h.drop

theorem fillCs_ok {P : Program} {fs : List Field} {places : List (Nat × Nat)} (hpl : ∀ (i : Nat) (f : Field), fs[i]? = some f → places[i]? = some (f.offset, szP P f.type)) {m : Mem} {N : Nat → Prop} {s : Sto} {hd : Nat → Value} {st : St} {a : Act} :
    ∀ (parts : List (Nat × Operand)) (cs ds : List C) (us : List Value), (∀ p ∈ parts, RepV m N s hd (st.eval p.2) (a.eval p.2)) → fillCs P fs (parts.map fun p => (p.1, st.eval p.2)) cs = some ds → RepCs m N s hd cs us →
      ∃ ws, Instr.fill (fun i => places[i]?) ⟨us⟩ (parts.map fun p => (p.1, a.eval p.2)) = some ⟨ws⟩ ∧ RepCs m N s hd ds ws
  | [], cs, ds, us, _, h, hr => by
    obtain rfl := Option.some.inj h
    exact ⟨us, rfl, hr⟩
  | (i, x) :: parts, cs, ds, us, hv, h, hr => by
    simp only [List.map_cons, fillCs] at h ⊢
    split at h
    · rename_i f hf
      split at h
      · rename_i hc
        obtain ⟨vs, e1, h1⟩ := RepV.cells (hv (i, x) (by simp)) (fun h0 => hc.2.2 (by rw [h0]; rfl))
        have hlen := h1.len
        have hl2 := hr.len
        rw [fill_step (fun i => places[i]?) (vs := vs) (by rw [hpl i f hf, hlen, hc.1]) e1 (by have := hc.1; have := hc.2.1; simp only at hlen this; omega)]
        exact fillCs_ok hpl parts _ ds _ (fun p hp => hv p (List.mem_cons_of_mem _ hp)) h (RepCs.setCs hr h1 f.offset)
      · cases h
    · cases h

theorem places_some {P : Program} : ∀ (fs : List Field), (fs.all fun f => (P.info? f.type).isSome) = true → ∃ places, fs.mapM (fun f => (P.info? f.type).map fun i => (f.offset, i.size)) = some places ∧ ∀ (i : Nat) (f : Field), fs[i]? = some f → places[i]? = some (f.offset, szP P f.type)
  | [], _ => ⟨[], by simp, by simp⟩
  | f :: fs, h => by
    simp only [List.all_cons, Bool.and_eq_true] at h
    obtain ⟨i, hi⟩ := Option.isSome_iff_exists.1 h.1
    obtain ⟨pl, h1, h2⟩ := places_some fs h.2
    refine ⟨(f.offset, i.size) :: pl, by simp [List.mapM_cons, hi, h1], fun j g hg => ?_⟩
    cases j with
    | zero => simp at hg; subst hg; simp [szP, hi]
    | succ j => simp at hg ⊢; exact h2 j g hg

theorem good_build {t : TypeId} {parts : Array (Nat × Operand)} (ho : o.op = .build t parts) (h : exOp E O o st K = some r) : ∃ e, K e = some r ∧ Good E X o st e := by
  have hx : ∀ p ∈ parts.toList, p.2 ∈ o.op.operands := by
    intro p hp; rw [ho]; simp [Op.operands]; exact ⟨p.1, by simpa using hp⟩
  simp only [exOp, ho] at h
  split at h
  · rename_i n te harr
    have hu := arrP_some harr
    split at h
    · rename_i cs hz hparts
      split at h
      · rename_i hs0
        refine ⟨_, h, Good.val fun st' he hm a w N hd' F I => ?_⟩
        obtain ⟨it, z, h1, h2, h3, h4⟩ := run_zeroValue hz
        have hp : parts = #[] := by rw [← Array.toArray_toList (xs := parts), hparts]
        have hsz := run_sizeOf (P := E.P) (t := te) hs0 w
        refine ⟨.agg z.cells, ?_, z.cells.toList, rfl, constCs_rep h3⟩
        simp [execOp, ho, hp, Instr.build, h4 w, run_underlying hu, hsz, Instr.fill]
      · cases h
    · cases h
  split at h
  · rename_i cs hz
    split at h
    · rename_i hb
      split at h
      · rename_i ds hf
        refine ⟨_, h, Good.val fun st' he hm a w N hd' F I => ?_⟩
        obtain ⟨it, z, h1, h2, h3, h4⟩ := run_zeroValue hz
        unfold buildable at hb
        split at hb
        · rename_i fs hu
          obtain ⟨pl, hp1, hp2⟩ := places_some fs.toList hb
          have hfs : fieldsP E.P t = fs.toList := by simp [fieldsP, hu]
          rw [hfs] at hf
          have hmap : (parts.toList.map fun p => (p.1, st.eval p.2)) = (parts.toList.map fun p => (p.1, st'.eval p.2)) := by
            apply List.map_congr_left
            intro p hp
            rw [he p.2 (hx p hp)]
          rw [hmap] at hf
          obtain ⟨ws, hw1, hw2⟩ := fillCs_ok (P := E.P) (st := st') (a := a) hp2 parts.toList cs ds z.cells.toList (fun p _ => I.eval p.2) hf (constCs_rep h3)
          refine ⟨.agg ⟨ws⟩, ?_, ws, rfl, hw2⟩
          have hb : E.P.built t (parts.map fun (i, x) => (i, a.eval x)).toList = some ⟨ws⟩ := by
            simp only [Program.built, h1, hu, h2, hp1]
            simpa using hw1
          have := run_build (P := E.P) w t (parts.map fun (i, x) => (i, a.eval x)) ⟨ws⟩ hb
          simp [execOp, ho, this]
        · cases hb
      · cases h
    · cases h
  · cases h
end

end Go.Proofs.YtndnhbihcnlpaaaDoorSt.Ev

/- The evaluator: rows that are made, functions that are made, what is written. -/
namespace Go.Proofs.YtndnhbihcnlpaaaDoorSt.Ev
open Go

/-- What the projection of a row's elements leaves. -/
structure ElsOK (m : Mem) (N : Nat → Prop) (s : Sto) (hd : Nat → Value) (F : Nat → List Nat) (size : Nat) (m0 : List Nat) (e : Ty) (xs : List e.den) (s' : Sto) (m1 : List Nat) (vss : List (List Value)) (N' : Nat → Prop) (F' : Nat → List Nat) (Fs : List (List Nat)) : Prop where
  len : vss.length = xs.length
  lenF : Fs.length = xs.length
  rep : ∀ (i : Nat) (h : i < xs.length) (h' : i < vss.length) (h'' : i < Fs.length), RepT m N' e xs[i] vss[i] Fs[i]
  inv : SInv m N' s' hd F' size
  goes : Goes s s' hd hd
  vers : ∀ i, (s' i).1 = (s i).1
  up : ∀ k, N k → N' k
  new : ∀ k, N' k → N k ∨ ∃ i, k ∈ F i
  sub : ∀ i k, k ∈ F' i → k ∈ F i
  nod : Fs.flatten.Nodup
  own : ∀ k ∈ Fs.flatten, (∃ i, k ∈ F i) ∧ ¬ N' k ∧ ∀ i, k ∉ F' i
  acc : ∀ i ∈ m0, i ∈ m1
  loc : ∀ i, i ∉ m1 → s' i = s i ∧ F' i = F i

section
variable {m : Mem} {hd : Nat → Value} {size : Nat}

theorem prElems_ok {e : Ty} : ∀ (css : List (List C)) (s : Sto) (m0 : List Nat) (q : Pr (List e.den)), prElems e css s m0 = some q → ∀ {N : Nat → Prop} {F : Nat → List Nat}, SInv m N s hd F size → ∀ {vss : List (List Value)}, vss.length = css.length →
    (∀ (i : Nat) (h : i < css.length) (h' : i < vss.length), RepCs m N s hd css[i] vss[i]) → ∃ N' F' Fs, ElsOK m N s hd F size m0 e q.x q.s q.m vss N' F' Fs
  | [], s, m0, q, h, N, F, I, vss, hl, hr => by
    obtain rfl := Option.some.inj h
    have : vss = [] := by simpa using hl
    subst this
    exact ⟨N, F, [], rfl, rfl, fun i h => absurd h (by simp), I, Goes.refl s hd, fun _ => rfl, fun _ h => h, fun _ h => .inl h, fun _ _ h => h, List.nodup_nil, by simp, fun _ h => h, fun _ _ => ⟨rfl, rfl⟩⟩
  | cs :: css, s, m0, q, h, N, F, I, vss, hl, hr => by
    simp only [prElems] at h
    split at h
    · rename_i x s1 m1 hp
      split at h
      · rename_i q' hq
        obtain rfl := Option.some.inj h
        match vss, hl with
        | vs :: vss, hl =>
        obtain ⟨v1, v2, N1, F1, G1, k⟩ := pr_ok false e cs s m0 _ hp I (hr 0 (by simp) (by simp))
        have hv2 := RepCs.nil_inv k.rest
        have hvs : vs = v1 := by have h0 := k.vs; rw [hv2, List.append_nil] at h0; exact h0
        subst hvs
        obtain ⟨N2, F2, Fs, j⟩ := prElems_ok css s1 m1 q' hq k.inv (vss := vss) (by simpa using hl) (fun i h h' => by
          have := hr (i + 1) (by simpa using h) (by simpa using h')
          exact RepCs.goes (fun b hb => ⟨k.up b hb, rfl⟩) k.goes this)
        refine ⟨N2, F2, G1 :: Fs, by simp [j.len], by simp [j.lenF], fun i h h' h'' => ?_, j.inv, k.goes.trans j.goes, fun i => (j.vers i).trans (k.vers i), fun b hb => j.up b (k.up b hb), fun b hb => ?_, fun i b hb => k.sub i b (j.sub i b hb), ?_, fun b hb => ?_, fun i hi => j.acc i (k.acc i hi), fun i hi => ?_⟩
        · cases i with
          | zero => exact RepT.mono (fun b hb => ⟨j.up b hb, rfl⟩) (fun _ _ => rfl) k.rep
          | succ i => exact j.rep i (by simpa using h) (by simpa using h') (by simpa using h'')
        · rcases j.new b hb with h | ⟨i, h⟩
          · exact k.new b h
          · exact .inr ⟨i, k.sub i b h⟩
        · rw [List.flatten_cons, List.nodup_append]
          refine ⟨k.nod, j.nod, fun b hb b' hb' e => ?_⟩
          subst e
          obtain ⟨⟨i, hi⟩, _⟩ := j.own b hb'
          exact (k.own b hb).2.2 i hi
        · rw [List.flatten_cons] at hb
          rcases List.mem_append.1 hb with hb | hb
          · refine ⟨(k.own b hb).1, fun hn => ?_, fun i hi => (k.own b hb).2.2 i (j.sub i b hi)⟩
            rcases j.new b hn with h | ⟨i, h⟩
            · exact (k.own b hb).2.1 h
            · exact (k.own b hb).2.2 i h
          · obtain ⟨⟨i, hi⟩, h3, h4⟩ := j.own b hb
            exact ⟨⟨i, k.sub i b hi⟩, h3, h4⟩
        · have hi1 : i ∉ m1 := fun h => hi (j.acc i h)
          exact ⟨(j.loc i hi).1.trans (k.loc i hi1).1, (j.loc i hi).2.trans (k.loc i hi1).2⟩
      · cases h
    · cases h
end

theorem prElems_loc {e : Ty} : ∀ (css : List (List C)) (s : Sto) (m0 : List Nat) (q : Pr (List e.den)), prElems e css s m0 = some q → (∀ i ∈ m0, i ∈ q.m) ∧ ∀ i, i ∉ q.m → q.s i = s i
  | [], s, m0, q, h => by obtain rfl := Option.some.inj h; exact ⟨fun _ h => h, fun _ _ => rfl⟩
  | cs :: css, s, m0, q, h => by
    simp only [prElems] at h
    split at h
    · rename_i x s1 m1 hp
      split at h
      · rename_i q' hq
        obtain rfl := Option.some.inj h
        have h1 := pr_loc false _ _ _ _ _ hp; have h2 := prElems_loc css _ _ _ hq
        exact ⟨fun i hi => h2.1 i (h1.1 i hi), fun i hi => (h2.2 i hi).trans (h1.2 i (fun h => hi (h2.1 i h)))⟩
      · cases h
    · cases h

theorem prElems_alike {e : Ty} : ∀ (css : List (List C)) (s : Sto) (m0 : List Nat) (q : Pr (List e.den)), prElems e css s m0 = some q → ∀ (M : List Nat), (∀ i ∈ q.m, i ∈ M) → ∀ (s2 : Sto), (∀ i ∈ M, s2 i = s i) →
    ∃ q2 : Pr (List e.den), prElems e css s2 m0 = some q2 ∧ q2.x = q.x ∧ q2.m = q.m ∧ ∀ i ∈ M, q2.s i = q.s i
  | [], s, m0, q, h, M, hM, s2, hs => by obtain rfl := Option.some.inj h; exact ⟨_, rfl, rfl, rfl, hs⟩
  | cs :: css, s, m0, q, h, M, hM, s2, hs => by
    simp only [prElems] at h ⊢
    split at h
    · rename_i x s1 m1 hp
      split at h
      · rename_i q' hq
        obtain rfl := Option.some.inj h
        have h2 := prElems_loc css _ _ _ hq
        obtain ⟨t1, e1, g1⟩ := pr_alike false e _ _ _ _ hp M (fun i hi => hM i (h2.1 i hi)) s2 hs
        obtain ⟨q2, e2, x2, m2, g2⟩ := prElems_alike css _ _ _ hq M hM t1 g1
        refine ⟨{ x := x :: q2.x, rest := [], s := q2.s, m := q2.m }, ?_, by simp only [x2], m2, g2⟩
        rw [e1]; simp only [e2]
      · cases h
    · cases h

theorem fill_row {size : Nat} : ∀ (parts : List (Nat × Value)) (vss : List (List Value)) (k : Nat) (cs : List Value), parts.map (·.1) = List.range' k parts.length → vss.length = parts.length →
    (∀ (i : Nat) (h : i < parts.length) (h' : i < vss.length), parts[i].2.cells = ⟨vss[i]⟩ ∧ vss[i].length = size) → (k + parts.length) * size ≤ cs.length →
    Instr.fill (fun i => some (i * size, size)) ⟨cs⟩ parts = some ⟨cs.take (k * size) ++ vss.flatten ++ cs.drop ((k + parts.length) * size)⟩
  | [], vss, k, cs, _, hl, _, _ => by
    have : vss = [] := by simpa using hl
    subst this
    simp [Instr.fill]
  | (i, v) :: parts, vs :: vss, k, cs, hf, hl, hr, hc => by
    simp only [List.map_cons, List.length_cons, List.range'_succ, List.cons.injEq] at hf
    obtain ⟨rfl, hf⟩ := hf
    obtain ⟨h1, h2⟩ := hr 0 (by simp) (by simp)
    simp only [List.getElem_cons_zero] at h1 h2
    have hmul : (i + (parts.length + 1)) * size = i * size + size + parts.length * size := by rw [Nat.add_mul, Nat.add_mul]; omega
    simp only [List.length_cons] at hc ⊢
    rw [hmul] at hc ⊢
    rw [fill_step (fun i => some (i * size, size)) (off := i * size) (vs := vs) (by rw [h2]) h1 (by omega)]
    have htl : (cs.take (i * size)).length = i * size := by rw [List.length_take]; omega
    have hmul2 : (i + 1 + parts.length) * size = i * size + size + parts.length * size := by rw [Nat.add_mul, Nat.add_mul]; omega
    rw [fill_row parts vss (i + 1) _ hf (by simpa using hl) (fun j h h' => by
      have := hr (j + 1) (by simpa using h) (by simpa using h')
      simpa using this) (by
        rw [hmul2]
        simp only [List.length_append, List.length_drop, htl, h2]; omega)]
    rw [hmul2]
    have e1 : (cs.take (i * size) ++ vs ++ cs.drop (i * size + vs.length)).take ((i + 1) * size) = cs.take (i * size) ++ vs := by
      rw [List.take_append_of_le_length (by simp only [List.length_append, htl, h2, Nat.add_mul]; omega)]
      exact List.take_of_length_le (by simp only [List.length_append, htl, h2, Nat.add_mul]; omega)
    have e2 : (cs.take (i * size) ++ vs ++ cs.drop (i * size + vs.length)).drop (i * size + size + parts.length * size) = cs.drop (i * size + size + parts.length * size) := by
      rw [List.drop_append, List.drop_eq_nil_of_le (by simp only [List.length_append, htl, h2]; omega), List.nil_append, List.drop_drop]
      congr 1
      simp only [List.length_append, htl, h2]; omega
    rw [e1, e2]
    simp

section
variable {E : Env} {O : Oracle E} {X : Ctx} {o : Oper} {st : St} {R : Type} {K : Eff → Option R} {r : R}

theorem hasZero_some {P : Program} {t : TypeId} (h : hasZero P t = true) : ∃ i z, P.info? t = some i ∧ i.zero = some z ∧ i.size = szP P t ∧ z.cells.size = i.size ∧ i.bytes = bytesP P t := by
  unfold hasZero at h
  split at h
  · rename_i i hi
    split at h
    · rename_i z hz
      exact ⟨i, z, hi, hz, by simp [szP, hi], by simpa using h, by simp [bytesP, hi]⟩
    · cases h
  · cases h

theorem good_buildSlice {t : TypeId} {len : Nat} {parts : Array (Nat × Operand)} (ho : o.op = .buildSlice t len parts) (h : exOp E O o st K = some r) : ∃ e, K e = some r ∧ Good E X o st e := by
  have hx : ∀ p ∈ parts.toList, p.2 ∈ o.op.operands := by
    intro p hp; rw [ho]; simp [Op.operands]; exact ⟨p.1, by simpa using hp⟩
  simp only [exOp, ho] at h
  split at h
  · cases h
  · rename_i te hte
    have hu := elemP_some hte
    split at h
    · cases h
    · rename_i e hty
      split at h
      · rename_i hc
        obtain ⟨hidx, hsz, hne, hz, hbig⟩ := hc
        split at h
        · rename_i q hq
          obtain ⟨it, z, hi1, hi2, hi3, _, _⟩ := hasZero_some hz
          refine ⟨_, h, Good.make fun st' he hi a w N hd F I => ?_⟩
          have hmap : (parts.toList.map fun p => (st.eval p.2).cells) = (parts.toList.map fun p => (st'.eval p.2).cells) := by
            apply List.map_congr_left
            intro p hp
            rw [he p.2 (hx p hp)]
          rw [hmap] at hq
          obtain ⟨q2, hq2, x2, m2, g2⟩ := prElems_alike _ _ _ _ hq (newId o.dst :: q.m) (fun i hi => List.mem_cons_of_mem _ hi) st'.o (fun i hi' => hi i (.inl hi'))
          have hsel : ∀ p : Nat × Operand, ∃ us, RepCs (memOf w) N st'.o hd (st'.eval p.2).cells us ∧ ((st'.eval p.2).cells ≠ [] → (a.eval p.2).cells = ⟨us⟩) := by
            intro p
            by_cases hnil : (st'.eval p.2).cells = []
            · exact ⟨[], by rw [hnil]; trivial, fun h => absurd hnil h⟩
            · obtain ⟨us, h1, h2⟩ := RepV.cells (I.eval p.2) hnil
              exact ⟨us, h2, fun _ => h1⟩
          let pick : Nat × Operand → List Value := fun p => Classical.choose (hsel p)
          have hpick : ∀ p, RepCs (memOf w) N st'.o hd (st'.eval p.2).cells (pick p) ∧ ((st'.eval p.2).cells ≠ [] → (a.eval p.2).cells = ⟨pick p⟩) := fun p => Classical.choose_spec (hsel p)
          obtain ⟨N', F', Fs, j⟩ := prElems_ok _ _ _ _ hq2 I.s (vss := parts.toList.map pick) (by simp) (fun i h h' => by
            simp only [List.getElem_map]
            exact (hpick _).1)
          have hlp : parts.toList.length = len := by have := congrArg List.length hidx; simpa using this
          have hlx : List.length q2.x = len := by rw [← j.len, List.length_map, hlp]
          have hcell : ∀ (i : Nat) (h : i < (parts.toList.map fun p => (p.1, a.eval p.2)).length) (h' : i < (parts.toList.map pick).length), (parts.toList.map fun p => (p.1, a.eval p.2))[i].2.cells = ⟨(parts.toList.map pick)[i]⟩ ∧ (parts.toList.map pick)[i].length = szP E.P te := by
            intro i h h'
            simp only [List.getElem_map]
            have hil : i < parts.toList.length := by simpa using h
            have hr := j.rep i (by rw [hlx]; omega) h' (by rw [j.lenF, hlx]; omega)
            have hl := hr.len
            simp only [List.getElem_map] at hl
            refine ⟨(hpick _).2 (fun h0 => ?_), by rw [hl, hsz]⟩
            have h3 := (hpick parts.toList[i]).1.len
            rw [h0, hl] at h3
            exact hne h3
          have hflat : (parts.toList.map pick).flatten.length = len * e.sz := by
            rw [flatten_len_of_len (sz := e.sz)]
            · rw [List.length_map, hlp]
            · intro y hy
              obtain ⟨i, hi, rfl⟩ := List.mem_iff_getElem.1 hy
              rw [(hcell i (by simpa using hi) hi).2, hsz]
          have hfill : ∀ cs0 : List Value, cs0.length = len * szP E.P te → Instr.fill (fun i => some (i * szP E.P te, szP E.P te)) ⟨cs0⟩ (parts.toList.map fun p => (p.1, a.eval p.2)) = some ⟨(parts.toList.map pick).flatten⟩ := by
            intro cs0 h0
            have := fill_row (size := szP E.P te) (parts.toList.map fun p => (p.1, a.eval p.2)) (parts.toList.map pick) 0 cs0 (by
              have e1 : (parts.toList.map fun p => (p.1, a.eval p.2)).map (·.1) = parts.toList.map (·.1) := by simp
              rw [e1, hidx, List.length_map, hlp, List.range_eq_range']) (by simp) hcell (by rw [h0, List.length_map, hlp, Nat.zero_add]; exact Nat.le_refl _)
            rw [this]
            simp [hlp, ← h0]
          have hlen0 : len * szP E.P te ≤ 16777216 := by rw [← hsz]; exact hbig
          have hrun : (execOp a.eval o).run E.P w = .ok (.value (.slice (some ⟨w.heap.size, 0, none⟩) len len)) (w.alloc (.cells ⟨(parts.toList.map pick).flatten⟩ te)) := by
            have hsr := run_sizeOf (P := E.P) (by rw [← hsz]; exact hne) w
            have hbig' : ¬ (16777216 < len * szP E.P te) := by omega
            have hfill' : ∀ cs0 : Array Value, cs0.size = len * szP E.P te → Instr.fill (fun i => some (i * szP E.P te, szP E.P te)) cs0 (parts.toList.map fun p => (p.1, a.eval p.2)) = some ⟨(parts.toList.map pick).flatten⟩ := by
              intro cs0 h0
              exact hfill cs0.toList (by simpa using h0)
            have hzv : (zeroValue te).run E.P w = .ok z w := by simp [zeroValue, typeInfo, hi1, hi2]
            by_cases h0 : len * szP E.P te = 0
            · simp [execOp, ho, Instr.buildSlice, run_underlying hu, hsr, hbig', h0, hfill', newRow]
            · simp [execOp, ho, Instr.buildSlice, run_underlying hu, hsr, hbig', h0, hzv, hfill', newRow]
          have hid : (q2.s (newId o.dst)) = q.s (newId o.dst) := g2 _ (by simp)
          obtain ⟨s', N2, hd', F2, L⟩ := left_new (X := X) (st := st') (w := w) (e := { v := .one (.own (newId o.dst) ((q.s (newId o.dst)).1 + 1)), s := q.s.set (newId o.dst) ((q.s (newId o.dst)).1 + 1, .vec e q.x), w := newId o.dst :: q.m }) I.s j.inv j.goes j.up j.new j.sub (Moves.refl w) rfl (w' := w.alloc (.cells ⟨(parts.toList.map pick).flatten⟩ te)) rfl
            (id := newId o.dst) (ob := .vec e q2.x) (u := .slice (some ⟨w.heap.size, 0, none⟩) len len) (cc := .own (newId o.dst) ((q2.s (newId o.dst)).1 + 1)) (G := w.heap.size :: Fs.flatten)
            (by
              rw [List.nodup_cons]
              refine ⟨fun h => ?_, j.nod⟩
              obtain ⟨⟨i, hi⟩, _⟩ := j.own _ h
              exact Nat.lt_irrefl _ (I.s.ltF i _ hi))
            (by
              intro k hk
              rcases List.mem_cons.1 hk with rfl | hk
              · exact ⟨by omega, fun h => Nat.lt_irrefl _ (j.inv.ltN _ h), fun i h => Nat.lt_irrefl _ (j.inv.ltF i _ h)⟩
              · obtain ⟨⟨i, hi⟩, h1, h2⟩ := j.own k hk
                have := I.s.ltF i k hi
                exact ⟨by omega, h1, h2⟩)
            (by
              intro k hk
              rcases List.mem_cons.1 hk with rfl | hk
              · exact .inr (Nat.le_refl _)
              · exact .inl (j.own k hk).1)
            (fun s'' hd'' g'' e'' hN'' => .inr ⟨w.heap.size, len, ⟨(parts.toList.map pick).flatten⟩, te, parts.toList.map pick, Fs, by rw [hlx], by rw [memOf_alloc_new], by simpa using hflat, by rw [hlx]; exact Nat.le_refl _, (by
                have h1 : len ≤ len * e.sz := Nat.le_mul_of_pos_right _ (Nat.pos_of_ne_zero hne)
                simp only [maxLen]; omega), j.len, j.lenF, fun i h h' h'' => RepT.mono (fun b hb => ⟨hb, hN'' b hb⟩) (fun k hk => by
                  have hkf : k ∈ Fs.flatten := List.mem_flatten.2 ⟨_, List.getElem_mem h'', hk⟩
                  obtain ⟨⟨i, hi⟩, _⟩ := j.own k hkf
                  exact memOf_alloc_old w _ (I.s.ltF i k hi)) (j.rep i h h' h''), List.take_of_length_le (Nat.le_refl _), rfl⟩)
            (fun hd' e => ⟨by simp [Sto.set_same], rfl, fun _ _ => e.symm⟩) (by rw [hid]) (by
              intro i hi'
              show _ = (q.s.set _ _) i
              rw [← x2, ← hid]
              exact (alike_set (M := newId o.dst :: q.m) (s := q.s) (s2 := q2.s) g2 _ _ i hi')) (by
              intro i hi'
              have h1 : i ≠ newId o.dst := fun h => hi' (by rw [h]; exact List.mem_cons_self ..)
              rw [Sto.set_ne _ _ h1]
              exact (j.loc i (by rw [m2]; exact fun h => hi' (List.mem_cons_of_mem _ h))).1)
          exact ⟨_, _, [], s', N2, hd', F2, hrun, L⟩
        · cases h
      · cases h
end

end Go.Proofs.YtndnhbihcnlpaaaDoorSt.Ev

/- The evaluator: functions that are made, rows of zeros, what is written. -/
namespace Go.Proofs.YtndnhbihcnlpaaaDoorSt.Ev
open Go

theorem capsOk_rep {m : Mem} {N : Nat → Prop} : ∀ {τs : Ty} {x : τs.den} {us : List Value} {F : List Nat}, capsOk τs = true → RepAs m N τs x us F → RepT m N τs x us F ∧ F = []
  | .nil, _, us, F, _, h => by
    obtain ⟨rfl, rfl⟩ := h
    exact ⟨⟨rfl, rfl⟩, rfl⟩
  | .cons a r, x, [], F, hc, h => h.elim
  | .cons a r, x, u :: us', F, hc, h => by
    simp only [capsOk, Bool.and_eq_true, Bool.not_eq_true', beq_iff_eq] at hc
    obtain ⟨⟨⟨h1, h2⟩, h3⟩, h4⟩ := hc
    obtain ⟨F1, F2, rfl, hA, hR⟩ := h
    obtain ⟨k1, k2⟩ := capsOk_rep h4 hR
    unfold RepA at hA
    rw [if_neg (by simp [h1])] at hA
    have e1 := RepT.imm h3 hA
    subst e1; subst k2
    exact ⟨⟨[u], us', [], [], rfl, rfl, hA, k1⟩, rfl⟩
  | .bool, _, _, _, hc, _ | .int _, _, _, _, hc, _ | .str, _, _, _, hc, _ | .sl _, _, _, _, hc, _ | .own _, _, _, _, hc, _ | .agg _, _, _, _, hc, _ | .ptr _, _, _, _, hc, _ | .box _, _, _, _, hc, _ | .fn _ _, _, _, _, hc, _ | .tree, _, _, _, hc, _ | .unk, _, _, _, hc, _ | .opq, _, _, _, hc, _ | .map _, _, _, _, hc, _ | .mv _, _, _, _, hc, _ | .imap _, _, _, _, hc, _ | .iter _, _, _, _, hc, _ | .optr _, _, _, _, hc, _ => by simp [capsOk] at hc

section
variable {E : Env} {O : Oracle E} {X : Ctx} {o : Oper} {st : St} {R : Type} {K : Eff → Option R} {r : R}

theorem repVs_map {m : Mem} {N : Nat → Prop} {s : Sto} {hd : Nat → Value} {f : Operand → V} {g : Operand → Value} : ∀ (xs : List Operand), (∀ x ∈ xs, RepV m N s hd (f x) (g x)) → RepVs m N s hd (xs.map f) (xs.map g)
  | [], _ => trivial
  | x :: xs, h => ⟨h x (by simp), repVs_map xs (fun y hy => h y (List.mem_cons_of_mem _ hy))⟩

theorem good_makeFunc {f : Go.Fn} {first captured : Array Operand} (ho : o.op = .makeFunc f first captured) (h : exOp E O o st K = some r) : ∃ e, K e = some r ∧ Good E X o st e := by
  have hx : ∀ p ∈ captured.toList, p ∈ o.op.operands := by
    intro p hp; rw [ho]; simp [Op.operands]; exact .inr (by simpa using hp)
  cases f with
  | func g =>
    simp only [exOp, ho] at h
    split at h
    · rename_i hc
      split at h
      · rename_i q hq
        refine ⟨_, h, Good.make fun st' he hi a w N hd F I => ?_⟩
        have hmap : captured.toList.map st.eval = captured.toList.map st'.eval := List.map_congr_left fun p hp => (he p (hx p hp)).symm
        rw [hmap] at hq
        obtain ⟨q2, hq2, x2, m2, g2⟩ := prFs_alike false _ _ _ _ _ hq q.m (fun i hi => hi) st'.o (fun i hi' => hi i (.inl hi'))
        obtain ⟨N', F', G, j⟩ := prFs_ok false _ _ _ _ _ hq2 I.s (us := captured.toList.map a.eval) (repVs_map _ fun x _ => I.eval x)
        obtain ⟨k1, k2⟩ := capsOk_rep hc.2 j.rep
        subst k2
        have hf : first = #[] := by simpa using hc.1
        refine ⟨.func (.func g) #[] (captured.map a.eval), w, [], q2.s, N', hd, F', by simp [execOp, ho, Instr.makeFunc, hf], ⟨g2, fun i hi => (j.loc i (by rw [m2]; exact hi)).1, Moves.refl w, by simp, j.inv, j.up, j.goes, fun k hk => ?_, fun i k hk => .inl ⟨i, j.sub i k hk⟩, ?_⟩⟩
        · rcases j.new k hk with h | h
          · exact .inl h
          · exact .inr (.inl h)
        · refine ⟨rfl, captured.toList.map a.eval, ?_, ?_⟩
          · congr 1
            congr 1
            apply Array.ext'
            simp
          · rw [← x2]; exact k1
      · cases h
    · cases h
  | _ => simp only [exOp, ho] at h; cases h

theorem range_mod {α : Type} [Inhabited α] (z : List α) (hz : z ≠ []) : ∀ n, (List.range (n * z.length)).map (fun i => z[i % z.length]!) = (List.replicate n z).flatten
  | 0 => by simp
  | n + 1 => by
    have hl : 0 < z.length := List.length_pos_iff.2 hz
    rw [List.replicate_succ', List.flatten_append, ← range_mod z hz n, Nat.add_mul, Nat.one_mul, List.range_add, List.map_append]
    congr 1
    simp only [List.map_map, List.flatten_cons, List.flatten_nil, List.append_nil]
    apply List.ext_getElem
    · simp
    · intro i h1 h2
      have hi : i < z.length := by simpa using h1
      simp [Nat.mul_comm n, Nat.mod_eq_of_lt hi, hi]

theorem good_makeSlice {t : TypeId} {l c : Operand} (ho : o.op = .makeSlice t l c) (h : exOp E O o st K = some r) : ∃ e, K e = some r ∧ Good E X o st e := by
  have hl : l ∈ o.op.operands := by rw [ho]; simp [Op.operands]
  have hc : c ∈ o.op.operands := by rw [ho]; simp [Op.operands]
  simp only [exOp, ho] at h
  split at h
  · cases h
  · rename_i te hte
    have hu := elemP_some hte
    split at h
    · rename_i e zc n0 n0' hty hz hel hec
      obtain ⟨n, hn⟩ : ∃ z : Int, z = n0 := ⟨n0, rfl⟩
      subst hn
      split at h
      · rename_i x s' hp
        split at h
        · rename_i hcond0
          obtain ⟨h1, h2, h2b⟩ := hcond0
          split at h
          rotate_left
          · cases h
          rename_i hcond
          obtain ⟨h3, h4, h5⟩ := hcond
          have h3' : (0 : Int) ≤ n := h3
          have h4' : (bytesP E.P te : Int) * n ≤ 140737488355328 := h4
          obtain ⟨n', hn'⟩ : ∃ z : Int, z = n0' := ⟨n0', rfl⟩
          subst hn'
          have h5' : n = n' := h5
          subst h5'
          refine ⟨_, h, Good.make fun st' he hi a w N hd F I => ?_⟩
          obtain ⟨it, z, hi1, hi2, hi3, hi4⟩ := run_zeroValue hz
          have e1 : a.eval l = .int .i64 n := by have := I.eval l; rw [he l hl, hel] at this; exact imm_int (m := memOf w) (N := N) (s := st'.o) (hd := hd) this
          have e2 : a.eval c = .int .i64 n := by have := I.eval c; rw [he c hc, hec] at this; exact imm_int (m := memOf w) (N := N) (s := st'.o) (hd := hd) this
          have hby : it.bytes = bytesP E.P te := by simp [bytesP, hi1]
          have hsz : it.size = szP E.P te := by simp [szP, hi1]
          have hnb : n ≤ 140737488355328 := by
            have : (1 : Int) ≤ (bytesP E.P te : Int) := by omega
            exact Int.le_trans (by have := Int.mul_le_mul_of_nonneg_right this h3'; simpa using this) h4'
          have hrun := run_make (P := E.P) w t te it z hu hi1 hi2 .i64 .i64 n n h3' (Int.le_refl _) (by rw [hby]; omega) (by omega)
          obtain ⟨p2, hp2, _⟩ := pr_alike false e _ _ _ _ hp [] (by simp) st'.o (by simp)
          obtain ⟨v1, v2, N', F', G, k⟩ := pr_ok false e _ _ _ _ hp2 I.s (vs := z.cells.toList) (constCs_rep hi3)
          have hv2 := RepCs.nil_inv k.rest
          have hvs : z.cells.toList = v1 := by have h0 := k.vs; rw [hv2, List.append_nil] at h0; exact h0
          have hF' : F' = F := by funext i; exact (k.loc i (by simp)).2
          have hG : G = [] := by
            cases G with
            | nil => rfl
            | cons g G => 
              obtain ⟨⟨i, h6⟩, _, h7⟩ := k.own g (by simp)
              rw [hF'] at h7
              exact absurd h6 (h7 i)
          have hN' : ∀ b, N' b → N b := by
            intro b hb
            rcases k.new b hb with h | ⟨i, h⟩
            · exact h
            · rw [← hF'] at h; exact absurd hb (k.inv.sep i b h)
          rw [← hvs, hG] at k
          have hrep : RepT (memOf w) N e x z.cells.toList [] := RepT.mono (fun b hb => ⟨hN' b hb, rfl⟩) (by simp) k.rep
          have hzl : z.cells.toList.length = e.sz := hrep.len
          have hmade : (madeCells z.cells (n.toNat * it.size)).toList = (List.replicate n.toNat z.cells.toList).flatten := by
            rw [hsz, ← h1, ← hzl]
            have := range_mod z.cells.toList (by intro h0; rw [h0] at hzl; exact h2 hzl.symm) n.toNat
            rw [← this]
            simp [madeCells, getElem!_def, Array.getElem!_eq_getD]
            try (intro q _; cases hq : z.cells[q % z.cells.size]? <;> rfl)
          have hfl : (List.replicate n.toNat z.cells.toList).flatten.length = n.toNat * e.sz := by
            rw [flatten_len_of_len (sz := e.sz) _ (by intro y hy; rw [List.eq_of_mem_replicate hy]; exact hzl), List.length_replicate]
          have hid : st'.o (newId o.dst) = st.o (newId o.dst) := hi _ (.inl (by simp))
          obtain ⟨s', N2, hd', F2, L⟩ := left_new (X := X) (st := st') (w := w) (e := { v := .one (.own (newId o.dst) ((st.o (newId o.dst)).1 + 1)), s := st.o.set (newId o.dst) ((st.o (newId o.dst)).1 + 1, .vec e (List.replicate n.toNat x)), w := [newId o.dst] }) I.s I.s (Goes.refl _ _) (fun _ h => h) (fun _ h => .inl h) (fun _ _ h => h) (Moves.refl w) rfl (w' := w.alloc (.cells (madeCells z.cells (n.toNat * it.size)) te)) rfl
            (id := newId o.dst) (ob := .vec e (List.replicate n.toNat x)) (u := .slice (some ⟨w.heap.size, 0, none⟩) n.toNat n.toNat) (cc := .own (newId o.dst) ((st'.o (newId o.dst)).1 + 1)) (G := [w.heap.size])
            (by simp) (by
              intro k hk
              simp at hk; subst hk
              exact ⟨by omega, fun h => Nat.lt_irrefl _ (I.s.ltN _ h), fun i h => Nat.lt_irrefl _ (I.s.ltF i _ h)⟩) (by simp)
            (fun s'' hd'' g'' e'' hN'' => .inr ⟨w.heap.size, n.toNat, madeCells z.cells (n.toNat * it.size), te, List.replicate n.toNat z.cells.toList, List.replicate n.toNat [], by simp, by rw [memOf_alloc_new], by rw [size_madeCells, hsz, h1], by simp, (by simp only [maxLen]; omega), by simp, by simp, fun i h h' h'' => by
                simp only [List.getElem_replicate]
                exact RepT.mono (fun b hb => ⟨hb, hN'' b hb⟩) (by simp) hrep, (by rw [hmade, List.take_of_length_le (Nat.le_refl _)]), (by simp)⟩)
            (fun hd' e => ⟨by simp [Sto.set_same], rfl, fun _ _ => e.symm⟩) (by rw [hid]) (by
              intro i hi'
              simp at hi'; subst hi'
              show _ = (st.o.set _ _) _
              rw [Sto.set_same, Sto.set_same, hid]) (by
              intro i hi'
              simp at hi'
              exact Sto.set_ne _ _ hi')
          exact ⟨_, _, [], s', N2, hd', F2, by simp [execOp, ho, e1, e2, hrun], L⟩
        · cases h
      · cases h
    · cases h
end

end Go.Proofs.YtndnhbihcnlpaaaDoorSt.Ev

/- The evaluator: what is written. -/
namespace Go.Proofs.YtndnhbihcnlpaaaDoorSt.Ev
open Go

theorem Moves.setRow (w : World) (g : Nat) (cs : Array Value) : Moves w (w.setRow g cs) [g] :=
  ⟨rfl, rfl, rfl, by simp, fun k _ hW => setRow_other w g k cs (fun h => hW (by simp [h]))⟩
theorem memOf_setRow_other (w : World) {g k : Nat} (cs : Array Value) (h : k ≠ g) : memOf (w.setRow g cs) k = memOf w k := setRow_other w g k cs h
theorem memOf_setRow_same (w : World) {g : Nat} {old : Array Value} {T : TypeId} (cs : Array Value) (h : memOf w g = some (.cells old T (0, 0))) : memOf (w.setRow g cs) g = some (.cells cs T (0, 0)) := setRow_heap w g old cs T (0, 0) h

/-- A block that an object owns is written. -/
theorem SInv.write {w : World} {N : Nat → Prop} {s : Sto} {hd : Nat → Value} {F : Nat → List Nat} (I : SInv (memOf w) N s hd F w.heap.size) {id : Nat} {o : Obj} {g : Nat} {cs : Array Value} (hF : F id = [g])
    (hg : Goes s (s.set id ((s id).1, o)) hd hd) (ho : (∀ b, N b → N b ∧ memOf (w.setRow g cs) b = memOf w b) → ObjRep (memOf (w.setRow g cs)) N (s.set id ((s id).1, o)) hd o (hd id) [g]) :
    SInv (memOf (w.setRow g cs)) N (s.set id ((s id).1, o)) hd F (w.setRow g cs).heap.size := by
  have hne : ∀ b, N b → b ≠ g := fun b hb e => by subst e; exact I.sep id b (by rw [hF]; simp) hb
  have hN : ∀ b, N b → N b ∧ memOf (w.setRow g cs) b = memOf w b := fun b hb => ⟨hb, memOf_setRow_other w cs (hne b hb)⟩
  have := I.upd (m' := memOf (w.setRow g cs)) (N' := N) (hd' := hd) (size' := (w.setRow g cs).heap.size) id ((s id).1, o) [g] (by simp) hN (fun k hk => ⟨by simpa using I.ltN k hk, fun i _ hi => I.sep i k hi hk, by simpa using hne k hk⟩)
    (fun i hi k hk => memOf_setRow_other w cs (fun e => hi (I.once i id k hk (by rw [hF, e]; simp)))) (by simp) (fun k hk => by
      simp at hk; subst hk
      exact ⟨by simpa using I.ltF id k (by rw [hF]; simp), fun i hi h => hi (I.once i id k h (by rw [hF]; simp))⟩) hg (fun _ _ => rfl) (ho hN)
  have e : (fun i => if i = id then [g] else F i) = F := by
    funext i
    by_cases e : i = id
    · simp [e, hF]
    · simp [e]
  rwa [e] at this

theorem row_put (A x B us : List Value) (off : Nat) (h : off + us.length ≤ x.length) :
    (A ++ (x ++ B)).take (A.length + off) ++ us ++ (A ++ (x ++ B)).drop (A.length + off + us.length) = A ++ ((x.take off ++ us ++ x.drop (off + us.length)) ++ B) := by
  rw [List.take_append, List.take_of_length_le (show A.length ≤ A.length + off by omega), show A.length + off - A.length = off by omega, List.take_append_of_le_length (show off ≤ x.length by omega)]
  rw [List.drop_append, List.drop_eq_nil_of_le (show A.length ≤ A.length + off + us.length by omega), show A.length + off + us.length - A.length = off + us.length by omega, List.drop_append_of_le_length h]
  simp

section
variable {E : Env} {O : Oracle E} {X : Ctx} {o : Oper} {st : St} {R : Type} {K : Eff → Option R} {r : R}

theorem run_storeVar {P : Program} {w : World} {t : TypeId} {g off : Nat} {cur : Array Value} {T : TypeId} {u : Value} {us : List Value} (hs : szP P t ≠ 0) (hu : u.cells = ⟨us⟩) (hl : us.length = szP P t) (h1 : ∀ v ∈ us, v.oneCell' = true)
    (hg : memOf w g = some (.cells cur T (0, 0))) (hc : off + us.length ≤ cur.size) :
    (storeVar t ⟨g, off, none⟩ u).run P w = .ok () (w.setRow g (cur.toList.take off ++ us ++ cur.toList.drop (off + us.length)).toArray) := by
  have := run_storeCells_at P g off T us 0 cur w hg (by simpa using hc) h1
  simp only [Nat.add_zero] at this
  simp [storeVar, run_sizeOf hs, hu, hl, this]

theorem putAt_alike : ∀ (e : Ty) (x : e.den) (off : Nat) (cs : List C) (s : Sto) (q : Pr e.den), putAt e x off cs s = some q → ∀ (M : List Nat), (∀ i ∈ q.m, i ∈ M) → ∀ (s2 : Sto), (∀ i ∈ M, s2 i = s i) →
    ∃ s2', putAt e x off cs s2 = some { x := q.x, rest := q.rest, s := s2', m := q.m } ∧ ∀ i ∈ M, s2' i = q.s i := by
  intro e
  induction e with
  | agg fs ih =>
    intro x off cs s q h M hM s2 hs
    simp only [putAt] at h ⊢
    split at h
    · rename_i ho
      rw [if_pos ho]
      exact pr_alike false fs cs s [] q h M hM s2 hs
    · rename_i ho
      rw [if_neg ho]
      exact ih x off cs s q h M hM s2 hs
  | cons a r iha ihr =>
    intro x off cs s q h M hM s2 hs
    simp only [putAt] at h ⊢
    split at h
    · rename_i ho
      rw [if_pos ho]
      split at h
      · rename_i p hp
        obtain rfl := Option.some.inj h
        obtain ⟨s2', k1, k2⟩ := iha x.1 off cs s p hp M hM s2 hs
        exact ⟨s2', by rw [k1], k2⟩
      · cases h
    · rename_i ho
      rw [if_neg ho]
      split at h
      · rename_i p hp
        obtain rfl := Option.some.inj h
        obtain ⟨s2', k1, k2⟩ := ihr x.2 (off - a.sz) cs s p hp M hM s2 hs
        exact ⟨s2', by rw [k1], k2⟩
      · cases h
  | _ =>
    intro x off cs s q h M hM s2 hs
    simp only [putAt] at h ⊢
    split at h
    · rename_i ho
      rw [if_pos ho]
      exact pr_alike false _ cs s [] q h M hM s2 hs
    · cases h

/-- Data with some cells laid anew, and what goes into them. -/
theorem put_split {m : Mem} {hd : Nat → Value} {size : Nat} {N : Nat → Prop} {s : Sto} {F : Nat → List Nat} (I : SInv m N s hd F size) {cs : List C} {us : List Value} (hcs : RepCs m N s hd cs us) : ∀ (e : Ty) (x : e.den) (es : List Value) (L : List Nat) (off : Nat) (p : Pr e.den), RepT m N e x es L → putAt e x off cs s = some p → p.rest = [] →
    ∃ (τ : Ty) (y : τ.den) (N' : Nat → Prop) (F' : Nat → List Nat) (G : List Nat) (Fa Fb : List Nat), PrOK false m N s hd F size [] τ y [] p.s p.m us us [] N' F' G ∧ (Fa ++ Fb).Sublist L ∧
      ∀ (m2 : Mem) (N2 : Nat → Prop), (∀ b, N' b → N2 b ∧ m2 b = m b) → (∀ k ∈ Fa ++ (G ++ Fb), m2 k = m k) → RepT m2 N2 e p.x (es.take off ++ us ++ es.drop (off + us.length)) (Fa ++ (G ++ Fb)) := by
  have base : ∀ (e : Ty) (es : List Value) (L : List Nat) (off : Nat) (p : Pr e.den), es.length = e.sz → off = 0 ∧ cs.length = e.sz → pr false e cs s [] = some p → p.rest = [] →
      ∃ (τ : Ty) (y : τ.den) (N' : Nat → Prop) (F' : Nat → List Nat) (G : List Nat) (Fa Fb : List Nat), PrOK false m N s hd F size [] τ y [] p.s p.m us us [] N' F' G ∧ (Fa ++ Fb).Sublist L ∧
      ∀ (m2 : Mem) (N2 : Nat → Prop), (∀ b, N' b → N2 b ∧ m2 b = m b) → (∀ k ∈ Fa ++ (G ++ Fb), m2 k = m k) → RepT m2 N2 e p.x (es.take off ++ us ++ es.drop (off + us.length)) (Fa ++ (G ++ Fb)) := by
    intro e es L off p hl ho hp hrest
    obtain ⟨rfl, hlc⟩ := ho
    obtain ⟨v1, v2, N', F', G, k⟩ := pr_ok false e cs s [] p hp I hcs
    rw [hrest] at k
    have hv2 := RepCs.nil_inv k.rest
    have hvs := k.vs
    subst hv2
    rw [List.append_nil] at hvs
    subst hvs
    refine ⟨e, p.x, N', F', G, [], [], k, by simp, fun m2 N2 hN hF => ?_⟩
    have hul := hcs.len
    rw [List.take_zero, Nat.zero_add, List.drop_eq_nil_of_le (by omega)]
    simp only [List.nil_append, List.append_nil]
    exact RepT.mono hN (fun b hb => hF b (by simpa using hb)) k.rep
  intro e
  induction e with
  | agg fs ih =>
    intro x es L off p hr h hrest
    simp only [putAt] at h
    split at h
    · rename_i ho
      exact base fs es L off p hr.len ho h hrest
    · exact ih x es L off p hr h hrest
  | cons a r iha ihr =>
    intro x es L off p hr h hrest
    obtain ⟨c1, c2, F1, F2, rfl, rfl, h1, h2⟩ := hr
    have hl := h1.len
    simp only [putAt] at h
    split at h
    · rename_i ho
      split at h
      · rename_i q hq
        obtain rfl := Option.some.inj h
        obtain ⟨τ, y, N', F', G, Fa, Fb, k1, k2, k3⟩ := iha x.1 c1 F1 off q h1 hq hrest
        refine ⟨τ, y, N', F', G, Fa, Fb ++ F2, k1, by rw [← List.append_assoc]; exact List.Sublist.append k2 (List.Sublist.refl _), fun m2 N2 hN hF => ?_⟩
        have k4 := k3 m2 N2 hN (fun k hk => hF k (by
          rcases List.mem_append.1 hk with h | h
          · exact List.mem_append_left _ h
          · rcases List.mem_append.1 h with h | h
            · exact List.mem_append_right _ (List.mem_append_left _ h)
            · exact List.mem_append_right _ (List.mem_append_right _ (List.mem_append_left _ h))))
        have hlen := k4.len
        simp only [List.length_append, List.length_take, List.length_drop] at hlen
        refine ⟨_, c2, _, F2, ?_, ?_, k4, RepT.mono (fun b hb => hN b (k1.up b hb)) (fun k hk => hF k (List.mem_append_right _ (List.mem_append_right _ (List.mem_append_right _ hk)))) h2⟩
        · rw [List.take_append_of_le_length (by omega), List.drop_append_of_le_length (by omega)]
          simp
        · simp
      · cases h
    · rename_i ho
      split at h
      · rename_i q hq
        obtain rfl := Option.some.inj h
        obtain ⟨τ, y, N', F', G, Fa, Fb, k1, k2, k3⟩ := ihr x.2 c2 F2 (off - a.sz) q h2 hq hrest
        refine ⟨τ, y, N', F', G, F1 ++ Fa, Fb, k1, by rw [List.append_assoc]; exact List.Sublist.append (List.Sublist.refl _) k2, fun m2 N2 hN hF => ?_⟩
        have k4 := k3 m2 N2 hN (fun k hk => hF k (by
          rcases List.mem_append.1 hk with h | h
          · exact List.mem_append_left _ (List.mem_append_right _ h)
          · exact List.mem_append_right _ h))
        refine ⟨c1, _, F1, _, ?_, ?_, RepT.mono (fun b hb => hN b (k1.up b hb)) (fun k hk => hF k (List.mem_append_left _ (List.mem_append_left _ hk))) h1, k4⟩
        · rw [List.take_append, List.take_of_length_le (by omega), List.drop_append, List.drop_eq_nil_of_le (by omega), hl, show off + us.length - a.sz = off - a.sz + us.length by omega]
          simp
        · simp
      · cases h
  | _ =>
    intro x es L off p hr h hrest
    simp only [putAt] at h
    split at h
    · rename_i ho
      exact base _ es L off p hr.len ho h hrest
    · cases h

/-- A block that an object owns beside others is written. -/
theorem SInv.write2 {w : World} {N : Nat → Prop} {s : Sto} {hd : Nat → Value} {F : Nat → List Nat} (I : SInv (memOf w) N s hd F w.heap.size) {id : Nat} {o : Obj} {g : Nat} {cs : Array Value} {Fn : List Nat} (hF : g ∈ F id) (hn : Fn.Nodup) (hFn : ∀ k ∈ Fn, k < w.heap.size ∧ ¬ N k ∧ ∀ i, i ≠ id → k ∉ F i)
    (hg : Goes s (s.set id ((s id).1, o)) hd hd) (ho : (∀ b, N b → N b ∧ memOf (w.setRow g cs) b = memOf w b) → ObjRep (memOf (w.setRow g cs)) N (s.set id ((s id).1, o)) hd o (hd id) Fn) :
    SInv (memOf (w.setRow g cs)) N (s.set id ((s id).1, o)) hd (fun i => if i = id then Fn else F i) (w.setRow g cs).heap.size := by
  have hne : ∀ b, N b → b ≠ g := fun b hb e => by subst e; exact I.sep id b hF hb
  have hN : ∀ b, N b → N b ∧ memOf (w.setRow g cs) b = memOf w b := fun b hb => ⟨hb, memOf_setRow_other w cs (hne b hb)⟩
  exact I.upd (m' := memOf (w.setRow g cs)) (N' := N) (hd' := hd) (size' := (w.setRow g cs).heap.size) id ((s id).1, o) Fn (by simp) hN (fun k hk => ⟨by simpa using I.ltN k hk, fun i _ hi => I.sep i k hi hk, fun h => (hFn k h).2.1 hk⟩)
    (fun i hi k hk => memOf_setRow_other w cs (fun e => hi (I.once i id k hk (by rw [e]; exact hF)))) hn (fun k hk => ⟨by simpa using (hFn k hk).1, (hFn k hk).2.2⟩) hg (fun _ _ => rfl) (ho hN)

theorem good_store {t : TypeId} {x y : Operand} (ho : o.op = .store t x y) (h : exOp E O o st K = some r) : ∃ e, K e = some r ∧ Good E X o st e := by
  have hx : x ∈ o.op.operands := by rw [ho]; simp [Op.operands]
  have hy : y ∈ o.op.operands := by rw [ho]; simp [Op.operands]
  simp only [exOp, ho] at h
  replace h := one_some h
  obtain ⟨c, hc, h⟩ := h
  split at h
  · rename_i hlen
    obtain ⟨hl1, hl2⟩ := hlen
    have hsz : szP E.P t ≠ 0 := by rw [← hl1]; exact hl2
    split at h
    · rename_i id ver off
      split at h
      · rename_i v cs hs
        split at h
        · rename_i hcond
          obtain ⟨rfl, hfit⟩ := hcond
          refine ⟨_, h, Good.write rfl fun st' he hi a w N hd F I => ?_⟩
          have hid := hi id (.inl (by simp)); rw [hs] at hid
          have hob := I.s.obj id; rw [hid] at hob
          obtain ⟨g, vs, T, h1, h2, h3, h4⟩ := hob
          have hu := I.eval x; rw [he x hx, hc] at hu
          obtain ⟨g', e1, e2⟩ := hu.2.2 (by rw [hid]) (by rw [hid]; rfl)
          rw [h1] at e1
          injection e1 with e1; injection e1 with e1; injection e1 with e1
          subst e1
          have hv := I.eval y; rw [he y hy] at hv
          obtain ⟨us, u1, u2⟩ := RepV.cells hv (fun h0 => hl2 (by rw [h0]; rfl))
          have hul := u2.len
          have hcl := h3.len
          have hgo : Goes st'.o (st'.o.set id ((st'.o id).1, .box (setCs cs off (st.eval y).cells))) hd hd := Goes.set_like id _ (by simp [Obj.isV]) (fun _ => by rw [hid]; rfl)
          have hrun := run_storeVar (P := E.P) (w := w) hsz u1 (by rw [hul, hl1]) (RepCs.one' u2) h2 (off := off) (by simp; omega)
          have hset : st'.o.set id ((st'.o id).1, .box (setCs cs off (st.eval y).cells)) = st'.o.set id ((st.o id).1, .box (setCs cs off (st.eval y).cells)) := by rw [hid, hs]
          refine ⟨_, [g], st'.o.set id ((st'.o id).1, .box (setCs cs off (st.eval y).cells)), N, hd, F, by simp [execOp, ho, Instr.storeAt, Instr.sureAddr, e2, hrun]; rfl, ⟨fun i hi' => ?_, fun i hi' => ?_, Moves.setRow w g _, ?_, I.s.write h4 hgo ?_, fun _ h => h, hgo, fun _ h => .inl h, fun i k hk => .inl ⟨i, hk⟩, trivial⟩⟩
          · simp at hi'; subst hi'
            show _ = (st.o.set _ _) _
            rw [Sto.set_same, Sto.set_same, hid]
          · simp at hi'
            exact Sto.set_ne _ _ hi'
          · intro k hk
            simp at hk; subst hk
            exact ⟨id, by rw [h4]; simp⟩
          · intro hN
            refine ⟨g, _, T, h1, memOf_setRow_same w _ h2, ?_, rfl⟩
            have := RepCs.goes hN hgo (RepCs.setCs h3 u2 off)
            simpa using this
        · cases h
      · cases h
    · rename_i id ver i off
      split at h
      · rename_i v e xs hs
        split at h
        · rename_i hcond
          obtain ⟨rfl, himm⟩ := hcond
          obtain ⟨z, hz, h⟩ := Option.bind_eq_some_iff.1 h
          split at h
          · rename_i hfit
            split at h
            · rename_i x' s' mm hp
              split at h
              · cases h
              · rename_i hnm
                refine ⟨_, h, Good.write rfl fun st' he hi a w N hd F I => ?_⟩
                have hid := hi id (.inl (by simp)); rw [hs] at hid
                have hu := I.eval x; rw [he x hx, hc] at hu
                obtain ⟨g, len, cap, e1, e2⟩ := hu.2.2 (by rw [hid]) (by rw [hid]; rfl)
                rw [hid] at e2
                have e2' : a.eval x = .pointer (some ⟨g, i * e.sz + off, none⟩) := e2
                obtain ⟨p2, hp2, hp3⟩ := pr_alike false e _ _ _ _ hp (id :: mm) (fun i hi => List.mem_cons_of_mem _ hi) st'.o (fun i hi' => hi i (.inl hi'))
                have hv := I.eval y; rw [he y hy] at hv
                obtain ⟨us, u1, u2⟩ := RepV.cells hv (fun h0 => hl2 (by rw [h0]; rfl))
                have hul := u2.len
                have hob := I.s.obj id; rw [hid] at hob
                obtain ⟨hilt, hzx⟩ := List.getElem?_eq_some_iff.1 hz
                rcases hob with ⟨_, _, q2, _⟩ | ⟨g', cap', c, T, es, Fs, q1, q2, q3, q4, q5, q6, q7, q8, q9, q10⟩
                · rw [q2] at hilt; simp at hilt
                · rw [e1] at q1
                  simp at q1
                  obtain ⟨rfl, rfl, rfl⟩ := q1
                  have hF0 : ∀ (j : Nat) (h : j < Fs.length), Fs[j] = [] := fun j hj => RepT.imm himm (q8 j (by omega) (by omega) hj)
                  have hFl : Fs.flatten = [] := by
                    apply List.eq_nil_iff_forall_not_mem.2
                    intro k hk
                    obtain ⟨l, hl, hk⟩ := List.mem_flatten.1 hk
                    obtain ⟨j, hj, rfl⟩ := List.mem_iff_getElem.1 hl
                    rw [hF0 j hj] at hk; simp at hk
                  rw [hFl] at q10
                  have hri := q8 i hilt (by omega) (by omega)
                  rw [hF0 i (by omega), hzx] at hri
                  have hex : RepCs (memOf w) N st'.o hd (ex e z) es[i] := ex_rep himm hri
                  have hexl := hex.len
                  obtain ⟨v1, v2, N', F', G, k⟩ := pr_ok false e _ _ _ _ hp2 I.s (RepCs.setCs hex u2 off)
                  have hv2 := RepCs.nil_inv k.rest
                  have hvs : es[i].take off ++ us ++ es[i].drop (off + us.length) = v1 := by have h0 := k.vs; rw [hv2, List.append_nil] at h0; exact h0
                  have hG := RepT.imm himm k.rep
                  have hloc : p2 id = st'.o id ∧ F' id = F id := k.loc id (by simpa using hnm)
                  have hlen : ∀ y ∈ es, y.length = e.sz := by
                    intro y hy
                    obtain ⟨j, hj, rfl⟩ := List.mem_iff_getElem.1 hy
                    exact (q8 j (by omega) hj (by omega)).len
                  have hfl := flatten_len_of_len es hlen
                  have hcs : c.toList = es.flatten ++ c.toList.drop (es.length * e.sz) := by
                    conv => lhs; rw [← List.take_append_drop (es.length * e.sz) c.toList]
                    rw [← hfl, q9]
                  have hzl : es[i].length = e.sz := hlen _ (List.getElem_mem _)
                  have hrow : (i + 1) * e.sz ≤ es.length * e.sz := Nat.mul_le_mul_right _ (by omega)
                  rw [Nat.add_mul, Nat.one_mul] at hrow
                  have hcap : es.length * e.sz ≤ c.size := by rw [q3, q6]; exact Nat.mul_le_mul_right _ q4
                  have hrun := run_storeVar (P := E.P) (w := w) hsz u1 (by rw [hul, hl1]) (RepCs.one' u2) q2 (off := i * e.sz + off) (by omega)
                  have hnew : c.toList.take (i * e.sz + off) ++ us ++ c.toList.drop (i * e.sz + off + us.length) = (es.set i v1).flatten ++ c.toList.drop (es.length * e.sz) := by
                    have hes : es = es.take i ++ es[i] :: es.drop (i + 1) := by
                      rw [← List.drop_eq_getElem_cons (by omega), List.take_append_drop]
                    have hA : (es.take i).flatten.length = i * e.sz := by
                      rw [flatten_len_of_len _ (fun y hy => hlen y (List.mem_of_mem_take hy)), List.length_take]
                      congr 1; omega
                    have hset : (es.set i v1).flatten = (es.take i).flatten ++ (v1 ++ (es.drop (i + 1)).flatten) := by
                      rw [List.set_eq_take_append_cons_drop, if_pos (by omega)]; simp
                    have hfe : es.flatten = (es.take i).flatten ++ (es[i] ++ (es.drop (i + 1)).flatten) := by
                      have := congrArg List.flatten hes
                      rw [List.flatten_append, List.flatten_cons] at this
                      exact this
                    have hc2 : c.toList = (es.take i).flatten ++ (es[i] ++ ((es.drop (i + 1)).flatten ++ c.toList.drop (es.length * e.sz))) :=
                      hcs.trans (by rw [hfe]; simp only [List.append_assoc])
                    have := row_put (es.take i).flatten es[i] ((es.drop (i + 1)).flatten ++ c.toList.drop (es.length * e.sz)) us off (by omega)
                    rw [hA, ← hc2, hvs] at this
                    rw [this, hset]
                    simp
                  have hv1 := k.rep.len
                  have hgo : Goes p2 (p2.set id ((p2 id).1, .vec e (xs.set i x'))) hd hd := Goes.set_like id _ (fun _ => by rw [hloc.1, hid]; exact ⟨rfl, rfl, by simp [Obj.vlen]⟩) (by simp [Obj.isB])
                  refine ⟨w.setRow g (c.toList.take (i * e.sz + off) ++ us ++ c.toList.drop (i * e.sz + off + us.length)).toArray, [g], p2.set id ((p2 id).1, .vec e (xs.set i x')), N', hd, F', by simp [execOp, ho, Instr.storeAt, Instr.sureAddr, e2', hrun], ⟨fun j hj => ?_, fun j hj => ?_, Moves.setRow w g _, ?_, k.inv.write (by rw [hloc.2, q10]) hgo ?_, k.up, k.goes.trans hgo, fun b hb => ?_, fun j b hb => .inl ⟨j, k.sub j b hb⟩, trivial⟩⟩
                  · show _ = (s'.set id _) j
                    rw [hloc.1, hid]
                    exact alike_set (M := id :: mm) hp3 id _ j hj
                  · have h1 : j ≠ id := fun h => hj (by rw [h]; exact List.mem_cons_self ..)
                    rw [Sto.set_ne _ _ h1]
                    exact (k.loc j (fun h => hj (List.mem_cons_of_mem _ h))).1
                  · intro b hb
                    simp at hb; subst hb
                    exact ⟨id, by rw [q10]; simp⟩
                  · intro hN
                    have hmem := memOf_setRow_same w (c.toList.take (i * e.sz + off) ++ us ++ c.toList.drop (i * e.sz + off + us.length)).toArray q2
                    have hsz' : (c.toList.take (i * e.sz + off) ++ us ++ c.toList.drop (i * e.sz + off + us.length)).length = c.size := by
                      simp only [List.length_append, List.length_take, List.length_drop, Array.length_toList]; omega
                    have hNg : ∀ b, N b → memOf (w.setRow g (c.toList.take (i * e.sz + off) ++ us ++ c.toList.drop (i * e.sz + off + us.length)).toArray) b = memOf w b := fun b hb => (hN b (k.up b hb)).2
                    refine .inr ⟨g, cap, _, T, es.set i v1, Fs, by simpa using e1, hmem, ?_, by simpa using q4, q5, by simp [q6], by simp [q7], fun j hj hj' hj'' => ?_, ?_, by rw [hFl]⟩
                    · simp only [List.size_toArray]
                      rw [hsz', q3]
                    · rw [hF0 j hj'']
                      by_cases hji : j = i
                      · subst hji
                        simp only [List.getElem_set_self]
                        rw [← hG]
                        exact RepT.mono hN (fun b hb => by rw [hG] at hb; simp at hb) k.rep
                      · simp only [List.getElem_set_ne (Ne.symm hji)]
                        have := q8 j (by simpa using hj) (by simpa using hj') hj''
                        rw [hF0 j hj''] at this
                        exact RepT.mono (fun b hb => ⟨k.up b hb, hNg b hb⟩) (by simp) this
                    · simp only
                      rw [hnew]
                      simp
                  · rcases k.new b hb with h | h
                    · exact .inl h
                    · exact .inr (.inl h)
            · cases h
          · cases h
        · split at h
          · rename_i hv
            subst hv
            obtain ⟨z, hz, h⟩ := Option.bind_eq_some_iff.1 h
            split at h
            · rename_i x' s' mm hp
              split at h
              · cases h
              · rename_i hnm
                refine ⟨_, h, Good.write rfl fun st' he hi a w N hd F I => ?_⟩
                have hid := hi id (.inl (by simp)); rw [hs] at hid
                have hu := I.eval x; rw [he x hx, hc] at hu
                obtain ⟨g, len, cap, e1, e2⟩ := hu.2.2 (by rw [hid]) (by rw [hid]; rfl)
                rw [hid] at e2
                have e2' : a.eval x = .pointer (some ⟨g, i * e.sz + off, none⟩) := e2
                obtain ⟨p2, hp2, hp3⟩ := putAt_alike e z off _ _ _ hp (id :: mm) (fun i hi => List.mem_cons_of_mem _ hi) st'.o (fun i hi' => hi i (.inl hi'))
                have hv := I.eval y; rw [he y hy] at hv
                obtain ⟨us, u1, u2⟩ := RepV.cells hv (fun h0 => hl2 (by rw [h0]; rfl))
                have hul := u2.len
                have hob := I.s.obj id; rw [hid] at hob
                obtain ⟨hilt, hzx⟩ := List.getElem?_eq_some_iff.1 hz
                rcases hob with ⟨_, _, q2, _⟩ | ⟨g', cap', c, T, es, Fs, q1, q2, q3, q4, q5, q6, q7, q8, q9, q10⟩
                · rw [q2] at hilt; simp at hilt
                · rw [e1] at q1
                  simp at q1
                  obtain ⟨rfl, rfl, rfl⟩ := q1
                  have hri := q8 i hilt (by omega) (by omega)
                  rw [hzx] at hri
                  obtain ⟨τ, yv, N', F', G, Fa, Fb, k, ksub, kput⟩ := put_split I.s u2 e z es[i] Fs[i] off _ hri hp2 rfl
                  have hloc : p2 id = st'.o id ∧ F' id = F id := k.loc id (by simpa using hnm)
                  have hlen : ∀ y ∈ es, y.length = e.sz := by
                    intro y hy
                    obtain ⟨j, hj, rfl⟩ := List.mem_iff_getElem.1 hy
                    exact (q8 j (by omega) hj (by omega)).len
                  have hput0 := kput (memOf w) N' (fun b hb => ⟨hb, rfl⟩) (fun _ _ => rfl)
                  have hv1 := hput0.len
                  have hfit : off + us.length ≤ es[i].length := by
                    simp only [List.length_append, List.length_take, List.length_drop, hlen _ (List.getElem_mem (show i < es.length by omega))] at hv1 ⊢
                    omega
                  obtain ⟨v1, hvs⟩ : ∃ v1, es[i].take off ++ us ++ es[i].drop (off + us.length) = v1 := ⟨_, rfl⟩
                  rw [hvs] at kput
                  have hfl := flatten_len_of_len es hlen
                  have hcs : c.toList = es.flatten ++ c.toList.drop (es.length * e.sz) := by
                    conv => lhs; rw [← List.take_append_drop (es.length * e.sz) c.toList]
                    rw [← hfl, q9]
                  have hzl : es[i].length = e.sz := hlen _ (List.getElem_mem _)
                  have hrow : (i + 1) * e.sz ≤ es.length * e.sz := Nat.mul_le_mul_right _ (by omega)
                  rw [Nat.add_mul, Nat.one_mul] at hrow
                  have hcap : es.length * e.sz ≤ c.size := by rw [q3, q6]; exact Nat.mul_le_mul_right _ q4
                  have hrun := run_storeVar (P := E.P) (w := w) hsz u1 (by rw [hul, hl1]) (RepCs.one' u2) q2 (off := i * e.sz + off) (by omega)
                  have hnew : c.toList.take (i * e.sz + off) ++ us ++ c.toList.drop (i * e.sz + off + us.length) = (es.set i v1).flatten ++ c.toList.drop (es.length * e.sz) := by
                    have hes : es = es.take i ++ es[i] :: es.drop (i + 1) := by
                      rw [← List.drop_eq_getElem_cons (by omega), List.take_append_drop]
                    have hA : (es.take i).flatten.length = i * e.sz := by
                      rw [flatten_len_of_len _ (fun y hy => hlen y (List.mem_of_mem_take hy)), List.length_take]
                      congr 1; omega
                    have hset := flatten_set es i v1 (by omega)
                    have hfe := flatten_at es i (by omega)
                    have hc2 : c.toList = (es.take i).flatten ++ (es[i] ++ ((es.drop (i + 1)).flatten ++ c.toList.drop (es.length * e.sz))) :=
                      hcs.trans (by rw [hfe]; simp only [List.append_assoc])
                    have := row_put (es.take i).flatten es[i] ((es.drop (i + 1)).flatten ++ c.toList.drop (es.length * e.sz)) us off (by omega)
                    rw [hA, ← hc2, hvs] at this
                    rw [this, hset]
                    simp
                  have hgo : Goes p2 (p2.set id ((p2 id).1, .vec e (xs.set i x'))) hd hd := Goes.set_like id _ (fun _ => by rw [hloc.1, hid]; exact ⟨rfl, rfl, by simp [Obj.vlen]⟩) (by simp [Obj.isB])
                  have hgF : g ∈ F id := by rw [q10]; simp
                  have hFid : ∀ l ∈ Fs, ∀ b ∈ l, b ∈ F id := fun l hl b hb => by rw [q10]; exact List.mem_cons_of_mem _ (List.mem_flatten.2 ⟨l, hl, hb⟩)
                  have hnod := I.s.nodup id
                  rw [q10] at hnod
                  have hgn : ∀ l ∈ Fs, g ∉ l := fun l hl hb => (List.nodup_cons.1 hnod).1 (List.mem_flatten.2 ⟨l, hl, hb⟩)
                  have hGid : ∀ b ∈ G, b ∉ F id := fun b hb => by rw [← hloc.2]; exact (k.own b hb).2.2 id
                  have hFab : ∀ b ∈ Fa ++ Fb, b ∈ Fs[i] := fun b hb => ksub.subset hb
                  have hset2 := flatten_set Fs i (Fa ++ (G ++ Fb)) (by omega)
                  have hat2 := flatten_at Fs i (show i < Fs.length by omega)
                  obtain ⟨Fn, hFn⟩ : ∃ Fn, Fn = g :: (Fs.set i (Fa ++ (G ++ Fb))).flatten := ⟨_, rfl⟩
                  have hFnm : ∀ b ∈ Fn, b ∈ F id ∨ b ∈ G := by
                    intro b hb
                    rw [hFn, hset2] at hb
                    simp only [List.mem_cons, List.mem_append] at hb
                    rcases hb with rfl | hb | (hb | hb | hb) | hb
                    · exact .inl hgF
                    · obtain ⟨l, hl, hb⟩ := List.mem_flatten.1 hb
                      exact .inl (hFid l (List.mem_of_mem_take hl) b hb)
                    · exact .inl (hFid _ (List.getElem_mem _) b (hFab b (List.mem_append_left _ hb)))
                    · exact .inr hb
                    · exact .inl (hFid _ (List.getElem_mem _) b (hFab b (List.mem_append_right _ hb)))
                    · obtain ⟨l, hl, hb⟩ := List.mem_flatten.1 hb
                      exact .inl (hFid l (List.mem_of_mem_drop hl) b hb)
                  have hFnn : Fn.Nodup := by
                    have hp1 : (Fs.set i (Fa ++ (G ++ Fb))).flatten.Perm (G ++ ((Fs.take i).flatten ++ ((Fa ++ Fb) ++ (Fs.drop (i + 1)).flatten))) := by
                      rw [hset2, List.perm_iff_count]
                      intro b
                      simp only [List.count_append]
                      omega
                    have hsubl : ((Fs.take i).flatten ++ ((Fa ++ Fb) ++ (Fs.drop (i + 1)).flatten)).Sublist Fs.flatten := by
                      rw [hat2]
                      exact List.Sublist.append (List.Sublist.refl _) (List.Sublist.append ksub (List.Sublist.refl _))
                    rw [hFn, List.nodup_cons]
                    refine ⟨fun hm => ?_, hp1.nodup_iff.2 (List.nodup_append.2 ⟨k.nod, hsubl.nodup (List.nodup_cons.1 hnod).2, fun b hb b' hb' e => ?_⟩)⟩
                    · rcases List.mem_append.1 (hp1.subset hm) with hm | hm
                      · exact hGid g hm hgF
                      · exact (List.nodup_cons.1 hnod).1 (hsubl.subset hm)
                    · subst e
                      exact hGid b hb (by rw [q10]; exact List.mem_cons_of_mem _ (hsubl.subset hb'))
                  have hFnok : ∀ b ∈ Fn, b < w.heap.size ∧ ¬ N' b ∧ ∀ j, j ≠ id → b ∉ F' j := by
                    intro b hb
                    rcases hFnm b hb with hb | hb
                    · exact ⟨I.s.ltF id b hb, k.inv.sep id b (by rw [hloc.2]; exact hb), fun j hj hb' => hj (k.inv.once j id b hb' (by rw [hloc.2]; exact hb))⟩
                    · obtain ⟨⟨j0, hj0⟩, r1, r2⟩ := k.own b hb
                      exact ⟨I.s.ltF j0 b hj0, r1, fun j _ => r2 j⟩
                  refine ⟨w.setRow g (c.toList.take (i * e.sz + off) ++ us ++ c.toList.drop (i * e.sz + off + us.length)).toArray, [g], p2.set id ((p2 id).1, .vec e (xs.set i x')), N', hd, fun j => if j = id then Fn else F' j, by simp [execOp, ho, Instr.storeAt, Instr.sureAddr, e2', hrun], ⟨fun j hj => ?_, fun j hj => ?_, Moves.setRow w g _, ?_, k.inv.write2 (by rw [hloc.2]; exact hgF) hFnn hFnok hgo ?_, k.up, k.goes.trans hgo, fun b hb => ?_, fun j b hb => ?_, trivial⟩⟩
                  · show _ = (s'.set id _) j
                    rw [hloc.1, hid]
                    exact alike_set (M := id :: mm) hp3 id _ j hj
                  · have h1 : j ≠ id := fun h => hj (by rw [h]; exact List.mem_cons_self ..)
                    rw [Sto.set_ne _ _ h1]
                    exact (k.loc j (fun h => hj (List.mem_cons_of_mem _ h))).1
                  · intro b hb
                    simp at hb; subst hb
                    exact ⟨id, hgF⟩
                  · intro hN
                    have hmem := memOf_setRow_same w (c.toList.take (i * e.sz + off) ++ us ++ c.toList.drop (i * e.sz + off + us.length)).toArray q2
                    have hsz' : (c.toList.take (i * e.sz + off) ++ us ++ c.toList.drop (i * e.sz + off + us.length)).length = c.size := by
                      simp only [List.length_append, List.length_take, List.length_drop, Array.length_toList]; omega
                    have hother : ∀ b, b ≠ g → memOf (w.setRow g (c.toList.take (i * e.sz + off) ++ us ++ c.toList.drop (i * e.sz + off + us.length)).toArray) b = memOf w b := fun b hb => memOf_setRow_other w _ hb
                    rw [hFn]
                    refine .inr ⟨g, cap, _, T, es.set i v1, Fs.set i (Fa ++ (G ++ Fb)), by simpa using e1, hmem, ?_, by simpa using q4, q5, by simp [q6], by simp [q7], fun j hj hj' hj'' => ?_, ?_, rfl⟩
                    · simp only [List.size_toArray]
                      rw [hsz', q3]
                    · by_cases hji : j = i
                      · subst hji
                        simp only [List.getElem_set_self]
                        refine kput _ _ hN (fun b hb => hother b (fun hbg => ?_))
                        subst hbg
                        rcases List.mem_append.1 hb with hb | hb
                        · exact hgn _ (List.getElem_mem _) (hFab b (List.mem_append_left _ hb))
                        · rcases List.mem_append.1 hb with hb | hb
                          · exact hGid b hb hgF
                          · exact hgn _ (List.getElem_mem _) (hFab b (List.mem_append_right _ hb))
                      · simp only [List.getElem_set_ne (Ne.symm hji)]
                        have := q8 j (by simpa using hj) (by simpa using hj') (by simpa using hj'')
                        exact RepT.mono (fun b hb => ⟨k.up b hb, (hN b (k.up b hb)).2⟩) (fun b hb => hother b (fun hbg => by subst hbg; exact hgn _ (List.getElem_mem _) hb)) this
                    · simp only
                      rw [hnew]
                      simp
                  · rcases k.new b hb with h | h
                    · exact .inl h
                    · exact .inr (.inl h)
                  · by_cases hj : j = id
                    · simp only [hj, if_true] at hb
                      rcases hFnm b hb with h | h
                      · exact .inl ⟨id, h⟩
                      · exact .inl (k.own b h).1
                    · simp only [hj, if_false] at hb
                      exact .inl ⟨j, k.sub j b hb⟩
            · cases h
          · cases h
      · cases h
    · cases h
  · cases h

/-- A map's entries as the data tell. -/
def RepEs (m : Mem) (N : Nat → Prop) (v : Ty) : List (Int × v.den) → List MapEntry → Prop
  | [], [] => True
  | p :: xs, e :: es => e.key = .int .i64 p.1 ∧ RepT m N v p.2 [e.val] [] ∧ RepEs m N v xs es
  | _, _ => False
theorem RepEs.of {m : Mem} {N : Nat → Prop} {v : Ty} : ∀ {xs : List (Int × v.den)} {es : List MapEntry}, es.length = xs.length → (∀ (i : Nat) (h : i < xs.length) (h' : i < es.length), es[i].key = .int .i64 xs[i].1 ∧ RepT m N v xs[i].2 [es[i].val] []) → RepEs m N v xs es
  | [], [], _, _ => trivial
  | p :: xs, e :: es, hl, h => ⟨(h 0 (by simp) (by simp)).1, (h 0 (by simp) (by simp)).2, RepEs.of (by simpa using hl) (fun i h1 h2 => by have := h (i + 1) (by simpa using h1) (by simpa using h2); simp only [List.getElem_cons_succ] at this; exact this)⟩
  | [], _ :: _, hl, _ => by simp at hl
  | _ :: _, [], hl, _ => by simp at hl
theorem RepEs.to {m : Mem} {N : Nat → Prop} {v : Ty} : ∀ {xs : List (Int × v.den)} {es : List MapEntry}, RepEs m N v xs es → es.length = xs.length ∧ ∀ (i : Nat) (h : i < xs.length) (h' : i < es.length), es[i].key = .int .i64 xs[i].1 ∧ RepT m N v xs[i].2 [es[i].val] []
  | [], [], _ => ⟨rfl, fun i h => absurd h (by simp)⟩
  | p :: xs, e :: es, ⟨h1, h2, h3⟩ => by
    obtain ⟨k1, k2⟩ := RepEs.to h3
    refine ⟨by simp [k1], fun i h h' => ?_⟩
    cases i with
    | zero => exact ⟨h1, h2⟩
    | succ i => simpa using k2 i (by simpa using h) (by simpa using h')
theorem RepEs.keys {m : Mem} {N : Nat → Prop} {v : Ty} : ∀ {xs : List (Int × v.den)} {es : List MapEntry}, RepEs m N v xs es → ∀ x ∈ es, MapKept.IsKey (.int .i64) x.key
  | [], [], _, x, hx => by simp at hx
  | p :: xs, e :: es, ⟨h1, _, h3⟩, x, hx => by
    rcases List.mem_cons.1 hx with rfl | hx
    · rw [h1]; rfl
    · exact RepEs.keys h3 x hx

theorem RepEs.app {m : Mem} {N : Nat → Prop} {v : Ty} : ∀ {xs ys : List (Int × v.den)} {es fs : List MapEntry}, RepEs m N v xs es → RepEs m N v ys fs → RepEs m N v (xs ++ ys) (es ++ fs)
  | [], _, [], _, _, h => h
  | _ :: _, _, _ :: _, _, ⟨h1, h2, h3⟩, h => ⟨h1, h2, RepEs.app h3 h⟩
/-- What a search finds. -/
theorem RepEs.find {m : Mem} {N : Nat → Prop} {v : Ty} (k : Int) (z : v.den) : ∀ {xs : List (Int × v.den)} {es : List MapEntry} (i : Nat), RepEs m N v xs es →
    (Instr.findNow (.int .i64) (.int .i64 k) es i = some none ∧ mget xs k z = z ∧ mhas xs k = false ∧ (∀ y, mput xs k y = xs ++ [(k, y)])) ∨
    ∃ j e, Instr.findNow (.int .i64) (.int .i64 k) es i = some (some (i + j, e.val)) ∧ es[j]? = some e ∧ e.key = .int .i64 k ∧ RepT m N v (mget xs k z) [e.val] [] ∧ mhas xs k = true ∧
      (∀ (y : v.den) (u : Value), RepT m N v y [u] [] → RepEs m N v (mput xs k y) (es.modify j fun e => { e with key := .int .i64 k, val := u }))
  | [], [], i, _ => .inl ⟨rfl, rfl, rfl, fun _ => rfl⟩
  | p :: xs, e :: es, i, ⟨h1, h2, h3⟩ => by
    obtain ⟨a, b⟩ := p
    simp only at h1 h2
    by_cases hak : a = k
    · subst hak
      refine .inr ⟨0, e, by simp [Instr.findNow, h1, Instr.sameNow], rfl, h1, by simpa [mget] using h2, by simp [mhas], fun y u hu => ?_⟩
      simp only [mput, if_pos, List.modify_zero_cons]
      exact ⟨rfl, hu, h3⟩
    · have hne : (k == a) = false := by simp; exact fun h => hak h.symm
      rcases RepEs.find k z (i + 1) h3 with ⟨f1, f2, f3, f4⟩ | ⟨j, e', f1, f2, f3, f4, f5, f6⟩
      · exact .inl ⟨by simp [Instr.findNow, h1, Instr.sameNow, hne, f1], by simp [mget, hak, f2], by simp [mhas, hak, f3], fun y => by simp [mput, hak, f4 y]⟩
      · refine .inr ⟨j + 1, e', by simp [Instr.findNow, h1, Instr.sameNow, hne, f1]; omega, by simpa using f2, f3, by simpa [mget, hak] using f4, by simp [mhas, hak, f5], fun y u hu => ?_⟩
        simp only [mput, if_neg hak, List.modify_succ_cons]
        exact ⟨h1, h2, f6 y u hu⟩

theorem mhas_mem {α : Type} : ∀ (xs : List (Int × α)) (k : Int), mhas xs k = true ↔ k ∈ xs.map Prod.fst
  | [], k => by simp [mhas]
  | (a, b) :: r, k => by
    simp only [mhas, List.map_cons, List.mem_cons]
    by_cases h : a = k
    · simp [h]
    · rw [if_neg h, mhas_mem r k]
      constructor
      · exact .inr
      · rintro (rfl | h')
        · exact absurd rfl h
        · exact h'
theorem mput_keys {α : Type} : ∀ (xs : List (Int × α)) (k : Int) (y : α), mhas xs k = true → (mput xs k y).map Prod.fst = xs.map Prod.fst
  | [], k, y, h => by simp [mhas] at h
  | (a, b) :: r, k, y, h => by
    simp only [mput]
    by_cases e : a = k
    · rw [if_pos e]; rfl
    · rw [if_neg e, List.map_cons, List.map_cons, mput_keys r k y (by simpa [mhas, e] using h)]
theorem map_modify_same {α β : Type} (g : α → β) (f : α → α) (h : ∀ e, g (f e) = g e) : ∀ (l : List α) (j : Nat), (l.modify j f).map g = l.map g
  | [], j => by cases j <;> rfl
  | a :: r, 0 => by simp [h]
  | a :: r, j + 1 => by simp [map_modify_same g f h r j]
theorem MapOk.push {ks : List Int} {es : Array MapEntry} {clock : Nat} (h : MapOk ks es clock) {k : Int} (hk : k ∉ ks) (u v : Value) : MapOk (ks ++ [k]) (es.push { key := u, val := v, born := clock }) (clock + 1) := by
  obtain ⟨h1, h2, h3⟩ := h
  refine ⟨?_, ?_, ?_⟩
  · rw [List.nodup_append]
    exact ⟨h1, by simp, fun a ha b hb => by simp at hb; subst hb; intro e; subst e; exact hk ha⟩
  · intro x hx
    rw [Array.toList_push, List.mem_append] at hx
    rcases hx with hx | hx
    · have := h2 x hx; omega
    · simp at hx; subst hx; simp
  · rw [Array.toList_push, List.map_append, List.nodup_append]
    refine ⟨h3, by simp, fun a ha b hb => ?_⟩
    simp at hb; subst hb
    obtain ⟨x, hx, rfl⟩ := List.mem_map.1 ha
    have := h2 x hx; omega
theorem MapOk.modify {ks ks' : List Int} {es : Array MapEntry} {clock : Nat} (h : MapOk ks es clock) (hk : ks' = ks) (j : Nat) (f : MapEntry → MapEntry) (hf : ∀ e, (f e).born = e.born) : MapOk ks' (es.modify j f) clock := by
  obtain ⟨h1, h2, h3⟩ := h
  subst hk
  have hm : (es.modify j f).toList.map (·.born) = es.toList.map (·.born) := by
    rw [Array.toList_modify]; exact map_modify_same _ _ hf _ _
  refine ⟨h1, fun x hx => ?_, by rw [hm]; exact h3⟩
  have : x.born ∈ es.toList.map (·.born) := by rw [← hm]; exact List.mem_map.2 ⟨x, hx, rfl⟩
  obtain ⟨y, hy, e⟩ := List.mem_map.1 this
  rw [← e]; exact h2 y hy

theorem mapInt_some {P : Program} {t e : TypeId} (h : mapInt P t = some e) : ∃ k, P.underlying t = some (.map k e) ∧ P.underlying k = some (.int .i64) := by
  unfold mapInt at h
  split at h
  · rename_i k e' hu
    split at h
    · rename_i hk
      obtain rfl := Option.some.inj h
      exact ⟨k, hu, hk⟩
    · cases h
  · cases h

theorem good_makeMap {t : TypeId} {rs : Option Operand} (ho : o.op = .makeMap t rs) (h : exOp E O o st K = some r) : ∃ e, K e = some r ∧ Good E X o st e := by
  simp only [exOp, ho] at h
  split at h
  · split at h
    · split at h
      · rename_i τ hτ
        refine ⟨_, h, Good.make fun st' he hi a w N hd F I => ?_⟩
        have hid : st'.o (newId o.dst) = st.o (newId o.dst) := hi _ (.inl (by simp))
        have hmem : ∀ k, k < w.heap.size → memOf (w.alloc (.map #[] 0)) k = memOf w k := fun k hk => memOf_alloc_old w _ hk
        have I1 : SInv (memOf (w.alloc (.map #[] 0))) N st'.o hd F (w.alloc (.map #[] 0)).heap.size := I.s.world (by simp) hmem
        have hF : Fresh N F (w.alloc (.map #[] 0)).heap.size [w.heap.size] := ⟨by simp, by simp, by intro k hk; simp at hk; subst hk; exact fun h => Nat.lt_irrefl _ (I.s.ltN _ h), by
          intro k hk i hk'; simp at hk; subst hk; exact Nat.lt_irrefl _ (I.s.ltF i _ hk')⟩
        have k := new_ok I1 (newId o.dst) ((st.o (newId o.dst)).1 + 1) (.mapo τ []) (.map (some w.heap.size)) [w.heap.size] hF (by rw [hid]; omega) (fun s' hd' _ _ => ⟨w.heap.size, #[], 0, rfl, memOf_alloc_new w _, rfl, fun i h => absurd h (by simp), rfl, by simp [MapOk]⟩)
        refine ⟨.map (some w.heap.size), w.alloc (.map #[] 0), [], _, N, _, _, by simp [execOp, ho, Go.RowKit.run_makeMap], ⟨fun i hi' => ?_, fun i hi' => ?_, Moves.alloc w _, by simp, k.inv, fun _ h => h, k.goes, fun _ h => .inl h, fun i k' hk => ?_, ?_⟩⟩
        · simp at hi'; subst hi'
          show _ = (st.o.set _ _) _
          rw [Sto.set_same, Sto.set_same]
        · simp at hi'
          exact Sto.set_ne _ _ hi'
        · rcases k.sub i k' hk with h | h
          · exact .inl ⟨i, h⟩
          · simp at h; subst h; exact .inr (Nat.le_refl _)
        · exact ⟨by simp [Sto.set_same], rfl, fun _ _ => by simp⟩
      · cases h
    · cases h
  · cases h

theorem leftOf_none (es : Array MapEntry) : (leftOf es #[]).toList = es.toList := by
  simp [leftOf]
theorem good_range {t : TypeId} {x : Operand} (ho : o.op = .range t x) (h : exOp E O o st K = some r) : ∃ e, K e = some r ∧ Good E X o st e := by
  have hx : x ∈ o.op.operands := by rw [ho]; simp [Op.operands]
  simp only [exOp, ho] at h
  replace h := one_some h
  obtain ⟨c, hc, h⟩ := h
  split at h
  · rename_i τ xs
    split at h
    · rename_i e hm
      obtain ⟨kt, hu, hk⟩ := mapInt_some hm
      refine ⟨_, h, Good.make fun st' he hi a w N hd F I => ?_⟩
      have hid : st'.o (newId o.dst) = st.o (newId o.dst) := hi _ (.inl (by simp))
      have h1 := I.eval x; rw [he x hx, hc] at h1
      obtain ⟨_, g, es, clock, ys, e1, e2, e3, e4, e5, e6, e7⟩ := h1
      have e0 : a.eval x = .map (some g) := by simpa using e1
      have hg : w.heap[g]? = some (.map es clock) := e3
      have hmem : ∀ k, k < w.heap.size → memOf (w.alloc (.mapIter (some g) clock #[] clock)) k = memOf w k := fun k hk => memOf_alloc_old w _ hk
      have I1 : SInv (memOf (w.alloc (.mapIter (some g) clock #[] clock))) N st'.o hd F (w.alloc (.mapIter (some g) clock #[] clock)).heap.size := I.s.world (by simp) hmem
      have hF : Fresh N F (w.alloc (.mapIter (some g) clock #[] clock)).heap.size [w.heap.size] := ⟨by simp, by simp, by intro k hk; simp at hk; subst hk; exact fun h => Nat.lt_irrefl _ (I.s.ltN _ h), by
        intro k hk i hk'; simp at hk; subst hk; exact Nat.lt_irrefl _ (I.s.ltF i _ hk')⟩
      have hN : ∀ b, N b → N b ∧ memOf (w.alloc (.mapIter (some g) clock #[] clock)) b = memOf w b := fun b hb => ⟨hb, hmem b (I.s.ltN b hb)⟩
      have hl : (leftOf es #[]).toList = es.toList := leftOf_none es
      have k := new_ok I1 (newId o.dst) ((st.o (newId o.dst)).1 + 1) (.itero τ (none, xs)) (.pointer (some ⟨w.heap.size, 0, none⟩)) [w.heap.size] hF (by rw [hid]; omega) (fun s' hd' _ _ =>
        ⟨g, w.heap.size, es, clock, clock, #[], clock, ys, rfl, rfl, memOf_alloc_new w _, e2, by rw [(hN g e2).2]; exact e3, ⟨e6.2.1, Nat.le_refl _, e6.2.2, Nat.le_refl _⟩, by rw [hl]; simpa using e4, fun i h h' => by
          simp only [hl]
          have h'' : i < es.size := by rw [hl] at h'; simpa using h'
          have := e5 i h h''
          refine ⟨by simpa using this.1, ?_⟩
          simpa using RepT.mono hN (by simp) this.2, e6.1, e7, by simp⟩)
      refine ⟨.pointer (some ⟨w.heap.size, 0, none⟩), w.alloc (.mapIter (some g) clock #[] clock), [], _, N, _, _, by simp [execOp, ho, e0, run_range_map w t kt e g es clock hu hg], ⟨fun i hi' => ?_, fun i hi' => ?_, Moves.alloc w _, by simp, k.inv, fun _ h => h, k.goes, fun _ h => .inl h, fun i k' hk => ?_, ?_⟩⟩
      · simp at hi'; subst hi'
        show _ = (st.o.set _ _) _
        rw [Sto.set_same, Sto.set_same]
      · simp at hi'
        exact Sto.set_ne _ _ hi'
      · rcases k.sub i k' hk with h | h
        · exact .inl ⟨i, h⟩
        · simp at h; subst h; exact .inr (Nat.le_refl _)
      · exact ⟨by simp [Sto.set_same], rfl, fun _ _ => by simp⟩
    · cases h
  · cases h
theorem good_entry {x : Operand} (ho : o.op = .entry x) (h : exOp E O o st K = some r) : ∃ e, K e = some r ∧ Good E X o st e := by
  have hx : x ∈ o.op.operands := by rw [ho]; simp [Op.operands]
  simp only [exOp, ho] at h
  replace h := one_some h
  obtain ⟨c, hc, h⟩ := h
  split at h
  · rename_i id ver
    split at h
    · rename_i v τ p l hs
      split at h
      · rename_i hv
        subst hv
        refine ⟨_, h, Good.val fun st' he hi a w N hd F I => ?_⟩
        have hid := hi id (by simp); rw [hs] at hid
        have h1 := I.eval x; rw [he x hx, hc] at h1
        have hob := I.s.obj id; rw [hid] at hob
        have e0 : a.eval x = hd id := h1.2.2 (by rw [hid]) (by rw [hid]; rfl)
        obtain ⟨g, r', es, clock, since, seen, c0, ys, e1, e2, e3, e4, e5, e6, e7, e8, e9, e10, e11⟩ := hob
        have e1' : hd id = .pointer (some ⟨r', 0, none⟩) := by simpa using e1
        obtain ⟨k, s0, k1, k2, k3, k4, k5⟩ := e11 p rfl
        rw [e1'] at e0
        subst k2; subst k3
        refine ⟨.tuple #[k.key, k.val], by simp [execOp, ho, e0, run_entry_at w r' g since s0 es c0 k e3 e5 k1 e6.2.2.1], [k.key, k.val], rfl, ?_⟩
        refine ⟨?_, ?_, trivial⟩
        · show RepT _ _ _ _ _ _
          exact ⟨by rw [k4], rfl⟩
        · exact k5
      · cases h
    · cases h
  · cases h

theorem mget_perm {α : Type} (k : Int) (z : α) {xs ys : List (Int × α)} (h : List.Perm ys xs) : (ys.map Prod.fst).Nodup → mget ys k z = mget xs k z ∧ mhas ys k = mhas xs k := by
  induction h with
  | nil => intro _; exact ⟨rfl, rfl⟩
  | cons p _ ih =>
    intro hn
    simp only [List.map_cons, List.nodup_cons] at hn
    obtain ⟨a, b⟩ := p
    simp only [mget, mhas, (ih hn.2).1, (ih hn.2).2]
    exact ⟨trivial, trivial⟩
  | swap p q r =>
    intro hn
    obtain ⟨a, b⟩ := p
    obtain ⟨c, d⟩ := q
    simp only [List.map_cons, List.nodup_cons, List.mem_cons, not_or] at hn
    have hne : ¬ c = a := hn.1.1
    simp only [mget, mhas]
    by_cases h1 : c = k
    · by_cases h2 : a = k
      · exact absurd (h1.trans h2.symm) hne
      · simp [h1, h2]
    · simp [h1]
  | trans h1 h2 ih1 ih2 =>
    intro hn
    have hn2 := (h1.map Prod.fst).nodup_iff.1 hn
    exact ⟨(ih1 hn).1.trans (ih2 hn2).1, (ih1 hn).2.trans (ih2 hn2).2⟩

theorem zeroAs_rep {m : Mem} {N : Nat → Prop} {s : Sto} {hd : Nat → Value} {τ : Ty} {c : C} {z : τ.den} {u : Value} (h : zeroAs τ c = some z) (hr : RepC m N s hd c u) : RepT m N τ z [u] [] := by
  cases c with
  | imm σ z0 =>
    have h' : (if h : σ = τ then some (castDen h z0) else none : Option τ.den) = some z := by
      cases τ <;> exact h
    split at h'
    · rename_i e
      subst e
      obtain rfl := Option.some.inj h'
      exact hr
    · cases h'
  | e0 =>
    cases τ with
    | sl e =>
      obtain ⟨a, hr⟩ := hr
      obtain rfl := Option.some.inj h
      exact ⟨rfl, a, 0, [], by rw [hr]; rfl, Nat.le_refl _, rfl, fun i h => absurd h (by simp), fun h => absurd rfl h⟩
    | _ => cases h
  | _ => cases τ <;> cases h
theorem good_lookup {t : TypeId} {x i : Operand} {ok : Bool} (ho : o.op = .lookup t x i ok) (h : exOp E O o st K = some r) : ∃ e, K e = some r ∧ Good E X o st e := by
  have hx : x ∈ o.op.operands := by rw [ho]; simp [Op.operands]
  have hi : i ∈ o.op.operands := by rw [ho]; simp [Op.operands]
  simp only [exOp, ho] at h
  replace h := one_some h
  obtain ⟨c, hc, h⟩ := h
  replace h := one_some h
  obtain ⟨d, hd, h⟩ := h
  split at h
  · rename_i id ver k
    split at h
    · rename_i v τ xs e hs hm
      obtain ⟨kt, hu, hk⟩ := mapInt_some hm
      split at h
      · rename_i c0 hz
        split at h
        · rename_i hv
          obtain ⟨rfl, hzo⟩ := hv
          split at h
          · rename_i z hza
            have main : ∀ {a : Act} {w : World} {N : Nat → Prop} {s' : Sto} {hd' : Nat → Value} {F : Nat → List Nat}, (∀ i ∈ [id], s' i = st.o i) → SInv (memOf w) N s' hd' F w.heap.size → RepC (memOf w) N s' hd' (.mp id v) (a.eval x) → RepC (memOf w) N s' hd' (.imm (.int .i64) k) (a.eval i) →
                ∃ u b, (Instr.lookup t (a.eval x) (a.eval i) ok).run E.P w = .ok (if ok = true then .tuple #[u, .bool b] else u) w ∧ RepT (memOf w) N τ (mget xs k z) [u] [] ∧ b = mhas xs k := by
              intro a w N s' hd' F hm' I h1 h2
              have hid := hm' id (by simp); rw [hs] at hid
              have hob := I.obj id; rw [hid] at hob
              have e0 : a.eval x = hd' id := h1.2.2 (by rw [hid]) (by rw [hid]; rfl)
              obtain ⟨g, es, clock, e1, e2, e3, e4, _⟩ := hob
              have e1' : hd' id = .map (some g) := by simpa using e1
              rw [e1'] at e0
              have e5 := imm_int h2
              have hg : w.heap[g]? = some (.map es clock) := e2
              have hR : RepEs (memOf w) N τ xs es.toList := RepEs.of (by simpa using e3) (fun i h h' => by simpa using e4 i h (by simpa using h'))
              obtain ⟨it, zv, hi1, hi2, hi3, hi4⟩ := run_zeroValue hz
              have hkey : MapKept.IsKey (.int .i64) (.int .i64 k) := rfl
              rcases RepEs.find k z 0 hR with ⟨f1, f2, f3, _⟩ | ⟨j, e', f1, f2, f3, f4, f5, _⟩
              · have hzr : RepCs (memOf w) N s' hd' [c0] zv.cells.toList := constCs_rep hi3
                match hzl : zv.cells.toList, hzr with
                | [u], ⟨hzr, _⟩ =>
                  have hone : zv = u := by
                    have h1 : zv.oneCell' = true := by
                      simp only [zeroOne, hi1, hi2, Option.bind_some] at hzo
                      cases zv <;> first | rfl | cases hzo
                    rw [cells_one h1] at hzl
                    simpa using hzl
                  refine ⟨u, false, ?_, by rw [f2]; exact zeroAs_rep hza hzr, f3.symm⟩
                  subst hone
                  cases ok <;> simp [Instr.lookup, run_underlying hu, e0, MapKept.run_getObj_map hg, e5, MapKept.run_checkKey hk hkey, MapKept.run_findKey hk f1, hi4, Result.andThen]
              · refine ⟨e'.val, true, ?_, f4, f5.symm⟩
                cases ok <;> simp [Instr.lookup, run_underlying hu, e0, MapKept.run_getObj_map hg, e5, MapKept.run_checkKey hk hkey, MapKept.run_findKey hk f1, Result.andThen]
            split at h
            · rename_i hok
              subst hok
              refine ⟨_, h, good_two hc hx hd hi fun {a w N s' hd' F} hm' I h1 h2 => ?_⟩
              obtain ⟨u, b, hrun, hr, hb⟩ := main hm' I h1 h2
              subst hb
              exact ⟨.tuple #[u, .bool (mhas xs k)], by simp [execOp, ho, hrun], [u, .bool (mhas xs k)], rfl, hr, ⟨rfl, rfl⟩, trivial⟩
            · rename_i hok
              have hok' : ok = false := by simpa using hok
              subst hok'
              refine ⟨_, h, good_two hc hx hd hi fun {a w N s' hd' F} hm' I h1 h2 => ?_⟩
              obtain ⟨u, b, hrun, hr, hb⟩ := main hm' I h1 h2
              exact ⟨u, by simp [execOp, ho, hrun], hr⟩
          · cases h
        · cases h
      · cases h
    · cases h
  · rename_i τ xs k
    split at h
    · rename_i e hm
      obtain ⟨kt, hu, hk⟩ := mapInt_some hm
      split at h
      · rename_i σ z hz
        split at h
        · rename_i hzo
          split at h
          · rename_i hσ
            subst hσ
            have main : ∀ {a : Act} {w : World} {N : Nat → Prop} {s' : Sto} {hd' : Nat → Value} {F : Nat → List Nat}, SInv (memOf w) N s' hd' F w.heap.size → RepC (memOf w) N s' hd' (.imm (.imap σ) xs) (a.eval x) → RepC (memOf w) N s' hd' (.imm (.int .i64) k) (a.eval i) →
                ∃ u b, (Instr.lookup t (a.eval x) (a.eval i) ok).run E.P w = .ok (if ok = true then .tuple #[u, .bool b] else u) w ∧ RepT (memOf w) N σ (mget xs k (castDen rfl z)) [u] [] ∧ b = mhas xs k := by
              intro a w N s' hd' F I h1 h2
              have h1' : RepT (memOf w) N (.imap σ) xs [a.eval x] [] := h1
              obtain ⟨_, g, es, clock, ys, e1, _, e2, e3, e4, e6, e7⟩ := h1'
              have e0 : a.eval x = .map (some g) := by simpa using e1
              have e5 := imm_int h2
              have hg : w.heap[g]? = some (.map es clock) := e2
              obtain ⟨p1, p2⟩ := mget_perm k (castDen rfl z) e7 e6.1
              rw [← p1, ← p2]
              have hR : RepEs (memOf w) N σ ys es.toList := RepEs.of (by simpa using e3) (fun i h h' => by simpa using e4 i h (by simpa using h'))
              obtain ⟨it, zv, hi1, hi2, hi3, hi4⟩ := run_zeroValue hz
              have hkey : MapKept.IsKey (.int .i64) (.int .i64 k) := rfl
              rcases RepEs.find k (castDen rfl z) 0 hR with ⟨f1, f2, f3, _⟩ | ⟨j, e', f1, f2, f3, f4, f5, _⟩
              · have hzr : RepCs (memOf w) N s' hd' [.imm σ z] zv.cells.toList := constCs_rep hi3
                match hzl : zv.cells.toList, hzr with
                | [u], ⟨hzr, _⟩ =>
                  have hone : zv = u := by
                    have h1 : zv.oneCell' = true := by
                      simp only [zeroOne, hi1, hi2, Option.bind_some] at hzo
                      cases zv <;> first | rfl | cases hzo
                    rw [cells_one h1] at hzl
                    simpa using hzl
                  refine ⟨u, false, ?_, by rw [f2]; exact hzr, f3.symm⟩
                  subst hone
                  cases ok <;> simp [Instr.lookup, run_underlying hu, e0, MapKept.run_getObj_map hg, e5, MapKept.run_checkKey hk hkey, MapKept.run_findKey hk f1, hi4, Result.andThen]
              · refine ⟨e'.val, true, ?_, f4, f5.symm⟩
                cases ok <;> simp [Instr.lookup, run_underlying hu, e0, MapKept.run_getObj_map hg, e5, MapKept.run_checkKey hk hkey, MapKept.run_findKey hk f1, Result.andThen]
            split at h
            · rename_i hok
              subst hok
              refine ⟨_, h, good_two hc hx hd hi fun {a w N s' hd' F} hm' I h1 h2 => ?_⟩
              obtain ⟨u, b, hrun, hr, hb⟩ := main I h1 h2
              subst hb
              exact ⟨.tuple #[u, .bool (mhas xs k)], by simp [execOp, ho, hrun], [u, .bool (mhas xs k)], rfl, hr, ⟨rfl, rfl⟩, trivial⟩
            · rename_i hok
              have hok' : ok = false := by simpa using hok
              subst hok'
              refine ⟨_, h, good_two hc hx hd hi fun {a w N s' hd' F} hm' I h1 h2 => ?_⟩
              obtain ⟨u, b, hrun, hr, hb⟩ := main I h1 h2
              exact ⟨u, by simp [execOp, ho, hrun], hr⟩
          · cases h
        · cases h
      · cases h
    · cases h
  · cases h

theorem Moves.setHeap (w : World) (g : Nat) (o' : Go.Obj) : Moves w { w with heap := w.heap.setIfInBounds g o' } [g] :=
  ⟨rfl, rfl, rfl, by simp, fun k _ hW => by simp [Ne.symm (fun h => hW (by simp [h]) : k ≠ g)]⟩

theorem good_mapUpdate {t : TypeId} {x i y : Operand} (ho : o.op = .mapUpdate t x i y) (h : exOp E O o st K = some r) : ∃ e, K e = some r ∧ Good E X o st e := by
  have hx : x ∈ o.op.operands := by rw [ho]; simp [Op.operands]
  have hi : i ∈ o.op.operands := by rw [ho]; simp [Op.operands]
  have hy : y ∈ o.op.operands := by rw [ho]; simp [Op.operands]
  simp only [exOp, ho] at h
  replace h := one_some h
  obtain ⟨c, hc, h⟩ := h
  replace h := one_some h
  obtain ⟨d, hd, h⟩ := h
  replace h := one_some h
  obtain ⟨f, hf, h⟩ := h
  split at h
  · rename_i id ver n σ z
    split at h
    · rename_i v τ xs e hs hm
      obtain ⟨kt, hu, hk⟩ := mapInt_some hm
      split at h
      · rename_i hv
        obtain ⟨rfl, himm⟩ := hv
        split at h
        · rename_i hσ
          subst hσ
          refine ⟨_, h, Good.write rfl fun st' he hi' a w N hd' F I => ?_⟩
          have hid := hi' id (.inl (by simp)); rw [hs] at hid
          have h1 := I.eval x; rw [he x hx, hc] at h1
          have h2 := I.eval i; rw [he i hi, hd] at h2
          have h3 := I.eval y; rw [he y hy, hf] at h3
          have hob := I.s.obj id; rw [hid] at hob
          have e0 : a.eval x = hd' id := h1.2.2 (by rw [hid]) (by rw [hid]; rfl)
          obtain ⟨g, es, clock, e1, e2, e3, e4, e5, e7⟩ := hob
          have e1' : hd' id = .map (some g) := by simpa using e1
          rw [e1'] at e0
          have e6 : a.eval i = .int .i64 n := imm_int (m := memOf w) (N := N) (s := st'.o) (hd := hd') h2
          have h3' : RepT (memOf w) N σ z [a.eval y] [] := h3
          have hg : w.heap[g]? = some (.map es clock) := e2
          have hR : RepEs (memOf w) N σ xs es.toList := RepEs.of (by simpa using e3) (fun i h h' => by simpa using e4 i h (by simpa using h'))
          have hkey : MapKept.IsKey (.int .i64) (.int .i64 n) := rfl
          obtain ⟨es', clock', hrun, hR', hOk'⟩ : ∃ es' clock', (Instr.mapUpdate t (.map (some g)) (.int .i64 n) (a.eval y)).run E.P w = .ok () { w with heap := w.heap.setIfInBounds g (.map es' clock') } ∧ RepEs (memOf w) N σ (mput xs n z) es'.toList ∧ MapOk (List.map Prod.fst (mput xs n z)) es' clock' := by
            rcases RepEs.find n z 0 hR with ⟨f1, _, f3', f4⟩ | ⟨j, e', f1, f2, f3, _, f5, f6⟩
            · refine ⟨es.push { key := .int .i64 n, val := a.eval y, born := clock }, clock + 1, by simp [Instr.mapUpdate, run_underlying hu, MapKept.run_getObj_map hg, MapKept.run_checkKey hk hkey, MapKept.run_findKey hk f1, MapKept.run_setObj_map _ hg, Result.andThen], ?_, ?_⟩
              · rw [f4 z, Array.toList_push]
                exact RepEs.app hR ⟨rfl, h3', trivial⟩
              · rw [f4 z, List.map_append]
                exact e7.push (fun h => by rw [(mhas_mem xs n).2 h] at f3'; cases f3') _ _
            · have hj : es[j]? = some e' := by simpa using f2
              rw [Nat.zero_add] at f1
              refine ⟨es.modify j fun e => { e with key := .int .i64 n, val := a.eval y }, clock, by simp [Instr.mapUpdate, run_underlying hu, MapKept.run_getObj_map hg, MapKept.run_checkKey hk hkey, MapKept.run_findKey hk f1, hj, f3, MapKept.run_keyThatStays hkey, MapKept.run_setObj_map _ hg, Result.andThen], ?_, ?_⟩
              · rw [Array.toList_modify]
                exact f6 z _ h3'
              · exact e7.modify (mput_keys xs n z f5) j _ (fun _ => rfl)
          have hset := MapKept.heap_set (o' := .map es' clock') hg
          have hgo : Goes st'.o (st'.o.set id ((st'.o id).1, .mapo σ (mput xs n z))) hd' hd' := Goes.set_like id _ (by simp [Obj.isV]) (fun _ => by rw [hid]; rfl)
          have hne : ∀ b, N b → b ≠ g := fun b hb e => by subst e; exact I.s.sep id b (by rw [e5]; simp) hb
          have hN : ∀ b, N b → N b ∧ memOf { w with heap := w.heap.setIfInBounds g (.map es' clock') } b = memOf w b := fun b hb => ⟨hb, hset.2 b (hne b hb)⟩
          have hR2 := RepEs.to hR'
          have hinv := I.s.upd (m' := memOf { w with heap := w.heap.setIfInBounds g (.map es' clock') }) (N' := N) (hd' := hd') (size' := w.heap.size) id ((st'.o id).1, .mapo σ (mput xs n z)) [g] (Nat.le_refl _) hN (fun k hk => ⟨I.s.ltN k hk, fun i _ hi => I.s.sep i k hi hk, by simpa using hne k hk⟩)
            (fun i hi k hk => hset.2 k (fun e => hi (I.s.once i id k hk (by rw [e5, e]; simp)))) (by simp) (fun k hk => by
              simp at hk; subst hk
              exact ⟨I.s.ltF id k (by rw [e5]; simp), fun i hi h => hi (I.s.once i id k h (by rw [e5]; simp))⟩) hgo (fun _ _ => rfl) ⟨g, es', clock', by simpa using e1', hset.1, by simpa using hR2.1, fun i h h' => ⟨(hR2.2 i h (by simpa using h')).1, RepT.mono hN (by simp) (hR2.2 i h (by simpa using h')).2⟩, rfl, hOk'⟩
          have hF : (fun i => if i = id then [g] else F i) = F := by
            funext i
            by_cases e : i = id
            · simp [e, e5]
            · simp [e]
          rw [hF] at hinv
          refine ⟨{ w with heap := w.heap.setIfInBounds g (.map es' clock') }, [g], st'.o.set id ((st'.o id).1, .mapo σ (mput xs n z)), N, hd', F, by simp [execOp, ho, e0, e6, hrun], ⟨fun j hj => ?_, fun j hj => ?_, Moves.setHeap w g _, ?_, by simpa using hinv, fun _ h => h, hgo, fun _ h => .inl h, fun j b hb => .inl ⟨j, hb⟩, trivial⟩⟩
          · simp at hj; subst hj
            show _ = (st.o.set _ _) _
            rw [Sto.set_same, Sto.set_same, hid]; rfl
          · simp at hj
            exact Sto.set_ne _ _ hj
          · intro b hb
            simp at hb; subst hb
            exact ⟨id, by rw [e5]; simp⟩
        · cases h
      · cases h
    · cases h
  · cases h

theorem good_insert {t : TypeId} {x i y : Operand} (ho : o.op = .insert t x i y) (h : exOp E O o st K = some r) : ∃ e, K e = some r ∧ Good E X o st e := by
  have hx : x ∈ o.op.operands := by rw [ho]; simp [Op.operands]
  have hi : i ∈ o.op.operands := by rw [ho]; simp [Op.operands]
  have hy : y ∈ o.op.operands := by rw [ho]; simp [Op.operands]
  simp only [exOp, ho] at h
  replace h := one_some h
  obtain ⟨c, hc, h⟩ := h
  replace h := one_some h
  obtain ⟨d, hd, h⟩ := h
  replace h := one_some h
  obtain ⟨f, hf, h⟩ := h
  split at h
  · rename_i id ver n σ z
    split at h
    · rename_i v τ xs e hs hm
      obtain ⟨kt, hu, hk⟩ := mapInt_some hm
      split at h
      · rename_i hv
        obtain ⟨rfl, himm⟩ := hv
        split at h
        · rename_i hσ
          subst hσ
          refine ⟨_, h, Good.write rfl fun st' he hi' a w N hd' F I => ?_⟩
          have hid := hi' id (.inl (by simp)); rw [hs] at hid
          have h1 := I.eval x; rw [he x hx, hc] at h1
          have h2 := I.eval i; rw [he i hi, hd] at h2
          have h3 := I.eval y; rw [he y hy, hf] at h3
          have hob := I.s.obj id; rw [hid] at hob
          have e0 : a.eval x = hd' id := h1.2.2 (by rw [hid]) (by rw [hid]; rfl)
          obtain ⟨g, es, clock, e1, e2, e3, e4, e5, e7⟩ := hob
          have e1' : hd' id = .map (some g) := by simpa using e1
          rw [e1'] at e0
          have e6 : a.eval i = .int .i64 n := imm_int (m := memOf w) (N := N) (s := st'.o) (hd := hd') h2
          have h3' : RepT (memOf w) N σ z [a.eval y] [] := h3
          have hg : w.heap[g]? = some (.map es clock) := e2
          have hR : RepEs (memOf w) N σ xs es.toList := RepEs.of (by simpa using e3) (fun i h h' => by simpa using e4 i h (by simpa using h'))
          have hkey : MapKept.IsKey (.int .i64) (.int .i64 n) := rfl
          obtain ⟨es', clock', hrun, hR', hOk'⟩ : ∃ es' clock', (Instr.mapUpdate t (.map (some g)) (.int .i64 n) (a.eval y)).run E.P w = .ok () { w with heap := w.heap.setIfInBounds g (.map es' clock') } ∧ RepEs (memOf w) N σ (mput xs n z) es'.toList ∧ MapOk (List.map Prod.fst (mput xs n z)) es' clock' := by
            rcases RepEs.find n z 0 hR with ⟨f1, _, f3', f4⟩ | ⟨j, e', f1, f2, f3, _, f5, f6⟩
            · refine ⟨es.push { key := .int .i64 n, val := a.eval y, born := clock }, clock + 1, by simp [Instr.mapUpdate, run_underlying hu, MapKept.run_getObj_map hg, MapKept.run_checkKey hk hkey, MapKept.run_findKey hk f1, MapKept.run_setObj_map _ hg, Result.andThen], ?_, ?_⟩
              · rw [f4 z, Array.toList_push]
                exact RepEs.app hR ⟨rfl, h3', trivial⟩
              · rw [f4 z, List.map_append]
                exact e7.push (fun h => by rw [(mhas_mem xs n).2 h] at f3'; cases f3') _ _
            · have hj : es[j]? = some e' := by simpa using f2
              rw [Nat.zero_add] at f1
              refine ⟨es.modify j fun e => { e with key := .int .i64 n, val := a.eval y }, clock, by simp [Instr.mapUpdate, run_underlying hu, MapKept.run_getObj_map hg, MapKept.run_checkKey hk hkey, MapKept.run_findKey hk f1, hj, f3, MapKept.run_keyThatStays hkey, MapKept.run_setObj_map _ hg, Result.andThen], ?_, ?_⟩
              · rw [Array.toList_modify]
                exact f6 z _ h3'
              · exact e7.modify (mput_keys xs n z f5) j _ (fun _ => rfl)
          have hset := MapKept.heap_set (o' := .map es' clock') hg
          have hgo : Goes st'.o (st'.o.set id ((st'.o id).1, .mapo σ (mput xs n z))) hd' hd' := Goes.set_like id _ (by simp [Obj.isV]) (fun _ => by rw [hid]; rfl)
          have hne : ∀ b, N b → b ≠ g := fun b hb e => by subst e; exact I.s.sep id b (by rw [e5]; simp) hb
          have hN : ∀ b, N b → N b ∧ memOf { w with heap := w.heap.setIfInBounds g (.map es' clock') } b = memOf w b := fun b hb => ⟨hb, hset.2 b (hne b hb)⟩
          have hR2 := RepEs.to hR'
          have hinv := I.s.upd (m' := memOf { w with heap := w.heap.setIfInBounds g (.map es' clock') }) (N' := N) (hd' := hd') (size' := w.heap.size) id ((st'.o id).1, .mapo σ (mput xs n z)) [g] (Nat.le_refl _) hN (fun k hk => ⟨I.s.ltN k hk, fun i _ hi => I.s.sep i k hi hk, by simpa using hne k hk⟩)
            (fun i hi k hk => hset.2 k (fun e => hi (I.s.once i id k hk (by rw [e5, e]; simp)))) (by simp) (fun k hk => by
              simp at hk; subst hk
              exact ⟨I.s.ltF id k (by rw [e5]; simp), fun i hi h => hi (I.s.once i id k h (by rw [e5]; simp))⟩) hgo (fun _ _ => rfl) ⟨g, es', clock', by simpa using e1', hset.1, by simpa using hR2.1, fun i h h' => ⟨(hR2.2 i h (by simpa using h')).1, RepT.mono hN (by simp) (hR2.2 i h (by simpa using h')).2⟩, rfl, hOk'⟩
          have hF : (fun i => if i = id then [g] else F i) = F := by
            funext i
            by_cases e : i = id
            · simp [e, e5]
            · simp [e]
          rw [hF] at hinv
          refine ⟨{ w with heap := w.heap.setIfInBounds g (.map es' clock') }, [g], st'.o.set id ((st'.o id).1, .mapo σ (mput xs n z)), N, hd', F, by simp [execOp, ho, e0, e6, hrun], ⟨fun j hj => ?_, fun j hj => ?_, Moves.setHeap w g _, ?_, by simpa using hinv, fun _ h => h, hgo, fun _ h => .inl h, fun j b hb => .inl ⟨j, hb⟩, trivial⟩⟩
          · simp at hj; subst hj
            show _ = (st.o.set _ _) _
            rw [Sto.set_same, Sto.set_same, hid]; rfl
          · simp at hj
            exact Sto.set_ne _ _ hj
          · intro b hb
            simp at hb; subst hb
            exact ⟨id, by rw [e5]; simp⟩
        · cases h
      · cases h
    · cases h
  · cases h

end

end Go.Proofs.YtndnhbihcnlpaaaDoorSt.Ev

/- The evaluator: append. -/
namespace Go.Proofs.YtndnhbihcnlpaaaDoorSt.Ev
open Go

/-- What is appended, as the builtin asks it. -/
structure AppSrc (P : Program) (w : World) (t' : TypeId) (x : Value) (size n : Nat) (news : List Value) : Prop where
  ty : (∃ e, P.underlying t' = some (.slice e)) ∨ P.underlying t' = some .string
  len : ∀ w', (Builtin.lenOf x).run P w' = .ok n w'
  first : ∀ w' : World, (∀ a, w'.cell? a = w.cell? a) → (Builtin.firstCells size n x).run P w' = .ok news.toArray w'
  hl : news.length = n * size

section
variable {P : Program} {w : World} {t t' ty te : TypeId} {i : TypeInfo} {z : Value} {x : Value} {m : Nat} {news : List Value}

theorem run_append_src_room (ht : P.underlying t = some (.slice te)) (hi : P.info? te = some i) (S : AppSrc P w t' x i.size m news)
    {g sLen sCap : Nat} {cur : Array Value} {T : TypeId} (hg : w.heap[g]? = some (.cells cur T (0, 0))) (h1 : ∀ u ∈ news, u.oneCell' = true) (hroom : sLen + m ≤ sCap) (hfit : sLen * i.size + news.length ≤ cur.size) :
    (Builtin.append_ #[t, t'] ty #[.slice (some ⟨g, 0, none⟩) sLen sCap, x]).run P w =
      .ok (.slice (some ⟨g, 0, none⟩) (sLen + m) sCap) (w.setRow g (cur.toList.take (sLen * i.size) ++ news ++ cur.toList.drop (sLen * i.size + news.length)).toArray) := by
  have hst := run_storeCells_at P g (sLen * i.size) T news 0 cur w hg (by simpa using hfit) h1
  simp only [Nat.add_zero] at hst
  have hf := S.first w (fun _ => rfl)
  rcases S.ty with ⟨e, hd⟩ | hd <;> simp [Builtin.append_, run_underlying ht, run_underlying hd, sizeOf, typeInfo, hi, S.len, hroom, hf, Addr.add_none, hst]

theorem run_append_src_none (ht : P.underlying t = some (.slice te)) (hi : P.info? te = some i) (S : AppSrc P w t' x i.size 0 news) {a : Option Addr} {sLen sCap : Nat} (hroom : sLen ≤ sCap) :
    (Builtin.append_ #[t, t'] ty #[.slice a sLen sCap, x]).run P w = .ok (.slice a sLen sCap) w := by
  have hn : news = [] := List.eq_nil_of_length_eq_zero (by simpa using S.hl)
  have hf := S.first w (fun _ => rfl)
  rw [hn] at hf
  cases a <;> rcases S.ty with ⟨e, hd⟩ | hd <;> simp [Builtin.append_, run_underlying ht, run_underlying hd, sizeOf, typeInfo, hi, S.len, hroom, hf, storeCells]

theorem run_append_src_grow (ht : P.underlying t = some (.slice te)) (hi : P.info? te = some i) (hz : i.zero = some z) (S : AppSrc P w t' x i.size m news)
    {a : Option Addr} {sLen sCap : Nat} {olds : List Value} (holds : ∀ w' : World, (∀ a, w'.cell? a = w.cell? a) → (Builtin.firstCells i.size sLen (.slice a sLen sCap)).run P w' = .ok olds.toArray w')
    (hg : sCap < sLen + m) (h63 : ((sLen + m : Nat) : Int) ≤ 9223372036854775807) (hfit : Builtin.nextslicecap (sLen + m) sCap * i.bytes ≤ 281474976710656) :
    (Builtin.append_ #[t, t'] ty #[.slice a sLen sCap, x]).run P w =
      .ok (.slice (some ⟨w.heap.size, 0, none⟩) (sLen + m) (grownCap w (sLen + m) sCap te))
        (w.drew.alloc (.cells (olds.toArray ++ news.toArray ++ Builtin.zeroCells z.cells (grownCap w (sLen + m) sCap te - (sLen + m))) te)) := by
  have hn : ¬ (sLen + m ≤ sCap) := by omega
  have h63' : ¬ (9223372036854775807 < ((sLen : Int) + (m : Int))) := by omega
  have h48' : ¬ (281474976710656 < Builtin.nextslicecap (sLen + m) sCap * i.bytes) := by omega
  have hf := S.first w.drew (fun _ => by simp)
  have hfo := holds w.drew (fun _ => by simp)
  have hfin : (olds.toArray ++ (news.toArray ++ Builtin.zeroCells z.cells (grownCap w (sLen + m) sCap te - (sLen + m)))) = (olds.toArray ++ news.toArray ++ Builtin.zeroCells z.cells (grownCap w (sLen + m) sCap te - (sLen + m))) := by
    rw [Array.append_assoc]
  rcases S.ty with ⟨e, hd⟩ | hd
  all_goals
    simp [Builtin.append_, run_underlying ht, run_underlying hd, sizeOf, typeInfo, zeroValue, hi, hz, S.len, hn, h63', h48', Question.forced, hf, hfo, newRow, grownCap]
    try (congr 2; apply Array.ext'; simp [List.append_assoc])

/-- How a row that was appended to stands in memory. -/
structure AppRow (w w' : World) (size n : Nat) (xs : List Value) (g? : Option Nat) (v' : Value) (g' : Nat) : Prop where
  row : ∃ cap cells T, v' = .slice (some ⟨g', 0, none⟩) n cap ∧ memOf w' g' = some (.cells cells T (0, 0)) ∧ cells.size = cap * size ∧ n ≤ cap ∧ cap ≤ maxLen ∧ cells.toList.take xs.length = xs
  mv : (g? = some g' ∧ Moves w w' [g'] ∧ w'.heap.size = w.heap.size) ∨ (g' = w.heap.size ∧ Moves w w' [] ∧ w'.heap.size = w.heap.size + 1)

theorem run_append_src (ht : P.underlying t = some (.slice te)) (hi : P.info? te = some i) (hz : i.zero = some z) (hzs : z.cells.size = i.size) (hb0 : i.bytes ≠ 0) (S : AppSrc P w t' x i.size m news) (h1 : ∀ u ∈ news, u.oneCell' = true)
    {v : Value} {n : Nat} {olds : List Value} {g? : Option Nat} (hbytes : (n + m) * i.bytes ≤ 140737488355328)
    (hv : (∃ a, v = .slice a 0 0 ∧ n = 0 ∧ olds = []) ∨ ∃ g cap cur T, g? = some g ∧ v = .slice (some ⟨g, 0, none⟩) n cap ∧ memOf w g = some (.cells cur T (0, 0)) ∧ cur.size = cap * i.size ∧ n ≤ cap ∧ cap ≤ maxLen ∧ olds.length = n * i.size ∧ cur.toList.take (n * i.size) = olds) :
    (m = 0 ∧ news = [] ∧ (Builtin.append_ #[t, t'] ty #[v, x]).run P w = .ok v w) ∨
    ∃ v' w' g', (Builtin.append_ #[t, t'] ty #[v, x]).run P w = .ok v' w' ∧ AppRow w w' i.size (n + m) (olds ++ news) g? v' g' := by
  have hnm : n + m ≤ 140737488355328 := Nat.le_trans (Nat.le_mul_of_pos_right _ (Nat.pos_of_ne_zero hb0)) hbytes
  have hmax : n + m ≤ maxLen := by simp only [maxLen]; omega
  by_cases hm : m = 0
  · subst hm
    have hn : news = [] := List.eq_nil_of_length_eq_zero (by simpa using S.hl)
    rcases hv with ⟨a, rfl, _⟩ | ⟨g, cap, cur, T, _, rfl, _, _, hle, _⟩
    · exact .inl ⟨rfl, hn, run_append_src_none ht hi S (Nat.le_refl _)⟩
    · exact .inl ⟨rfl, hn, run_append_src_none ht hi S hle⟩
  · right
    have grown : ∀ (olds : List Value) (old : Nat), olds.length = n * i.size → ∃ cells : Array Value, olds.toArray ++ news.toArray ++ Builtin.zeroCells z.cells (grownCap w (n + m) old te - (n + m)) = cells ∧ 
        AppRow w (w.drew.alloc (.cells cells te)) i.size (n + m) (olds ++ news) g? (.slice (some ⟨w.heap.size, 0, none⟩) (n + m) (grownCap w (n + m) old te)) w.heap.size := by
      intro olds old hol
      refine ⟨_, rfl, ⟨⟨_, _, te, rfl, memOf_alloc_new w.drew _, ?_, grownCap_ge w (n + m) old te, grownCap_le_maxLen w (n + m) old te hmax, ?_⟩, .inr ⟨rfl, (Moves.drew w).trans (Moves.alloc w.drew _), by simp⟩⟩⟩
      · have hge := grownCap_ge w (n + m) old te
        simp only [Array.size_append, List.size_toArray, size_zeroCells, hzs, hol, S.hl, ← Nat.add_mul]
        congr 1
        omega
      · simp only [Array.toList_append, List.append_assoc]
        rw [← List.append_assoc]
        exact List.take_left
    rcases hv with ⟨a, rfl, rfl, rfl⟩ | ⟨g, cap, cur, T, hg?, rfl, hg, hcs, hnc, hcm, hol, htake⟩
    · obtain ⟨cells, hc, hr⟩ := grown [] 0 (by simp)
      have := run_append_src_grow (ty := ty) ht hi hz S (a := a) (sLen := 0) (sCap := 0) (olds := []) (fun w' hw => by
        cases a with
        | none => simp [Builtin.firstCells]
        | some a => exact run_firstCells_some w' i.size 0 a 0 0 [] (by simp) (by simp)) (by omega) (by omega) (growslice_fits (by omega) hbytes)
      rw [hc] at this
      exact ⟨_, _, _, this, hr⟩
    · by_cases hroom : n + m ≤ cap
      · have hfit : n * i.size + news.length ≤ cur.size := by rw [S.hl, hcs, ← Nat.add_mul]; exact Nat.mul_le_mul_right _ hroom
        have := run_append_src_room (ty := ty) ht hi S hg h1 hroom hfit
        refine ⟨_, _, g, this, ⟨⟨cap, _, T, rfl, memOf_setRow_same w _ hg, ?_, hroom, hcm, ?_⟩, .inl ⟨hg?, Moves.setRow w g _, by simp⟩⟩⟩
        · simp only [List.size_toArray, List.length_append, List.length_take, List.length_drop, Array.length_toList]
          omega
        · simp only [htake]
          exact List.take_left
      · obtain ⟨cells, hc, hr⟩ := grown olds cap hol
        have := run_append_src_grow (ty := ty) ht hi hz S (a := some ⟨g, 0, none⟩) (sLen := n) (sCap := cap) (olds := olds) (fun w' hw =>
          run_firstCells_some w' i.size n ⟨g, 0, none⟩ n cap olds hol (fun j u hj => by
            rw [hw, Addr.add_none, Nat.zero_add]
            rw [← htake, List.getElem?_take] at hj
            split at hj
            · have hg' : w.heap[g]? = some (.cells cur T (0, 0)) := hg
              simp [World.cell?, hg']
              simpa using hj
            · cases hj)) (by omega) (by omega) (growslice_fits (by omega) hbytes)
        rw [hc] at this
        exact ⟨_, _, _, this, hr⟩
end

end Go.Proofs.YtndnhbihcnlpaaaDoorSt.Ev
