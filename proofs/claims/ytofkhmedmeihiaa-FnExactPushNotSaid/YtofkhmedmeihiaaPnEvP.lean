/- The evaluator: append, and its effect. -/
import Derived.Test.YtofkhmedmeihiaaPnEvO
namespace Go.Proofs.YtofkhmedmeihiaaPn.Ev
open Go

/-- A row that is read, its elements' data told by what is seen. -/
def Els (m : Mem) (N : Nat → Prop) (e : Ty) (xs : List e.den) (v : Value) : Prop :=
  ∃ (a : Option Addr) (cap : Nat) (es : List (List Value)), v = .slice a (List.length xs) cap ∧ List.length xs ≤ cap ∧ es.length = List.length xs ∧
    (∀ (i : Nat) (h : i < List.length xs) (h' : i < es.length), RepT m N e (xs[i]'h) es[i] []) ∧
    (xs ≠ [] → ∃ b off, a = some ⟨b, off, none⟩ ∧ cellsIn m b off es.flatten)

theorem Els.of_sl {m : Mem} {N : Nat → Prop} {e : Ty} {xs : List e.den} {v : Value} (h : RepT m N (.sl e) xs [v] []) : Els m N e xs v := by
  obtain ⟨_, a, cap, es, e1, h2, h3, h4, h5⟩ := h
  refine ⟨a, cap, es, by simpa using e1, h2, h3, h4, fun hn => ?_⟩
  obtain ⟨b, off, e, _, hc⟩ := h5 hn
  exact ⟨b, off, e, hc⟩

theorem Els.of_own {m : Mem} {N : Nat → Prop} {e : Ty} (he : e.isImm = true) {xs : List e.den} {v : Value} {F : List Nat} (h : RepT m N (.own e) xs [v] F) : Els m N e xs v := by
  rcases h with ⟨a, h1, h2, h3⟩ | ⟨g, cap, c, T, es, Fs, h1, h2, h3, h4, h5, h6, h7, h8, h9, h10⟩
  · subst h2
    exact ⟨a, 0, [], by simpa using h1, Nat.le_refl _, rfl, fun i h => absurd h (by simp), fun h => absurd rfl h⟩
  · refine ⟨_, cap, es, by simpa using h1, h4, h6, fun i hi hi' => ?_, fun _ => ⟨g, 0, rfl, c, T, (0, 0), h2, fun j v hj => ?_⟩⟩
    · have h8' := h8 i hi hi' (by omega)
      rwa [RepT.imm he h8'] at h8'
    · rw [← h9, List.getElem?_take] at hj
      split at hj
      · simpa using hj
      · cases hj

theorem Els.slice {m : Mem} {N : Nat → Prop} {e : Ty} {xs : List e.den} {hdv : Value} (h : Els m N e xs hdv) {lo hi : Nat} (h1 : lo ≤ hi) (h2 : hi ≤ xs.length) : Els m N e ((xs.take hi).drop lo) (subV hdv e.sz lo hi) := by
  obtain ⟨a, cap, es, e1, hc, hes, hr, hm⟩ := h
  subst e1
  have hlen : ∀ x ∈ es, x.length = e.sz := by
    intro x hx
    obtain ⟨i, hi, rfl⟩ := List.mem_iff_getElem.1 hx
    exact (hr i (by omega) hi).len
  have hl : List.length ((xs.take hi).drop lo) = hi - lo := by rw [List.length_drop, List.length_take]; omega
  refine ⟨if cap = lo then a else a.map (·.add (lo * e.sz)), cap - lo, (es.take hi).drop lo, ?_, by rw [hl]; omega, ?_, fun i hi1 hi2 => ?_, fun hn => ?_⟩
  · rw [hl]; rfl
  · rw [hl, List.length_drop, List.length_take]; omega
  · rw [hl] at hi1
    have := hr (lo + i) (by omega) (by omega)
    simpa using this
  · have hn' : xs ≠ [] := by intro e0; subst e0; simp at hn
    obtain ⟨b, off, ea, hcell⟩ := hm hn'
    have hne : lo < hi := by
      have h0 : 0 < List.length ((xs.take hi).drop lo) := List.length_pos_iff.2 hn
      rw [hl] at h0; omega
    subst ea
    refine ⟨b, off + lo * e.sz, ?_, ?_⟩
    · rw [if_neg (by omega)]
      simp [Addr.add_none]
    · have := hcell.sub (lo * e.sz) ((hi - lo) * e.sz)
      rwa [flatten_drop_of_len es lo hlen, flatten_take_of_len (es.drop lo) (hi - lo) (fun x hx => hlen x (List.mem_of_mem_drop hx)), ← List.drop_take] at this

section
variable {R : Type} {r : R}
theorem getSl_els {c : C} {s : Sto} {K : (e : Ty) → List e.den → List Nat → Option R} (h : getSl c s K = some r) :
    ∃ e xs m, K e xs m = some r ∧ ∀ s' : Sto, (∀ i ∈ m, s' i = s i) → ∀ {mem : Mem} {N : Nat → Prop} {hd : Nat → Value} {F : Nat → List Nat} {size : Nat}, SInv mem N s' hd F size → ∀ v, RepC mem N s' hd c v →
      e.isImm = true → Els mem N e xs v := by
  cases c with
  | imm τ x =>
    cases τ with
    | sl e => exact ⟨e, x, [], h, fun s' _ mem N hd F size I v hv he => Els.of_sl hv⟩
    | _ => cases h
  | own id ver =>
    simp only [getSl] at h
    split at h
    · rename_i v e xs hs
      split at h
      · rename_i hv
        subst hv
        refine ⟨e, xs, [id], h, fun s' hs' mem N hd F size I u hu he => ?_⟩
        have hid := hs' id (by simp); rw [hs] at hid
        have hob := I.obj id; rw [hid] at hob
        have e1 := RepC.own_hd hu hid rfl
        subst e1
        exact Els.of_own he hob
      · cases h
    · rename_i v e xs hs
      split at h
      · rename_i hv
        subst hv
        refine ⟨e, xs, [id], h, fun s' hs' mem N hd F size I u hu he => ?_⟩
        have hid := hs' id (by simp); rw [hs] at hid
        have hob := I.obj id; rw [hid] at hob
        have e1 := RepC.own_hd hu hid rfl
        subst e1
        exact Els.of_sl hob.2
      · cases h
    · cases h
  | sub id ver lo hi =>
    simp only [getSl] at h
    split at h
    · rename_i v e xs hs
      split at h
      · rename_i hv
        subst hv
        refine ⟨e, _, [id], h, fun s' hs' mem N hd F size I u hu he => ?_⟩
        have hid := hs' id (by simp); rw [hs] at hid
        have hob := I.obj id; rw [hid] at hob
        obtain ⟨e1, e2, e3⟩ := RepC.sub_hd hu hid rfl
        rw [e1]
        exact (Els.of_own he hob).slice e2 e3
      · cases h
    · rename_i v e xs hs
      split at h
      · rename_i hv
        subst hv
        refine ⟨e, _, [id], h, fun s' hs' mem N hd F size I u hu he => ?_⟩
        have hid := hs' id (by simp); rw [hs] at hid
        have hob := I.obj id; rw [hid] at hob
        obtain ⟨e1, e2, e3⟩ := RepC.sub_hd hu hid rfl
        rw [e1]
        exact (Els.of_sl hob.2).slice e2 e3
      · cases h
    · cases h
  | _ => cases h
end

/-- What is appended and what its elements stand for. -/
def SrcOK (P : Program) (w : World) (N : Nat → Prop) (t' : TypeId) (e : Ty) (ys : List e.den) (v : Value) : Prop :=
  ∃ ess : List (List Value), AppSrc P w t' v e.sz ys.length ess.flatten ∧ ess.length = ys.length ∧ ∀ (i : Nat) (h : i < ys.length) (h' : i < ess.length), RepT (memOf w) N e ys[i] ess[i] []

theorem Els.src {P : Program} {w : World} {N : Nat → Prop} {t' te : TypeId} {e : Ty} {ys : List e.den} {v : Value} (h : Els (memOf w) N e ys v) (ht : P.underlying t' = some (.slice te)) : SrcOK P w N t' e ys v := by
  obtain ⟨a, cap, es, rfl, hc, hes, hr, hm⟩ := h
  have hlen : ∀ x ∈ es, x.length = e.sz := by
    intro x hx
    obtain ⟨i, hi, rfl⟩ := List.mem_iff_getElem.1 hx
    exact (hr i (by omega) hi).len
  have hfl := flatten_len_of_len es hlen
  refine ⟨es, ⟨.inl ⟨te, ht⟩, fun w' => by simp [Builtin.lenOf], fun w' hw => ?_, by rw [hfl, hes]⟩, hes, hr⟩
  by_cases hne : ys = []
  · have hes0 : es = [] := by rw [hne] at hes; simpa using hes
    subst hes0
    cases a with
    | none => simp [Builtin.firstCells]
    | some a => 
      have := run_firstCells_some (P := P) w' e.sz ys.length a ys.length cap [] (by simp [hne]) (by simp)
      simpa using this
  · obtain ⟨b, off, rfl, hcl⟩ := hm hne
    exact run_firstCells_some w' e.sz ys.length ⟨b, off, none⟩ ys.length cap es.flatten (by rw [hfl, hes]) (fun j u hj => by
      rw [hw, Addr.add_none]; exact cell_of_in hcl j u hj)

theorem src_str {P : Program} {w : World} {N : Nat → Prop} {t' : TypeId} {y : List UInt8} (ht : P.underlying t' = some .string) : SrcOK P w N t' (.int .u8) (strBytes y) (.string ⟨⟨y⟩⟩) := by
  have hf : (y.map fun b => [Value.int .u8 (b.toNat : Int)]).flatten = y.map fun b => Value.int .u8 (b.toNat : Int) := by
    induction y with
    | nil => rfl
    | cons b y ih => simp [ih]
  refine ⟨y.map fun b => [Value.int .u8 (b.toNat : Int)], ⟨.inr ht, fun w' => by simp [Builtin.lenOf, strBytes, size_mk], fun w' hw => ?_, by rw [hf]; simp [strBytes, Ty.sz]⟩, by simp [strBytes], fun i h h' => ?_⟩
  · rw [hf]
    have : (ByteArray.extract ⟨⟨y⟩⟩ 0 (List.length (strBytes y))) = ⟨⟨y⟩⟩ := by
      rw [extract_mk]; simp [strBytes]
    simp only [Builtin.firstCells, this]
    simp
  · simp [strBytes]
    exact ⟨rfl, rfl⟩

theorem srcK_ok {R : Type} {r : R} {x : C} {s : Sto} {K : (e : Ty) → List e.den → List Nat → Option R} (h : srcK x s K = some r) :
    ∃ e ys m, K e ys m = some r ∧ ∀ s' : Sto, (∀ i ∈ m, s' i = s i) → ∀ {P : Program} {w : World} {N : Nat → Prop} {hd : Nat → Value} {F : Nat → List Nat}, SInv (memOf w) N s' hd F w.heap.size → ∀ v, RepC (memOf w) N s' hd x v →
      ∀ t', ((∃ y, x = .imm .str y) → P.underlying t' = some .string) → ((¬ ∃ y, x = .imm .str y) → ∃ te, P.underlying t' = some (.slice te)) → e.isImm = true → SrcOK P w N t' e ys v := by
  unfold srcK at h
  split at h
  · rename_i y
    refine ⟨_, _, _, h, fun s' _ P w N hd F I v hv t' h1 _ _ => ?_⟩
    rw [imm_str hv]
    exact src_str (h1 ⟨y, rfl⟩)
  · rename_i hx
    obtain ⟨e, ys, m, h, hg⟩ := getSl_els h
    refine ⟨e, ys, m, h, fun s' hs P w N hd F I v hv t' _ h2 he => ?_⟩
    obtain ⟨te, hte⟩ := h2 (fun ⟨y, hy⟩ => hx y hy)
    exact (hg s' hs I v hv he).src hte

/-- A row of the call's own is appended to. -/
theorem append_row {P : Program} {w : World} {N : Nat → Prop} {t t' ty te : TypeId} {i : TypeInfo} {z : Value} {e : Ty} (he : e.isImm = true) (ht : P.underlying t = some (.slice te)) (hi : P.info? te = some i) (hz : i.zero = some z) (hzs : z.cells.size = i.size) (hb0 : i.bytes ≠ 0) (hes : e.sz = i.size)
    {xs ys : List e.den} {v x : Value} {G : List Nat} (hv : RepT (memOf w) N (.own e) xs [v] G) (hN : ∀ k, N k → k < w.heap.size ∧ k ∉ G) (S : SrcOK P w N t' e ys x) (hbytes : (xs.length + ys.length) * i.bytes ≤ 140737488355328) :
    ∃ v' w' G' W, (Builtin.append_ #[t, t'] ty #[v, x]).run P w = .ok v' w' ∧ Moves w w' W ∧ (∀ k ∈ W, k ∈ G) ∧ RepT (memOf w') N (.own e) (xs ++ ys) [v'] G' ∧ (∀ k ∈ G', (k ∈ G ∧ k < w'.heap.size) ∨ (w.heap.size ≤ k ∧ k < w'.heap.size)) ∧ G'.Nodup := by
  obtain ⟨ess, S, hl, hr⟩ := S
  rw [hes] at S
  have hone : ∀ u ∈ ess.flatten, u.oneCell' = true := by
    intro u hu
    obtain ⟨l, h1, h2⟩ := List.mem_flatten.1 hu
    obtain ⟨j, hj, rfl⟩ := List.mem_iff_getElem.1 h1
    exact RepT.one' (hr j (by omega) hj) u h2
  obtain ⟨es, g?, hesl, her, hcase, hG, hGn⟩ : ∃ (es : List (List Value)) (g? : Option Nat), es.length = xs.length ∧ (∀ (j : Nat) (h : j < xs.length) (h' : j < es.length), RepT (memOf w) N e xs[j] es[j] []) ∧
      ((∃ a, v = .slice a 0 0 ∧ xs.length = 0 ∧ es.flatten = []) ∨ ∃ g cap cur T, g? = some g ∧ v = .slice (some ⟨g, 0, none⟩) xs.length cap ∧ memOf w g = some (.cells cur T (0, 0)) ∧ cur.size = cap * i.size ∧ xs.length ≤ cap ∧ cap ≤ maxLen ∧ es.flatten.length = xs.length * i.size ∧ cur.toList.take (xs.length * i.size) = es.flatten) ∧
      (∀ g, g? = some g → g ∈ G ∧ g < w.heap.size) ∧ G.Nodup := by
    rcases hv with ⟨a, h1, h2, h3⟩ | ⟨g, cap, c, T, es, Fs, h1, h2, h3, h4, h5, h6, h7, h8, h9, h10⟩
    · subst h2
      exact ⟨[], none, rfl, fun j h => absurd h (by simp), .inl ⟨a, by simpa using h1, rfl, rfl⟩, by simp, by rw [h3]; exact List.nodup_nil⟩
    · have her : ∀ (j : Nat) (h : j < List.length xs) (h' : j < es.length), RepT (memOf w) N e xs[j] es[j] [] := fun j h h' => by
        have := h8 j h h' (by omega)
        rwa [RepT.imm he this] at this
      have hFs : Fs.flatten = [] := by
        apply List.eq_nil_iff_forall_not_mem.2
        intro k hk
        obtain ⟨l, hl, hk⟩ := List.mem_flatten.1 hk
        obtain ⟨j, hj, rfl⟩ := List.mem_iff_getElem.1 hl
        rw [RepT.imm he (h8 j (by omega) (by omega) hj)] at hk; simp at hk
      have hfl : es.flatten.length = es.length * i.size := by
        rw [← hes]
        exact flatten_len_of_len es (by
          intro y hy
          obtain ⟨j, hj, rfl⟩ := List.mem_iff_getElem.1 hy
          exact (her j (by omega) hj).len)
      refine ⟨es, some g, h6, her, .inr ⟨g, cap, c, T, rfl, by simpa using h1, h2, by rw [h3, hes], h4, h5, by rw [hfl, h6], by rw [← h6, ← hfl, h9]⟩, fun g' hg' => ?_, by rw [h10, hFs]; simp⟩
      injection hg' with hg'; subst hg'
      refine ⟨by rw [h10]; simp, ?_⟩
      have h2' : w.heap[g]? = some (.cells c T (0, 0)) := h2
      exact (Array.getElem?_eq_some_iff.1 h2').1
  have hall : ∀ w', (∀ k, N k → memOf w' k = memOf w k) → ∀ (j : Nat) (h : j < (xs ++ ys).length) (h' : j < (es ++ ess).length), RepT (memOf w') N e (xs ++ ys)[j] (es ++ ess)[j] [] := by
    intro w' hm j h h'
    rw [List.getElem_append, List.getElem_append]
    by_cases hj : j < xs.length
    · rw [dif_pos hj, dif_pos (by omega)]
      exact RepT.mono (fun b hb => ⟨hb, hm b hb⟩) (by simp) (her j hj (by omega))
    · rw [dif_neg hj, dif_neg (by omega)]
      have := hr (j - xs.length) (by simp at h; omega) (by simp at h'; omega)
      simp only [hesl]
      exact RepT.mono (fun b hb => ⟨hb, hm b hb⟩) (by simp) this
  rcases run_append_src (ty := ty) ht hi hz hzs hb0 S hone (g? := g?) hbytes hcase with ⟨h0, h1, h2⟩ | ⟨v', w', g', h1, h2⟩
  · have hys : ys = [] := List.eq_nil_of_length_eq_zero h0
    subst hys
    refine ⟨v, w, G, [], h2, Moves.refl w, by simp, by rw [List.append_nil]; exact hv, fun k hk => .inl ⟨hk, ?_⟩, hGn⟩
    rcases hv with ⟨a, _, _, h3⟩ | ⟨g, cap, c, T, es, Fs, h1, h2, h3, h4, h5, h6, h7, h8, h9, h10⟩
    · rw [h3] at hk; simp at hk
    · have hFs : Fs.flatten = [] := by
        apply List.eq_nil_iff_forall_not_mem.2
        intro k hk
        obtain ⟨l, hl, hk⟩ := List.mem_flatten.1 hk
        obtain ⟨j, hj, rfl⟩ := List.mem_iff_getElem.1 hl
        rw [RepT.imm he (h8 j (by omega) (by omega) hj)] at hk; simp at hk
      rw [h10, hFs] at hk
      simp at hk; subst hk
      have h2' : w.heap[k]? = some (.cells c T (0, 0)) := h2
      exact (Array.getElem?_eq_some_iff.1 h2').1
  · obtain ⟨⟨cap, cells, T, r1, r2, r3, r4, r5, r6⟩, hmv⟩ := h2
    have hW : ∃ W, Moves w w' W ∧ (∀ k ∈ W, k ∈ G) ∧ ((g' ∈ G ∧ g' < w'.heap.size) ∨ (w.heap.size ≤ g' ∧ g' < w'.heap.size)) := by
      rcases hmv with ⟨hg, hmv, hs⟩ | ⟨rfl, hmv, hs⟩
      · obtain ⟨q1, q2⟩ := hG g' hg
        exact ⟨[g'], hmv, fun k hk => by simp at hk; subst hk; exact q1, .inl ⟨q1, by omega⟩⟩
      · exact ⟨[], hmv, by simp, .inr ⟨Nat.le_refl _, by omega⟩⟩
    obtain ⟨W, hmv', hWG, hg'⟩ := hW
    have hm : ∀ k, N k → memOf w' k = memOf w k := fun k hk => hmv'.block k (hN k hk).1 (fun h => (hN k hk).2 (hWG k h))
    refine ⟨v', w', [g'], W, h1, hmv', hWG, .inr ⟨g', cap, cells, T, es ++ ess, List.replicate (List.length (xs ++ ys)) [], by rw [r1]; simp, r2, by rw [r3, hes], by simpa using r4, r5, by simp [hesl, hl], by simp, fun j h h' h'' => by
      rw [List.getElem_replicate]; exact hall w' hm j h h', by rw [List.flatten_append]; exact r6, by simp⟩, fun k hk => by simp at hk; subst hk; exact hg', by simp⟩

/-- A row that is handed over, as what is appended. -/
theorem AppSrc.of_own {P : Program} {w : World} {N : Nat → Prop} {t' te : TypeId} {e : Ty} {ys : List e.den} {x : Value} {H : List Nat} (hy : RepT (memOf w) N (.own e) ys [x] H) (hn : H.Nodup) (ht : P.underlying t' = some (.slice te)) :
    ∃ (ess : List (List Value)) (Hs : List (List Nat)), AppSrc P w t' x e.sz ys.length ess.flatten ∧ ess.length = ys.length ∧ Hs.length = ys.length ∧ (∀ (i : Nat) (h : i < ys.length) (h' : i < ess.length) (h'' : i < Hs.length), RepT (memOf w) N e ys[i] ess[i] Hs[i]) ∧ (∀ k ∈ Hs.flatten, k ∈ H) ∧ Hs.flatten.Nodup := by
  rcases hy with ⟨a, h1, h2, h3⟩ | ⟨g, cap, c, T, es, Fs, h1, h2, h3, h4, h5, h6, h7, h8, h9, h10⟩
  · subst h2
    have h1' : x = .slice a 0 0 := by simpa using h1
    subst h1'
    refine ⟨[], [], ⟨.inl ⟨te, ht⟩, fun w' => by simp [Builtin.lenOf], fun w' hw => ?_, by simp⟩, rfl, rfl, fun i h => absurd h (by simp), by simp, List.nodup_nil⟩
    cases a with
    | none => simp [Builtin.firstCells]
    | some a => exact run_firstCells_some w' e.sz 0 a 0 0 [] (by simp) (by simp)
  · have h1' : x = .slice (some ⟨g, 0, none⟩) (List.length ys) cap := by simpa using h1
    subst h1'
    have hlen : ∀ y ∈ es, y.length = e.sz := by
      intro y hy
      obtain ⟨j, hj, rfl⟩ := List.mem_iff_getElem.1 hy
      exact (h8 j (by omega) hj (by omega)).len
    have hfl := flatten_len_of_len es hlen
    have hcl : cellsIn (memOf w) g 0 es.flatten := ⟨c, T, (0, 0), h2, fun j v hj => by
      rw [← h9, List.getElem?_take] at hj
      split at hj
      · simpa using hj
      · cases hj⟩
    refine ⟨es, Fs, ⟨.inl ⟨te, ht⟩, fun w' => by simp [Builtin.lenOf], fun w' hw => ?_, by rw [hfl, h6]⟩, h6, h7, fun i h h' h'' => h8 i h h' h'', fun k hk => by rw [h10]; exact List.mem_cons_of_mem _ hk, by rw [h10] at hn; exact (List.nodup_cons.1 hn).2⟩
    exact run_firstCells_some w' e.sz ys.length ⟨g, 0, none⟩ ys.length cap es.flatten (by rw [hfl, h6]) (fun j u hj => by
      rw [hw, Addr.add_none]; exact cell_of_in hcl j u hj)

/-- A row of the call's own is appended to; what is appended is handed over. -/
theorem append_rowD {P : Program} {w : World} {N : Nat → Prop} {t ty te : TypeId} {i : TypeInfo} {z : Value} {e : Ty} (ht : P.underlying t = some (.slice te)) (hi : P.info? te = some i) (hz : i.zero = some z) (hzs : z.cells.size = i.size) (hb0 : i.bytes ≠ 0) (hes : e.sz = i.size)
    {xs ys : List e.den} {v x : Value} {G H : List Nat} (hv : RepT (memOf w) N (.own e) xs [v] G) (hy : RepT (memOf w) N (.own e) ys [x] H) (hN : ∀ k, N k → k < w.heap.size ∧ k ∉ G) (hGl : ∀ k ∈ G, k < w.heap.size) (hHl : ∀ k ∈ H, k < w.heap.size) (hGn : G.Nodup) (hHn : H.Nodup) (hGH : ∀ k ∈ G, k ∉ H)
    (hbytes : (xs.length + ys.length) * i.bytes ≤ 140737488355328) :
    ∃ v' w' G' W, (Builtin.append_ #[t, t] ty #[v, x]).run P w = .ok v' w' ∧ Moves w w' W ∧ (∀ k ∈ W, k ∈ G) ∧ RepT (memOf w') N (.own e) (xs ++ ys) [v'] G' ∧ (∀ k ∈ G', ((k ∈ G ∨ k ∈ H) ∧ k < w'.heap.size) ∨ (w.heap.size ≤ k ∧ k < w'.heap.size)) ∧ G'.Nodup := by
  obtain ⟨ess, Hs, S, hl, hHs, hr, hHm, hHsn⟩ := AppSrc.of_own (P := P) (t' := t) hy hHn ht
  rw [hes] at S
  have hone : ∀ u ∈ ess.flatten, u.oneCell' = true := by
    intro u hu
    obtain ⟨l, h1, h2⟩ := List.mem_flatten.1 hu
    obtain ⟨j, hj, rfl⟩ := List.mem_iff_getElem.1 h1
    exact RepT.one' (hr j (by omega) hj (by omega)) u h2
  obtain ⟨es, Fs, g?, hesl, hFsl, her, hcase, hG, hFm, hFn⟩ : ∃ (es : List (List Value)) (Fs : List (List Nat)) (g? : Option Nat), es.length = xs.length ∧ Fs.length = xs.length ∧ (∀ (j : Nat) (h : j < xs.length) (h' : j < es.length) (h'' : j < Fs.length), RepT (memOf w) N e xs[j] es[j] Fs[j]) ∧
      ((∃ a, v = .slice a 0 0 ∧ xs.length = 0 ∧ es.flatten = []) ∨ ∃ g cap cur T, g? = some g ∧ v = .slice (some ⟨g, 0, none⟩) xs.length cap ∧ memOf w g = some (.cells cur T (0, 0)) ∧ cur.size = cap * i.size ∧ xs.length ≤ cap ∧ cap ≤ maxLen ∧ es.flatten.length = xs.length * i.size ∧ cur.toList.take (xs.length * i.size) = es.flatten) ∧
      (∀ g, g? = some g → g ∈ G ∧ g ∉ Fs.flatten) ∧ (∀ k ∈ Fs.flatten, k ∈ G) ∧ Fs.flatten.Nodup := by
    rcases hv with ⟨a, h1, h2, h3⟩ | ⟨g, cap, c, T, es, Fs, h1, h2, h3, h4, h5, h6, h7, h8, h9, h10⟩
    · subst h2
      exact ⟨[], [], none, rfl, rfl, fun j h => absurd h (by simp), .inl ⟨a, by simpa using h1, rfl, rfl⟩, by simp, by simp, List.nodup_nil⟩
    · have hfl : es.flatten.length = es.length * i.size := by
        rw [← hes]
        exact flatten_len_of_len es (by
          intro y hy
          obtain ⟨j, hj, rfl⟩ := List.mem_iff_getElem.1 hy
          exact (h8 j (by omega) hj (by omega)).len)
      rw [h10] at hGn
      refine ⟨es, Fs, some g, h6, h7, h8, .inr ⟨g, cap, c, T, rfl, by simpa using h1, h2, by rw [h3, hes], h4, h5, by rw [hfl, h6], by rw [← h6, ← hfl, h9]⟩, fun g' hg' => ?_, fun k hk => by rw [h10]; exact List.mem_cons_of_mem _ hk, (List.nodup_cons.1 hGn).2⟩
      injection hg' with hg'; subst hg'
      exact ⟨by rw [h10]; simp, (List.nodup_cons.1 hGn).1⟩
  rcases run_append_src (ty := ty) ht hi hz hzs hb0 S hone (g? := g?) hbytes hcase with ⟨h0, h1, h2⟩ | ⟨v', w', g', h1, h2⟩
  · have hys : ys = [] := List.eq_nil_of_length_eq_zero h0
    subst hys
    exact ⟨v, w, G, [], h2, Moves.refl w, by simp, by rw [List.append_nil]; exact hv, fun k hk => .inl ⟨.inl hk, hGl k hk⟩, hGn⟩
  · obtain ⟨⟨cap, cells, T, r1, r2, r3, r4, r5, r6⟩, hmv⟩ := h2
    have hW : ∃ W, Moves w w' W ∧ (∀ k ∈ W, k ∈ G) ∧ (∀ k ∈ W, k ∉ Fs.flatten) ∧ ((g' ∈ G ∧ g' ∉ Fs.flatten ∧ g' < w'.heap.size) ∨ (w.heap.size ≤ g' ∧ g' < w'.heap.size)) := by
      rcases hmv with ⟨hg, hmv, hs⟩ | ⟨rfl, hmv, hs⟩
      · obtain ⟨q1, q2⟩ := hG g' hg
        exact ⟨[g'], hmv, fun k hk => by simp at hk; subst hk; exact q1, fun k hk => by simp at hk; subst hk; exact q2, .inl ⟨q1, q2, by rw [hs]; exact hGl g' q1⟩⟩
      · exact ⟨[], hmv, by simp, by simp, .inr ⟨Nat.le_refl _, by omega⟩⟩
    obtain ⟨W, hmv', hWG, hWF, hg'⟩ := hW
    have hsz := hmv'.size
    have hm : ∀ k, N k → memOf w' k = memOf w k := fun k hk => hmv'.block k (hN k hk).1 (fun h => (hN k hk).2 (hWG k h))
    have hmF : ∀ k ∈ Fs.flatten, memOf w' k = memOf w k := fun k hk => hmv'.block k (hGl k (hFm k hk)) (fun h => hWF k h hk)
    have hmH : ∀ k ∈ Hs.flatten, memOf w' k = memOf w k := fun k hk => hmv'.block k (hHl k (hHm k hk)) (fun h => hGH k (hWG k h) (hHm k hk))
    have hgn : g' ∉ Fs.flatten ++ Hs.flatten := by
      intro hk
      rcases hg' with ⟨q1, q2, _⟩ | ⟨q1, _⟩
      · rcases List.mem_append.1 hk with hk | hk
        · exact q2 hk
        · exact hGH g' q1 (hHm g' hk)
      · rcases List.mem_append.1 hk with hk | hk
        · have := hGl g' (hFm g' hk); omega
        · have := hHl g' (hHm g' hk); omega
    refine ⟨v', w', g' :: (Fs.flatten ++ Hs.flatten), W, h1, hmv', hWG, .inr ⟨g', cap, cells, T, es ++ ess, Fs ++ Hs, by rw [r1]; simp, r2, by rw [r3, hes], by simpa using r4, r5, by simp [hesl, hl], by simp [hFsl, hHs], fun j h h' h'' => ?_, by rw [List.flatten_append]; exact r6, by simp⟩, fun k hk => ?_, List.nodup_cons.2 ⟨hgn, List.nodup_append.2 ⟨hFn, hHsn, fun p hp q hq e => ?_⟩⟩⟩
    · simp only [List.getElem_append]
      by_cases hj : j < xs.length
      · rw [dif_pos hj, dif_pos (by omega), dif_pos (by omega)]
        exact RepT.mono (fun b hb => ⟨hb, hm b hb⟩) (fun k hk => hmF k (List.mem_flatten.2 ⟨_, List.getElem_mem (by omega), hk⟩)) (her j hj (by omega) (by omega))
      · rw [dif_neg hj, dif_neg (by omega), dif_neg (by omega)]
        have := hr (j - xs.length) (by simp at h; omega) (by simp at h'; omega) (by simp at h''; omega)
        simp only [hesl, hFsl]
        exact RepT.mono (fun b hb => ⟨hb, hm b hb⟩) (fun k hk => hmH k (List.mem_flatten.2 ⟨_, List.getElem_mem (by simp at h''; omega), hk⟩)) this
    · rcases List.mem_cons.1 hk with rfl | hk
      · rcases hg' with ⟨q1, _, q3⟩ | q
        · exact .inl ⟨.inl q1, q3⟩
        · exact .inr q
      · rcases List.mem_append.1 hk with hk | hk
        · exact .inl ⟨.inl (hFm k hk), Nat.lt_of_lt_of_le (hGl k (hFm k hk)) hsz⟩
        · exact .inl ⟨.inr (hHm k hk), Nat.lt_of_lt_of_le (hHl k (hHm k hk)) hsz⟩
    · subst e
      exact hGH p (hFm p hp) (hHm p hq)

end Go.Proofs.YtofkhmedmeihiaaPn.Ev
