/- Texts laid together: EvP, EvQ, EvR, EvS, EvT, EvU, EvV, EvW, EvX; no condition but those that each theorem names. -/
import Derived.Test.YtndnhbihcnlpaaaDoorStEvO
import Derived.LoopN
/- The evaluator: append, and its effect. -/
namespace Go.Proofs.YtndnhbihcnlpaaaDoorSt.Ev
open Go

/-- A row that is read, its elements' data told by what is seen. -/
def Els (m : Mem) (N : Nat → Prop) (e : Ty) (xs : List e.den) (v : Value) : Prop :=
  ∃ (a : Option Addr) (cap : Nat) (es : List (List Value)), v = .slice a (List.length xs) cap ∧ List.length xs ≤ cap ∧ es.length = List.length xs ∧
    (∀ (i : Nat) (h : i < List.length xs) (h' : i < es.length), RepT m N e (xs[i]'h) es[i] []) ∧
    (xs ≠ [] → ∃ b off, a = some ⟨b, off, none⟩ ∧ cellsIn m b off es.flatten)

theorem Els.of_sl {m : Mem} {N : Nat → Prop} {e : Ty} {xs : List e.den} {v : Value} (h : RepT m N (.sl e) xs [v] []) : Els m N e xs v := by
  obtain ⟨_, a, cap, es, e1, h2, h3, h4, h5⟩ := h
  refine ⟨a, cap, es, by simpa using e1, h2, h3, h4, fun hn => ?_⟩
  obtain ⟨b, off, e, _, hc⟩ := h5 hn
  exact ⟨b, off, e, hc⟩

theorem Els.of_own {m : Mem} {N : Nat → Prop} {e : Ty} (he : e.isImm = true) {xs : List e.den} {v : Value} {F : List Nat} (h : RepT m N (.own e) xs [v] F) : Els m N e xs v := by
  rcases h with ⟨a, h1, h2, h3⟩ | ⟨g, cap, c, T, es, Fs, h1, h2, h3, h4, h5, h6, h7, h8, h9, h10⟩
  · subst h2
    exact ⟨a, 0, [], by simpa using h1, Nat.le_refl _, rfl, fun i h => absurd h (by simp), fun h => absurd rfl h⟩
  · refine ⟨_, cap, es, by simpa using h1, h4, h6, fun i hi hi' => ?_, fun _ => ⟨g, 0, rfl, c, T, (0, 0), h2, fun j v hj => ?_⟩⟩
    · have h8' := h8 i hi hi' (by omega)
      rwa [RepT.imm he h8'] at h8'
    · rw [← h9, List.getElem?_take] at hj
      split at hj
      · simpa using hj
      · cases hj

theorem Els.slice {m : Mem} {N : Nat → Prop} {e : Ty} {xs : List e.den} {hdv : Value} (h : Els m N e xs hdv) {lo hi : Nat} (h1 : lo ≤ hi) (h2 : hi ≤ xs.length) : Els m N e ((xs.take hi).drop lo) (subV hdv e.sz lo hi) := by
  obtain ⟨a, cap, es, e1, hc, hes, hr, hm⟩ := h
  subst e1
  have hlen : ∀ x ∈ es, x.length = e.sz := by
    intro x hx
    obtain ⟨i, hi, rfl⟩ := List.mem_iff_getElem.1 hx
    exact (hr i (by omega) hi).len
  have hl : List.length ((xs.take hi).drop lo) = hi - lo := by rw [List.length_drop, List.length_take]; omega
  refine ⟨if cap = lo then a else a.map (·.add (lo * e.sz)), cap - lo, (es.take hi).drop lo, ?_, by rw [hl]; omega, ?_, fun i hi1 hi2 => ?_, fun hn => ?_⟩
  · rw [hl]; rfl
  · rw [hl, List.length_drop, List.length_take]; omega
  · rw [hl] at hi1
    have := hr (lo + i) (by omega) (by omega)
    simpa using this
  · have hn' : xs ≠ [] := by intro e0; subst e0; simp at hn
    obtain ⟨b, off, ea, hcell⟩ := hm hn'
    have hne : lo < hi := by
      have h0 : 0 < List.length ((xs.take hi).drop lo) := List.length_pos_iff.2 hn
      rw [hl] at h0; omega
    subst ea
    refine ⟨b, off + lo * e.sz, ?_, ?_⟩
    · rw [if_neg (by omega)]
      simp [Addr.add_none]
    · have := hcell.sub (lo * e.sz) ((hi - lo) * e.sz)
      rwa [flatten_drop_of_len es lo hlen, flatten_take_of_len (es.drop lo) (hi - lo) (fun x hx => hlen x (List.mem_of_mem_drop hx)), ← List.drop_take] at this

section
variable {R : Type} {r : R}
theorem getSl_els {c : C} {s : Sto} {K : (e : Ty) → List e.den → List Nat → Option R} (h : getSl c s K = some r) :
    ∃ e xs m, K e xs m = some r ∧ ∀ s' : Sto, (∀ i ∈ m, s' i = s i) → ∀ {mem : Mem} {N : Nat → Prop} {hd : Nat → Value} {F : Nat → List Nat} {size : Nat}, SInv mem N s' hd F size → ∀ v, RepC mem N s' hd c v →
      e.isImm = true → Els mem N e xs v := by
  cases c with
  | imm τ x =>
    cases τ with
    | sl e => exact ⟨e, x, [], h, fun s' _ mem N hd F size I v hv he => Els.of_sl hv⟩
    | _ => cases h
  | own id ver =>
    simp only [getSl] at h
    split at h
    · rename_i v e xs hs
      split at h
      · rename_i hv
        subst hv
        refine ⟨e, xs, [id], h, fun s' hs' mem N hd F size I u hu he => ?_⟩
        have hid := hs' id (by simp); rw [hs] at hid
        have hob := I.obj id; rw [hid] at hob
        have e1 := RepC.own_hd hu hid rfl
        subst e1
        exact Els.of_own he hob
      · cases h
    · rename_i v e xs hs
      split at h
      · rename_i hv
        subst hv
        refine ⟨e, xs, [id], h, fun s' hs' mem N hd F size I u hu he => ?_⟩
        have hid := hs' id (by simp); rw [hs] at hid
        have hob := I.obj id; rw [hid] at hob
        have e1 := RepC.own_hd hu hid rfl
        subst e1
        exact Els.of_sl hob.2
      · cases h
    · cases h
  | sub id ver lo hi =>
    simp only [getSl] at h
    split at h
    · rename_i v e xs hs
      split at h
      · rename_i hv
        subst hv
        refine ⟨e, _, [id], h, fun s' hs' mem N hd F size I u hu he => ?_⟩
        have hid := hs' id (by simp); rw [hs] at hid
        have hob := I.obj id; rw [hid] at hob
        obtain ⟨e1, e2, e3⟩ := RepC.sub_hd hu hid rfl
        rw [e1]
        exact (Els.of_own he hob).slice e2 e3
      · cases h
    · rename_i v e xs hs
      split at h
      · rename_i hv
        subst hv
        refine ⟨e, _, [id], h, fun s' hs' mem N hd F size I u hu he => ?_⟩
        have hid := hs' id (by simp); rw [hs] at hid
        have hob := I.obj id; rw [hid] at hob
        obtain ⟨e1, e2, e3⟩ := RepC.sub_hd hu hid rfl
        rw [e1]
        exact (Els.of_sl hob.2).slice e2 e3
      · cases h
    · cases h
  | _ => cases h
end

/-- What is appended and what its elements stand for. -/
def SrcOK (P : Program) (w : World) (N : Nat → Prop) (t' : TypeId) (e : Ty) (ys : List e.den) (v : Value) : Prop :=
  ∃ ess : List (List Value), AppSrc P w t' v e.sz ys.length ess.flatten ∧ ess.length = ys.length ∧ ∀ (i : Nat) (h : i < ys.length) (h' : i < ess.length), RepT (memOf w) N e ys[i] ess[i] []

theorem Els.src {P : Program} {w : World} {N : Nat → Prop} {t' te : TypeId} {e : Ty} {ys : List e.den} {v : Value} (h : Els (memOf w) N e ys v) (ht : P.underlying t' = some (.slice te)) : SrcOK P w N t' e ys v := by
  obtain ⟨a, cap, es, rfl, hc, hes, hr, hm⟩ := h
  have hlen : ∀ x ∈ es, x.length = e.sz := by
    intro x hx
    obtain ⟨i, hi, rfl⟩ := List.mem_iff_getElem.1 hx
    exact (hr i (by omega) hi).len
  have hfl := flatten_len_of_len es hlen
  refine ⟨es, ⟨.inl ⟨te, ht⟩, fun w' => by simp [Builtin.lenOf], fun w' hw => ?_, by rw [hfl, hes]⟩, hes, hr⟩
  by_cases hne : ys = []
  · have hes0 : es = [] := by rw [hne] at hes; simpa using hes
    subst hes0
    cases a with
    | none => simp [Builtin.firstCells]
    | some a => 
      have := run_firstCells_some (P := P) w' e.sz ys.length a ys.length cap [] (by simp [hne]) (by simp)
      simpa using this
  · obtain ⟨b, off, rfl, hcl⟩ := hm hne
    exact run_firstCells_some w' e.sz ys.length ⟨b, off, none⟩ ys.length cap es.flatten (by rw [hfl, hes]) (fun j u hj => by
      rw [hw, Addr.add_none]; exact cell_of_in hcl j u hj)

theorem src_str {P : Program} {w : World} {N : Nat → Prop} {t' : TypeId} {y : List UInt8} (ht : P.underlying t' = some .string) : SrcOK P w N t' (.int .u8) (strBytes y) (.string ⟨⟨y⟩⟩) := by
  have hf : (y.map fun b => [Value.int .u8 (b.toNat : Int)]).flatten = y.map fun b => Value.int .u8 (b.toNat : Int) := by
    induction y with
    | nil => rfl
    | cons b y ih => simp [ih]
  refine ⟨y.map fun b => [Value.int .u8 (b.toNat : Int)], ⟨.inr ht, fun w' => by simp [Builtin.lenOf, strBytes, size_mk], fun w' hw => ?_, by rw [hf]; simp [strBytes, Ty.sz]⟩, by simp [strBytes], fun i h h' => ?_⟩
  · rw [hf]
    have : (ByteArray.extract ⟨⟨y⟩⟩ 0 (List.length (strBytes y))) = ⟨⟨y⟩⟩ := by
      rw [extract_mk]; simp [strBytes]
    simp only [Builtin.firstCells, this]
    simp
  · simp [strBytes]
    exact ⟨rfl, rfl⟩

theorem srcK_ok {R : Type} {r : R} {x : C} {s : Sto} {K : (e : Ty) → List e.den → List Nat → Option R} (h : srcK x s K = some r) :
    ∃ e ys m, K e ys m = some r ∧ ∀ s' : Sto, (∀ i ∈ m, s' i = s i) → ∀ {P : Program} {w : World} {N : Nat → Prop} {hd : Nat → Value} {F : Nat → List Nat}, SInv (memOf w) N s' hd F w.heap.size → ∀ v, RepC (memOf w) N s' hd x v →
      ∀ t', ((∃ y, x = .imm .str y) → P.underlying t' = some .string) → ((¬ ∃ y, x = .imm .str y) → ∃ te, P.underlying t' = some (.slice te)) → e.isImm = true → SrcOK P w N t' e ys v := by
  unfold srcK at h
  split at h
  · rename_i y
    refine ⟨_, _, _, h, fun s' _ P w N hd F I v hv t' h1 _ _ => ?_⟩
    rw [imm_str hv]
    exact src_str (h1 ⟨y, rfl⟩)
  · rename_i hx
    obtain ⟨e, ys, m, h, hg⟩ := getSl_els h
    refine ⟨e, ys, m, h, fun s' hs P w N hd F I v hv t' _ h2 he => ?_⟩
    obtain ⟨te, hte⟩ := h2 (fun ⟨y, hy⟩ => hx y hy)
    exact (hg s' hs I v hv he).src hte

/-- A row of the call's own is appended to. -/
theorem append_row {P : Program} {w : World} {N : Nat → Prop} {t t' ty te : TypeId} {i : TypeInfo} {z : Value} {e : Ty} (he : e.isImm = true) (ht : P.underlying t = some (.slice te)) (hi : P.info? te = some i) (hz : i.zero = some z) (hzs : z.cells.size = i.size) (hb0 : i.bytes ≠ 0) (hes : e.sz = i.size)
    {xs ys : List e.den} {v x : Value} {G : List Nat} (hv : RepT (memOf w) N (.own e) xs [v] G) (hN : ∀ k, N k → k < w.heap.size ∧ k ∉ G) (S : SrcOK P w N t' e ys x) (hbytes : (xs.length + ys.length) * i.bytes ≤ 140737488355328) :
    ∃ v' w' G' W, (Builtin.append_ #[t, t'] ty #[v, x]).run P w = .ok v' w' ∧ Moves w w' W ∧ (∀ k ∈ W, k ∈ G) ∧ RepT (memOf w') N (.own e) (xs ++ ys) [v'] G' ∧ (∀ k ∈ G', (k ∈ G ∧ k < w'.heap.size) ∨ (w.heap.size ≤ k ∧ k < w'.heap.size)) ∧ G'.Nodup := by
  obtain ⟨ess, S, hl, hr⟩ := S
  rw [hes] at S
  have hone : ∀ u ∈ ess.flatten, u.oneCell' = true := by
    intro u hu
    obtain ⟨l, h1, h2⟩ := List.mem_flatten.1 hu
    obtain ⟨j, hj, rfl⟩ := List.mem_iff_getElem.1 h1
    exact RepT.one' (hr j (by omega) hj) u h2
  obtain ⟨es, g?, hesl, her, hcase, hG, hGn⟩ : ∃ (es : List (List Value)) (g? : Option Nat), es.length = xs.length ∧ (∀ (j : Nat) (h : j < xs.length) (h' : j < es.length), RepT (memOf w) N e xs[j] es[j] []) ∧
      ((∃ a, v = .slice a 0 0 ∧ xs.length = 0 ∧ es.flatten = []) ∨ ∃ g cap cur T, g? = some g ∧ v = .slice (some ⟨g, 0, none⟩) xs.length cap ∧ memOf w g = some (.cells cur T (0, 0)) ∧ cur.size = cap * i.size ∧ xs.length ≤ cap ∧ cap ≤ maxLen ∧ es.flatten.length = xs.length * i.size ∧ cur.toList.take (xs.length * i.size) = es.flatten) ∧
      (∀ g, g? = some g → g ∈ G ∧ g < w.heap.size) ∧ G.Nodup := by
    rcases hv with ⟨a, h1, h2, h3⟩ | ⟨g, cap, c, T, es, Fs, h1, h2, h3, h4, h5, h6, h7, h8, h9, h10⟩
    · subst h2
      exact ⟨[], none, rfl, fun j h => absurd h (by simp), .inl ⟨a, by simpa using h1, rfl, rfl⟩, by simp, by rw [h3]; exact List.nodup_nil⟩
    · have her : ∀ (j : Nat) (h : j < List.length xs) (h' : j < es.length), RepT (memOf w) N e xs[j] es[j] [] := fun j h h' => by
        have := h8 j h h' (by omega)
        rwa [RepT.imm he this] at this
      have hFs : Fs.flatten = [] := by
        apply List.eq_nil_iff_forall_not_mem.2
        intro k hk
        obtain ⟨l, hl, hk⟩ := List.mem_flatten.1 hk
        obtain ⟨j, hj, rfl⟩ := List.mem_iff_getElem.1 hl
        rw [RepT.imm he (h8 j (by omega) (by omega) hj)] at hk; simp at hk
      have hfl : es.flatten.length = es.length * i.size := by
        rw [← hes]
        exact flatten_len_of_len es (by
          intro y hy
          obtain ⟨j, hj, rfl⟩ := List.mem_iff_getElem.1 hy
          exact (her j (by omega) hj).len)
      refine ⟨es, some g, h6, her, .inr ⟨g, cap, c, T, rfl, by simpa using h1, h2, by rw [h3, hes], h4, h5, by rw [hfl, h6], by rw [← h6, ← hfl, h9]⟩, fun g' hg' => ?_, by rw [h10, hFs]; simp⟩
      injection hg' with hg'; subst hg'
      refine ⟨by rw [h10]; simp, ?_⟩
      have h2' : w.heap[g]? = some (.cells c T (0, 0)) := h2
      exact (Array.getElem?_eq_some_iff.1 h2').1
  have hall : ∀ w', (∀ k, N k → memOf w' k = memOf w k) → ∀ (j : Nat) (h : j < (xs ++ ys).length) (h' : j < (es ++ ess).length), RepT (memOf w') N e (xs ++ ys)[j] (es ++ ess)[j] [] := by
    intro w' hm j h h'
    rw [List.getElem_append, List.getElem_append]
    by_cases hj : j < xs.length
    · rw [dif_pos hj, dif_pos (by omega)]
      exact RepT.mono (fun b hb => ⟨hb, hm b hb⟩) (by simp) (her j hj (by omega))
    · rw [dif_neg hj, dif_neg (by omega)]
      have := hr (j - xs.length) (by simp at h; omega) (by simp at h'; omega)
      simp only [hesl]
      exact RepT.mono (fun b hb => ⟨hb, hm b hb⟩) (by simp) this
  rcases run_append_src (ty := ty) ht hi hz hzs hb0 S hone (g? := g?) hbytes hcase with ⟨h0, h1, h2⟩ | ⟨v', w', g', h1, h2⟩
  · have hys : ys = [] := List.eq_nil_of_length_eq_zero h0
    subst hys
    refine ⟨v, w, G, [], h2, Moves.refl w, by simp, by rw [List.append_nil]; exact hv, fun k hk => .inl ⟨hk, ?_⟩, hGn⟩
    rcases hv with ⟨a, _, _, h3⟩ | ⟨g, cap, c, T, es, Fs, h1, h2, h3, h4, h5, h6, h7, h8, h9, h10⟩
    · rw [h3] at hk; simp at hk
    · have hFs : Fs.flatten = [] := by
        apply List.eq_nil_iff_forall_not_mem.2
        intro k hk
        obtain ⟨l, hl, hk⟩ := List.mem_flatten.1 hk
        obtain ⟨j, hj, rfl⟩ := List.mem_iff_getElem.1 hl
        rw [RepT.imm he (h8 j (by omega) (by omega) hj)] at hk; simp at hk
      rw [h10, hFs] at hk
      simp at hk; subst hk
      have h2' : w.heap[k]? = some (.cells c T (0, 0)) := h2
      exact (Array.getElem?_eq_some_iff.1 h2').1
  · obtain ⟨⟨cap, cells, T, r1, r2, r3, r4, r5, r6⟩, hmv⟩ := h2
    have hW : ∃ W, Moves w w' W ∧ (∀ k ∈ W, k ∈ G) ∧ ((g' ∈ G ∧ g' < w'.heap.size) ∨ (w.heap.size ≤ g' ∧ g' < w'.heap.size)) := by
      rcases hmv with ⟨hg, hmv, hs⟩ | ⟨rfl, hmv, hs⟩
      · obtain ⟨q1, q2⟩ := hG g' hg
        exact ⟨[g'], hmv, fun k hk => by simp at hk; subst hk; exact q1, .inl ⟨q1, by omega⟩⟩
      · exact ⟨[], hmv, by simp, .inr ⟨Nat.le_refl _, by omega⟩⟩
    obtain ⟨W, hmv', hWG, hg'⟩ := hW
    have hm : ∀ k, N k → memOf w' k = memOf w k := fun k hk => hmv'.block k (hN k hk).1 (fun h => (hN k hk).2 (hWG k h))
    refine ⟨v', w', [g'], W, h1, hmv', hWG, .inr ⟨g', cap, cells, T, es ++ ess, List.replicate (List.length (xs ++ ys)) [], by rw [r1]; simp, r2, by rw [r3, hes], by simpa using r4, r5, by simp [hesl, hl], by simp, fun j h h' h'' => by
      rw [List.getElem_replicate]; exact hall w' hm j h h', by rw [List.flatten_append]; exact r6, by simp⟩, fun k hk => by simp at hk; subst hk; exact hg', by simp⟩

/-- A row that is handed over, as what is appended. -/
theorem AppSrc.of_own {P : Program} {w : World} {N : Nat → Prop} {t' te : TypeId} {e : Ty} {ys : List e.den} {x : Value} {H : List Nat} (hy : RepT (memOf w) N (.own e) ys [x] H) (hn : H.Nodup) (ht : P.underlying t' = some (.slice te)) :
    ∃ (ess : List (List Value)) (Hs : List (List Nat)), AppSrc P w t' x e.sz ys.length ess.flatten ∧ ess.length = ys.length ∧ Hs.length = ys.length ∧ (∀ (i : Nat) (h : i < ys.length) (h' : i < ess.length) (h'' : i < Hs.length), RepT (memOf w) N e ys[i] ess[i] Hs[i]) ∧ (∀ k ∈ Hs.flatten, k ∈ H) ∧ Hs.flatten.Nodup := by
  rcases hy with ⟨a, h1, h2, h3⟩ | ⟨g, cap, c, T, es, Fs, h1, h2, h3, h4, h5, h6, h7, h8, h9, h10⟩
  · subst h2
    have h1' : x = .slice a 0 0 := by simpa using h1
    subst h1'
    refine ⟨[], [], ⟨.inl ⟨te, ht⟩, fun w' => by simp [Builtin.lenOf], fun w' hw => ?_, by simp⟩, rfl, rfl, fun i h => absurd h (by simp), by simp, List.nodup_nil⟩
    cases a with
    | none => simp [Builtin.firstCells]
    | some a => exact run_firstCells_some w' e.sz 0 a 0 0 [] (by simp) (by simp)
  · have h1' : x = .slice (some ⟨g, 0, none⟩) (List.length ys) cap := by simpa using h1
    subst h1'
    have hlen : ∀ y ∈ es, y.length = e.sz := by
      intro y hy
      obtain ⟨j, hj, rfl⟩ := List.mem_iff_getElem.1 hy
      exact (h8 j (by omega) hj (by omega)).len
    have hfl := flatten_len_of_len es hlen
    have hcl : cellsIn (memOf w) g 0 es.flatten := ⟨c, T, (0, 0), h2, fun j v hj => by
      rw [← h9, List.getElem?_take] at hj
      split at hj
      · simpa using hj
      · cases hj⟩
    refine ⟨es, Fs, ⟨.inl ⟨te, ht⟩, fun w' => by simp [Builtin.lenOf], fun w' hw => ?_, by rw [hfl, h6]⟩, h6, h7, fun i h h' h'' => h8 i h h' h'', fun k hk => by rw [h10]; exact List.mem_cons_of_mem _ hk, by rw [h10] at hn; exact (List.nodup_cons.1 hn).2⟩
    exact run_firstCells_some w' e.sz ys.length ⟨g, 0, none⟩ ys.length cap es.flatten (by rw [hfl, h6]) (fun j u hj => by
      rw [hw, Addr.add_none]; exact cell_of_in hcl j u hj)

/-- A row of the call's own is appended to; what is appended is handed over. -/
theorem append_rowD {P : Program} {w : World} {N : Nat → Prop} {t ty te : TypeId} {i : TypeInfo} {z : Value} {e : Ty} (ht : P.underlying t = some (.slice te)) (hi : P.info? te = some i) (hz : i.zero = some z) (hzs : z.cells.size = i.size) (hb0 : i.bytes ≠ 0) (hes : e.sz = i.size)
    {xs ys : List e.den} {v x : Value} {G H : List Nat} (hv : RepT (memOf w) N (.own e) xs [v] G) (hy : RepT (memOf w) N (.own e) ys [x] H) (hN : ∀ k, N k → k < w.heap.size ∧ k ∉ G) (hGl : ∀ k ∈ G, k < w.heap.size) (hHl : ∀ k ∈ H, k < w.heap.size) (hGn : G.Nodup) (hHn : H.Nodup) (hGH : ∀ k ∈ G, k ∉ H)
    (hbytes : (xs.length + ys.length) * i.bytes ≤ 140737488355328) :
    ∃ v' w' G' W, (Builtin.append_ #[t, t] ty #[v, x]).run P w = .ok v' w' ∧ Moves w w' W ∧ (∀ k ∈ W, k ∈ G) ∧ RepT (memOf w') N (.own e) (xs ++ ys) [v'] G' ∧ (∀ k ∈ G', ((k ∈ G ∨ k ∈ H) ∧ k < w'.heap.size) ∨ (w.heap.size ≤ k ∧ k < w'.heap.size)) ∧ G'.Nodup := by
  obtain ⟨ess, Hs, S, hl, hHs, hr, hHm, hHsn⟩ := AppSrc.of_own (P := P) (t' := t) hy hHn ht
  rw [hes] at S
  have hone : ∀ u ∈ ess.flatten, u.oneCell' = true := by
    intro u hu
    obtain ⟨l, h1, h2⟩ := List.mem_flatten.1 hu
    obtain ⟨j, hj, rfl⟩ := List.mem_iff_getElem.1 h1
    exact RepT.one' (hr j (by omega) hj (by omega)) u h2
  obtain ⟨es, Fs, g?, hesl, hFsl, her, hcase, hG, hFm, hFn⟩ : ∃ (es : List (List Value)) (Fs : List (List Nat)) (g? : Option Nat), es.length = xs.length ∧ Fs.length = xs.length ∧ (∀ (j : Nat) (h : j < xs.length) (h' : j < es.length) (h'' : j < Fs.length), RepT (memOf w) N e xs[j] es[j] Fs[j]) ∧
      ((∃ a, v = .slice a 0 0 ∧ xs.length = 0 ∧ es.flatten = []) ∨ ∃ g cap cur T, g? = some g ∧ v = .slice (some ⟨g, 0, none⟩) xs.length cap ∧ memOf w g = some (.cells cur T (0, 0)) ∧ cur.size = cap * i.size ∧ xs.length ≤ cap ∧ cap ≤ maxLen ∧ es.flatten.length = xs.length * i.size ∧ cur.toList.take (xs.length * i.size) = es.flatten) ∧
      (∀ g, g? = some g → g ∈ G ∧ g ∉ Fs.flatten) ∧ (∀ k ∈ Fs.flatten, k ∈ G) ∧ Fs.flatten.Nodup := by
    rcases hv with ⟨a, h1, h2, h3⟩ | ⟨g, cap, c, T, es, Fs, h1, h2, h3, h4, h5, h6, h7, h8, h9, h10⟩
    · subst h2
      exact ⟨[], [], none, rfl, rfl, fun j h => absurd h (by simp), .inl ⟨a, by simpa using h1, rfl, rfl⟩, by simp, by simp, List.nodup_nil⟩
    · have hfl : es.flatten.length = es.length * i.size := by
        rw [← hes]
        exact flatten_len_of_len es (by
          intro y hy
          obtain ⟨j, hj, rfl⟩ := List.mem_iff_getElem.1 hy
          exact (h8 j (by omega) hj (by omega)).len)
      rw [h10] at hGn
      refine ⟨es, Fs, some g, h6, h7, h8, .inr ⟨g, cap, c, T, rfl, by simpa using h1, h2, by rw [h3, hes], h4, h5, by rw [hfl, h6], by rw [← h6, ← hfl, h9]⟩, fun g' hg' => ?_, fun k hk => by rw [h10]; exact List.mem_cons_of_mem _ hk, (List.nodup_cons.1 hGn).2⟩
      injection hg' with hg'; subst hg'
      exact ⟨by rw [h10]; simp, (List.nodup_cons.1 hGn).1⟩
  rcases run_append_src (ty := ty) ht hi hz hzs hb0 S hone (g? := g?) hbytes hcase with ⟨h0, h1, h2⟩ | ⟨v', w', g', h1, h2⟩
  · have hys : ys = [] := List.eq_nil_of_length_eq_zero h0
    subst hys
    exact ⟨v, w, G, [], h2, Moves.refl w, by simp, by rw [List.append_nil]; exact hv, fun k hk => .inl ⟨.inl hk, hGl k hk⟩, hGn⟩
  · obtain ⟨⟨cap, cells, T, r1, r2, r3, r4, r5, r6⟩, hmv⟩ := h2
    have hW : ∃ W, Moves w w' W ∧ (∀ k ∈ W, k ∈ G) ∧ (∀ k ∈ W, k ∉ Fs.flatten) ∧ ((g' ∈ G ∧ g' ∉ Fs.flatten ∧ g' < w'.heap.size) ∨ (w.heap.size ≤ g' ∧ g' < w'.heap.size)) := by
      rcases hmv with ⟨hg, hmv, hs⟩ | ⟨rfl, hmv, hs⟩
      · obtain ⟨q1, q2⟩ := hG g' hg
        exact ⟨[g'], hmv, fun k hk => by simp at hk; subst hk; exact q1, fun k hk => by simp at hk; subst hk; exact q2, .inl ⟨q1, q2, by rw [hs]; exact hGl g' q1⟩⟩
      · exact ⟨[], hmv, by simp, by simp, .inr ⟨Nat.le_refl _, by omega⟩⟩
    obtain ⟨W, hmv', hWG, hWF, hg'⟩ := hW
    have hsz := hmv'.size
    have hm : ∀ k, N k → memOf w' k = memOf w k := fun k hk => hmv'.block k (hN k hk).1 (fun h => (hN k hk).2 (hWG k h))
    have hmF : ∀ k ∈ Fs.flatten, memOf w' k = memOf w k := fun k hk => hmv'.block k (hGl k (hFm k hk)) (fun h => hWF k h hk)
    have hmH : ∀ k ∈ Hs.flatten, memOf w' k = memOf w k := fun k hk => hmv'.block k (hHl k (hHm k hk)) (fun h => hGH k (hWG k h) (hHm k hk))
    have hgn : g' ∉ Fs.flatten ++ Hs.flatten := by
      intro hk
      rcases hg' with ⟨q1, q2, _⟩ | ⟨q1, _⟩
      · rcases List.mem_append.1 hk with hk | hk
        · exact q2 hk
        · exact hGH g' q1 (hHm g' hk)
      · rcases List.mem_append.1 hk with hk | hk
        · have := hGl g' (hFm g' hk); omega
        · have := hHl g' (hHm g' hk); omega
    refine ⟨v', w', g' :: (Fs.flatten ++ Hs.flatten), W, h1, hmv', hWG, .inr ⟨g', cap, cells, T, es ++ ess, Fs ++ Hs, by rw [r1]; simp, r2, by rw [r3, hes], by simpa using r4, r5, by simp [hesl, hl], by simp [hFsl, hHs], fun j h h' h'' => ?_, by rw [List.flatten_append]; exact r6, by simp⟩, fun k hk => ?_, List.nodup_cons.2 ⟨hgn, List.nodup_append.2 ⟨hFn, hHsn, fun p hp q hq e => ?_⟩⟩⟩
    · simp only [List.getElem_append]
      by_cases hj : j < xs.length
      · rw [dif_pos hj, dif_pos (by omega), dif_pos (by omega)]
        exact RepT.mono (fun b hb => ⟨hb, hm b hb⟩) (fun k hk => hmF k (List.mem_flatten.2 ⟨_, List.getElem_mem (by omega), hk⟩)) (her j hj (by omega) (by omega))
      · rw [dif_neg hj, dif_neg (by omega), dif_neg (by omega)]
        have := hr (j - xs.length) (by simp at h; omega) (by simp at h'; omega) (by simp at h''; omega)
        simp only [hesl, hFsl]
        exact RepT.mono (fun b hb => ⟨hb, hm b hb⟩) (fun k hk => hmH k (List.mem_flatten.2 ⟨_, List.getElem_mem (by simp at h''; omega), hk⟩)) this
    · rcases List.mem_cons.1 hk with rfl | hk
      · rcases hg' with ⟨q1, _, q3⟩ | q
        · exact .inl ⟨.inl q1, q3⟩
        · exact .inr q
      · rcases List.mem_append.1 hk with hk | hk
        · exact .inl ⟨.inl (hFm k hk), Nat.lt_of_lt_of_le (hGl k (hFm k hk)) hsz⟩
        · exact .inl ⟨.inr (hHm k hk), Nat.lt_of_lt_of_le (hHl k (hHm k hk)) hsz⟩
    · subst e
      exact hGH p (hFm p hp) (hHm p hq)

end Go.Proofs.YtndnhbihcnlpaaaDoorSt.Ev

/- The evaluator: the append operation. -/
namespace Go.Proofs.YtndnhbihcnlpaaaDoorSt.Ev
open Go

theorem RepT.own_take {m : Mem} {N : Nat → Prop} {e : Ty} (he : e.isImm = true) {xs : List e.den} {v : Value} {F : List Nat} (h : RepT m N (.own e) xs [v] F) {hi : Nat} (hh : hi ≤ xs.length) : RepT m N (.own e) (xs.take hi) [subV v e.sz 0 hi] F := by
  rcases h with ⟨a, h1, h2, h3⟩ | ⟨g, cap, c, T, es, Fs, h1, h2, h3, h4, h5, h6, h7, h8, h9, h10⟩
  · subst h2
    have hv : v = .slice a 0 0 := by simpa using h1
    simp at hh; subst hh
    exact .inl ⟨a, by rw [hv]; simp [subV], by simp, h3⟩
  · have hv : v = .slice (some ⟨g, 0, none⟩) (List.length xs) cap := by simpa using h1
    have hlt : List.length (xs.take hi) = hi := by rw [List.length_take]; omega
    have hlen : ∀ y ∈ es, y.length = e.sz := by
      intro y hy
      obtain ⟨j, hj, rfl⟩ := List.mem_iff_getElem.1 hy
      exact (h8 j (by omega) hj (by omega)).len
    have hFs : ∀ l ∈ Fs, l = [] := by
      intro l hl
      obtain ⟨j, hj, rfl⟩ := List.mem_iff_getElem.1 hl
      exact RepT.imm he (h8 j (by omega) (by omega) hj)
    have hf0 : ∀ L : List (List Nat), (∀ l ∈ L, l = []) → L.flatten = [] := by
      intro L hL
      apply List.eq_nil_iff_forall_not_mem.2
      intro k hk
      obtain ⟨l, hl, hk⟩ := List.mem_flatten.1 hk
      rw [hL l hl] at hk; simp at hk
    refine .inr ⟨g, cap, c, T, es.take hi, Fs.take hi, ?_, h2, h3, by omega, h5, by rw [List.length_take, hlt]; omega, by rw [List.length_take, hlt]; omega, fun i hi1 hi2 hi3 => ?_, ?_, ?_⟩
    · rw [hv, hlt]
      by_cases hc : cap = 0 <;> simp [subV, hc, Addr.add_none]
    · have := h8 i (by omega) (by rw [List.length_take] at hi2; omega) (by rw [List.length_take] at hi3; omega)
      simpa using this
    · have e1 := flatten_take_of_len es hi hlen
      have h12 : es.flatten.length ≤ c.toList.length := by
        have := congrArg List.length h9
        rw [List.length_take] at this; omega
      rw [← e1]
      conv => rhs; rw [← h9]
      rw [List.take_take, List.length_take]
    · rw [h10, hf0 Fs hFs, hf0 (Fs.take hi) (fun l hl => hFs l (List.mem_of_mem_take hl))]

section
variable {E : Env} {O : Oracle E} {X : Ctx} {o : Oper} {st : St} {R : Type} {K : Eff → Option R} {r : R}

/-- An object gets a new version over a row that was appended to. -/
theorem left_row {st' : St} {w w' : World} {N : Nat → Prop} {hd : Nat → Value} {F : Nat → List Nat} (I : SInv (memOf w) N st'.o hd F w.heap.size) {id ver : Nat} {e : Ty} {xs : List e.den} {v' : Value} {G G' W : List Nat} {s0 : Sto} {rd : List Nat}
    (hver : (st'.o id).1 < ver) (hG : ∀ k ∈ G, k ∈ F id) (hmv : Moves w w' W) (hW : ∀ k ∈ W, k ∈ G) (hr : RepT (memOf w') N (.own e) xs [v'] G') (hG' : ∀ k ∈ G', (k ∈ G ∧ k < w'.heap.size) ∨ (w.heap.size ≤ k ∧ k < w'.heap.size)) (hnd : G'.Nodup) :
    ∃ s' N' hd' F', Left X st' { v := .one (.own id ver), s := s0.set id (ver, .vec e xs), w := [id], r := rd } w N hd F v' w' W s' N' hd' F' := by
  have hmN : ∀ b, N b → memOf w' b = memOf w b := fun b hb => hmv.block b (I.ltN b hb) (fun h => I.sep id b (hG b (hW b h)) hb)
  have hgo : Goes st'.o (st'.o.set id (ver, .vec e xs)) hd (fun i => if i = id then v' else hd i) := Goes.set_new id ver _ hver (fun i hi => by simp [hi])
  have hone := RepT.one' hr v' (by simp)
  refine ⟨st'.o.set id (ver, .vec e xs), N, _, _, fun i hi => ?_, fun i hi => ?_, hmv, fun k hk => ⟨id, hG k (hW k hk)⟩, I.upd (m' := memOf w') (N' := N) (hd' := fun i => if i = id then v' else hd i) id (ver, .vec e xs) G' hmv.size (fun b hb => ⟨hb, hmN b hb⟩) (fun k hk => ⟨Nat.lt_of_lt_of_le (I.ltN k hk) hmv.size, fun i _ hi => I.sep i k hi hk, fun h => ?_⟩)
    (fun i hi k hk => hmv.block k (I.ltF i k hk) (fun h => hi (I.once i id k hk (hG k (hW k h))))) hnd (fun k hk => ⟨?_, fun i hi h => ?_⟩) hgo (fun i hi => by simp [hi]) (by simp only [if_true]; exact hr), fun _ h => h, hgo, fun _ h => .inl h, fun i k hk => ?_, ?_⟩
  · simp at hi; subst hi
    show _ = (s0.set _ _) _
    rw [Sto.set_same, Sto.set_same]
  · simp at hi
    exact Sto.set_ne _ _ hi
  · rcases hG' k h with h' | h'
    · exact I.sep id k (hG k h'.1) hk
    · have := I.ltN k hk; omega
  · rcases hG' k hk with h' | h'
    · exact h'.2
    · exact h'.2
  · rcases hG' k hk with h' | h'
    · exact hi (I.once i id k h (hG k h'.1))
    · have := I.ltF i k h; omega
  · by_cases h : i = id
    · simp only [h, if_true] at hk
      rcases hG' k hk with h' | h'
      · exact .inl ⟨id, hG k h'.1⟩
      · exact .inr h'.1
    · simp only [h, if_false] at hk
      exact .inl ⟨i, hk⟩
  · refine ⟨by simp [Sto.set_same], hone, fun _ _ => by simp⟩

theorem deepOf_some {x : C} {s : Sto} {id v : Nat} {e : Ty} {ys : List e.den} (h : deepOf x s = some (id, v, ⟨e, ys⟩)) : x = .own id v ∧ s id = (v, .vec e ys) := by
  unfold deepOf at h
  split at h
  · split at h
    · rename_i hs
      split at h
      · rename_i hc
        have h' := Option.some.inj h
        simp only [Prod.mk.injEq] at h'
        obtain ⟨rfl, rfl, h3⟩ := h'
        injection h3 with h4 h5
        subst h4
        obtain rfl := eq_of_heq h5
        obtain ⟨rfl, _⟩ := hc
        exact ⟨rfl, hs⟩
      · cases h
    · cases h
  · cases h

/-- An object gets a new version over a row that was appended to; another one is handed over. -/
theorem left_rowD {st' : St} {w w' : World} {N : Nat → Prop} {hd : Nat → Value} {F : Nat → List Nat} (I : SInv (memOf w) N st'.o hd F w.heap.size) {id ver id2 v2 : Nat} {e : Ty} {ys zs : List e.den} (hne : id ≠ id2) (hs2 : st'.o id2 = (v2, .vec e ys)) {v' : Value} {G' W : List Nat} {s0 : Sto} {rd : List Nat}
    (hver : (st'.o id).1 < ver) (hmv : Moves w w' W) (hW : ∀ k ∈ W, k ∈ F id) (hr : RepT (memOf w') N (.own e) zs [v'] G') (hG' : ∀ k ∈ G', ((k ∈ F id ∨ k ∈ F id2) ∧ k < w'.heap.size) ∨ (w.heap.size ≤ k ∧ k < w'.heap.size)) (hnd : G'.Nodup) :
    ∃ s' N' hd' F', Left X st' { v := .one (.own id ver), s := (s0.set id2 (v2, .ovec e ys)).set id (ver, .vec e zs), w := [id, id2], r := rd } w N hd F v' w' W s' N' hd' F' := by
  have hob := I.obj id2
  rw [hs2] at hob
  obtain ⟨o1, o2⟩ := out_ok I id2 (.ovec e ys) (by rw [hs2]; exact fun _ => ⟨rfl, rfl, Nat.le_refl _⟩) (by simp [Obj.isB]) (fun s' => ⟨rfl, RepT.own_len hob⟩)
  have hv2 : (st'.o id2).1 = v2 := by rw [hs2]
  rw [hv2] at o1 o2
  have hmN : ∀ b, N b → memOf w' b = memOf w b := fun b hb => hmv.block b (I.ltN b hb) (fun h => I.sep id b (hW b h) hb)
  have hidx : (st'.o.set id2 (v2, .ovec e ys)) id = st'.o id := Sto.set_ne _ _ hne
  have hgo : Goes (st'.o.set id2 (v2, .ovec e ys)) ((st'.o.set id2 (v2, .ovec e ys)).set id (ver, .vec e zs)) hd (fun i => if i = id then v' else hd i) := Goes.set_new id ver _ (by rw [hidx]; exact hver) (fun i hi => by simp [hi])
  have hone := RepT.one' hr v' (by simp)
  refine ⟨_, N, _, _, fun i hi => ?_, fun i hi => ?_, hmv, fun k hk => ⟨id, hW k hk⟩, o1.upd (m' := memOf w') (N' := N) (hd' := fun i => if i = id then v' else hd i) id (ver, .vec e zs) G' hmv.size (fun b hb => ⟨hb, hmN b hb⟩) (fun k hk => ⟨Nat.lt_of_lt_of_le (I.ltN k hk) hmv.size, fun i _ hi => o1.sep i k hi hk, fun h => ?_⟩)
    (fun i hi k hk => ?_) hnd (fun k hk => ⟨?_, fun i hi h => ?_⟩) hgo (fun i hi => by simp [hi]) (by simp only [if_true]; exact hr), fun _ h => h, o2.trans hgo, fun _ h => .inl h, fun i k hk => ?_, ?_⟩
  · simp only [List.mem_cons, List.not_mem_nil, or_false] at hi
    show _ = (Sto.set (Sto.set _ _ _) _ _) i
    by_cases h1 : i = id
    · subst h1; rw [Sto.set_same, Sto.set_same]
    · rw [Sto.set_ne _ _ h1, Sto.set_ne _ _ h1]
      rcases hi with h | h
      · exact absurd h h1
      · rw [h, Sto.set_same, Sto.set_same]
  · simp only [List.mem_cons, List.not_mem_nil, or_false, not_or] at hi
    rw [Sto.set_ne _ _ hi.1, Sto.set_ne _ _ hi.2]
  · rcases hG' k h with ⟨h' | h', _⟩ | h'
    · exact I.sep id k h' hk
    · exact I.sep id2 k h' hk
    · have := I.ltN k hk; omega
  · by_cases h2 : i = id2
    · simp [h2] at hk
    · simp only [h2, if_false] at hk
      exact hmv.block k (I.ltF i k hk) (fun h => hi (I.once i id k hk (hW k h)))
  · rcases hG' k hk with ⟨_, h'⟩ | h'
    · exact h'
    · exact h'.2
  · by_cases h2 : i = id2
    · simp [h2] at h
    · simp only [h2, if_false] at h
      rcases hG' k hk with ⟨h' | h', _⟩ | h'
      · exact hi (I.once i id k h h')
      · exact h2 (I.once i id2 k h h')
      · have := I.ltF i k h; omega
  · by_cases h : i = id
    · simp only [h, if_true] at hk
      rcases hG' k hk with ⟨h' | h', _⟩ | h'
      · exact .inl ⟨id, h'⟩
      · exact .inl ⟨id2, h'⟩
      · exact .inr h'.1
    · simp only [h, if_false] at hk
      by_cases h2 : i = id2
      · simp [h2] at hk
      · simp only [h2, if_false] at hk
        exact .inl ⟨i, hk⟩
  · refine ⟨by simp [Sto.set_same], hone, fun _ _ => by simp⟩

theorem good_append {ca : Call} {x y : Operand} (ho : o.op = .call ca) (hca : ca.callee = .builtin .append) (hargs : ca.args.toList = [x, y]) (h : exOp E O o st K = some r) : ∃ e, K e = some r ∧ Good E X o st e := by
  have hargs' : ca.args = #[x, y] := by rw [← Array.toArray_toList (xs := ca.args), hargs]
  have hx : x ∈ o.op.operands := by rw [ho]; simp [Op.operands, Call.operands, hca, hargs']
  have hy : y ∈ o.op.operands := by rw [ho]; simp [Op.operands, Call.operands, hca, hargs']
  simp only [exOp, ho, hca, hargs] at h
  replace h := one_some h
  obtain ⟨c, hc, h⟩ := h
  replace h := one_some h
  obtain ⟨d, hd, h⟩ := h
  split at h
  · rename_i t t' hty
    have hty' : ca.argTypes = #[t, t'] := by rw [← Array.toArray_toList (xs := ca.argTypes), hty]
    split at h
    · rename_i id2 v2 e ys hdeep
      obtain ⟨rfl, hs2⟩ := deepOf_some hdeep
      split at h
      · rename_i htt
        subst htt
        unfold appendD at h
        dsimp only at h
        split at h
        · cases h
        · rename_i te hte
          have hu := elemP_some hte
          split at h
          · rename_i hz
            obtain ⟨hz, hb0, hsz, hes0⟩ := hz
            obtain ⟨it, z, hi1, hi2, hi3, hi4, hi5⟩ := hasZero_some hz
            have hes' : e.sz = it.size := by rw [hes0, hi3]
            have hrunop : ∀ a : Act, (execOp a.eval o) = (do let u ← Builtin.append_ #[t', t'] o.type #[a.eval x, a.eval y]; pure (.value u)) := by
              intro a
              simp [execOp, ho, resolve, hca, hargs', hty', invoke, builtin]
            split at h
            · split at h
              · rename_i hnn
                split at h
                · rename_i hroom
                  refine ⟨_, h, Good.make fun st' he hi a w N hd' F I => ?_⟩
                  have h1 := I.eval x; rw [he x hx, hc] at h1
                  have h2 := I.eval y; rw [he y hy, hd] at h2
                  have hid : st'.o (newId o.dst) = st.o (newId o.dst) := hi _ (.inl (by simp))
                  have hid2 := hi id2 (.inl (by simp)); rw [hs2] at hid2
                  have hob2 := I.s.obj id2; rw [hid2] at hob2
                  have e2 := RepC.own_hd (m := memOf w) (N := N) h2 hid2 rfl
                  obtain ⟨b, e1⟩ := h1
                  have hob2' : RepT (memOf w) N (.own e) ys [a.eval y] (F id2) := by rw [e2]; exact hob2
                  obtain ⟨v', w', G', W, hrun, hmv, hW, hr, hG', hnd⟩ := append_rowD (ty := o.type) hu hi1 hi2 hi4 (by rw [hi5]; exact hb0) hes' (xs := []) (v := a.eval x) (G := []) (.inl ⟨b, by rw [e1], rfl, rfl⟩) hob2' (fun k hk => ⟨I.s.ltN k hk, by simp⟩) (by simp) (fun k hk => I.s.ltF id2 k hk) List.nodup_nil (I.s.nodup id2) (by simp) (by rw [hi5]; simpa using hroom)
                  obtain ⟨s', N', hd2, F', L⟩ := left_rowD (X := X) I.s (id := newId o.dst) (ver := (st.o (newId o.dst)).1 + 1) (s0 := st.o) (rd := []) hnn hid2 (by rw [hid]; omega) hmv (fun k hk => absurd (hW k hk) (by simp)) hr (fun k hk => by
                    rcases hG' k hk with ⟨h' | h', h''⟩ | h'
                    · simp at h'
                    · exact .inl ⟨.inr h', h''⟩
                    · exact .inr h') hnd
                  exact ⟨v', w', W, s', N', hd2, F', by rw [hrunop]; simp [hrun], L⟩
                · cases h
              · cases h
            · rename_i id ver
              split at h
              · rename_i v e' xs hs
                split at h
                · rename_i hcv
                  obtain ⟨rfl, hnn⟩ := hcv
                  split at h
                  · rename_i hee
                    injection hee with hee
                    subst hee
                    split at h
                    · rename_i hroom
                      refine ⟨_, h, Good.make fun st' he hi a w N hd' F I => ?_⟩
                      have h1 := I.eval x; rw [he x hx, hc] at h1
                      have h2 := I.eval y; rw [he y hy, hd] at h2
                      have hid := hi id (.inl (by simp)); rw [hs] at hid
                      have hob := I.s.obj id; rw [hid] at hob
                      have e1 := RepC.own_hd (m := memOf w) (N := N) h1 hid rfl
                      have hid2 := hi id2 (.inl (by simp)); rw [hs2] at hid2
                      have hob2 := I.s.obj id2; rw [hid2] at hob2
                      have e2 := RepC.own_hd (m := memOf w) (N := N) h2 hid2 rfl
                      have hob' : RepT (memOf w) N (.own e) xs [a.eval x] (F id) := by rw [e1]; exact hob
                      have hob2' : RepT (memOf w) N (.own e) ys [a.eval y] (F id2) := by rw [e2]; exact hob2
                      obtain ⟨v', w', G', W, hrun, hmv, hW, hr, hG', hnd⟩ := append_rowD (ty := o.type) hu hi1 hi2 hi4 (by rw [hi5]; exact hb0) hes' hob' hob2' (fun k hk => ⟨I.s.ltN k hk, fun h => I.s.sep id k h hk⟩) (fun k hk => I.s.ltF id k hk) (fun k hk => I.s.ltF id2 k hk) (I.s.nodup id) (I.s.nodup id2) (fun k hk hk2 => hnn (I.s.once id id2 k hk hk2)) (by rw [hi5]; exact hroom)
                      obtain ⟨s', N', hd2, F', L⟩ := left_rowD (X := X) I.s (id := id) (ver := v + 1) (s0 := st.o) (rd := []) hnn hid2 (by rw [hid]; exact Nat.lt_succ_self v) hmv hW hr hG' hnd
                      exact ⟨v', w', W, s', N', hd2, F', by rw [hrunop]; simp [hrun], L⟩
                    · cases h
                  · cases h
                · cases h
              · cases h
            · cases h
          · cases h
      · cases h
    split at h
    · rename_i hcond
      unfold appendK at h
      dsimp only at h
      split at h
      · cases h
      · rename_i te hte
        have hu := elemP_some hte
        split at h
        · rename_i hz
          obtain ⟨hz, hb0, hsz⟩ := hz
          obtain ⟨it, z, hi1, hi2, hi3, hi4, hi5⟩ := hasZero_some hz
          have hrunop : ∀ a : Act, (execOp a.eval o) = (do let u ← Builtin.append_ #[t, t'] o.type #[a.eval x, a.eval y]; pure (.value u)) := by
            intro a
            simp [execOp, ho, resolve, hca, hargs', hty', invoke, builtin]
          have htys : ((∃ y, d = .imm .str y) → E.P.underlying t' = some .string) ∧ ((¬ ∃ y, d = .imm .str y) → ∃ te, E.P.underlying t' = some (.slice te)) := by
            constructor
            · rintro ⟨y, rfl⟩
              rcases hcond with ⟨_, h⟩ | ⟨h, _⟩
              · simp [isStrC] at h
              · unfold isStrT at h
                split at h
                · assumption
                · cases h
            · intro hn
              rcases hcond with ⟨rfl, _⟩ | ⟨_, h⟩
              · exact ⟨te, hu⟩
              · unfold isStrC at h
                split at h
                · exact absurd ⟨_, rfl⟩ hn
                · cases h
          split at h
          · have hS : ∀ {w : World} {v : Value} {N : Nat → Prop} {s : Sto} {hd : Nat → Value}, RepC (memOf w) N s hd .e0 v → AppSrc E.P w t' v it.size 0 [] := by
              intro w v N s hd hv
              obtain ⟨a, rfl⟩ := hv
              refine ⟨.inl (htys.2 (by simp)), fun w' => by simp [Builtin.lenOf], fun w' _ => ?_, by simp⟩
              cases a with
              | none => simp [Builtin.firstCells]
              | some a => exact run_firstCells_some w' it.size 0 a 0 0 [] (by simp) (by simp)
            split at h
            · refine ⟨_, h, good_two hc hx hd hy fun {a w N s' hd F} hm I h1 h2 => ⟨a.eval x, ?_, h1⟩⟩
              obtain ⟨b, e1⟩ := h1
              rw [hrunop, e1]
              simp [run_append_src_none hu hi1 (hS h2) (Nat.le_refl 0)]
            · rename_i id ver
              split at h
              · rename_i v e xs hs
                split at h
                · rename_i hv
                  subst hv
                  refine ⟨_, h, good_two hc hx hd hy fun {a w N s' hd F} hm I h1 h2 => ⟨a.eval x, ?_, h1⟩⟩
                  have hid := hm id (by simp); rw [hs] at hid
                  have hob := I.obj id; rw [hid] at hob
                  have e1 := RepC.own_hd h1 hid rfl
                  rw [hrunop]
                  rcases hob with ⟨b, q1, _⟩ | ⟨g, cap, c, T, es, Fs, q1, _, _, q4, _⟩
                  · have q1' : hd id = .slice b 0 0 := by simpa using q1
                    rw [e1, q1']
                    simp [run_append_src_none hu hi1 (hS h2) (Nat.le_refl 0)]
                  · have q1' : hd id = .slice (some ⟨g, 0, none⟩) (List.length xs) cap := by simpa using q1
                    rw [e1, q1']
                    simp [run_append_src_none hu hi1 (hS h2) q4]
                · cases h
              · cases h
            · cases h
          · replace h := srcK_ok h
            obtain ⟨e, ys, m, h, hg⟩ := h
            split at h
            · rename_i hc2
              obtain ⟨himm, hes⟩ := hc2
              have hes' : e.sz = it.size := by rw [hes, hi3]
              split at h
              · split at h
                · rename_i hmn
                  split at h
                  · rename_i hroom
                    refine ⟨_, h, Good.make fun st' he hi a w N hd F I => ?_⟩
                    have h1 := I.eval x; rw [he x hx, hc] at h1
                    have h2 := I.eval y; rw [he y hy, ‹st.eval y = _›] at h2
                    have hid : st'.o (newId o.dst) = st.o (newId o.dst) := hi _ (.inl (by simp))
                    have S := hg st'.o (fun i hi' => hi i (.inr hi')) I.s _ h2 t' htys.1 htys.2 himm
                    obtain ⟨b, e1⟩ := h1
                    obtain ⟨v', w', G', W, hrun, hmv, hW, hr, hG', hnd⟩ := append_row (ty := o.type) himm hu hi1 hi2 hi4 (by rw [hi5]; exact hb0) hes' (xs := []) (v := a.eval x) (G := []) (.inl ⟨b, by rw [e1], rfl, rfl⟩) (fun k hk => ⟨I.s.ltN k hk, by simp⟩) S (by rw [hi5]; simpa using hroom)
                    obtain ⟨s', N', hd', F', L⟩ := left_row (X := X) I.s (id := newId o.dst) (ver := (st.o (newId o.dst)).1 + 1) (s0 := st.o) (rd := m) (G := []) (by rw [hid]; omega) (by simp) hmv hW hr hG' hnd
                    exact ⟨v', w', W, s', N', hd', F', by rw [hrunop]; simp [hrun], L⟩
                  · cases h
                · cases h
              · rename_i id ver
                split at h
                · rename_i v e' xs hs
                  split at h
                  · rename_i hcv
                    obtain ⟨rfl, hmn⟩ := hcv
                    split at h
                    · rename_i hee
                      injection hee with hee
                      subst hee
                      split at h
                      · rename_i hroom
                        refine ⟨_, h, Good.make fun st' he hi a w N hd F I => ?_⟩
                        have h1 := I.eval x; rw [he x hx, hc] at h1
                        have h2 := I.eval y; rw [he y hy, ‹st.eval y = _›] at h2
                        have hid := hi id (.inl (by simp)); rw [hs] at hid
                        have hob := I.s.obj id; rw [hid] at hob
                        have e1 := RepC.own_hd (m := memOf w) (N := N) h1 hid rfl
                        have S := hg st'.o (fun i hi' => hi i (.inr hi')) I.s _ h2 t' htys.1 htys.2 himm
                        have hob' : RepT (memOf w) N (.own e) xs [a.eval x] (F id) := by rw [e1]; exact hob
                        obtain ⟨v', w', G', W, hrun, hmv, hW, hr, hG', hnd⟩ := append_row (ty := o.type) himm hu hi1 hi2 hi4 (by rw [hi5]; exact hb0) hes' hob' (fun k hk => ⟨I.s.ltN k hk, fun h => I.s.sep id k h hk⟩) S (by rw [hi5]; exact hroom)
                        obtain ⟨s', N', hd', F', L⟩ := left_row (X := X) I.s (id := id) (ver := v + 1) (s0 := st.o) (rd := m) (G := F id) (by rw [hid]; exact Nat.lt_succ_self v) (fun _ h => h) hmv hW hr hG' hnd
                        exact ⟨v', w', W, s', N', hd', F', by rw [hrunop]; simp [hrun], L⟩
                      · cases h
                    · cases h
                  · cases h
                · cases h
              · rename_i id ver lo u
                split at h
                · rename_i v e' xs hs
                  split at h
                  · rename_i hcv
                    obtain ⟨rfl, hmn, rfl⟩ := hcv
                    split at h
                    · rename_i hee
                      injection hee with hee
                      subst hee
                      split at h
                      · rename_i hroom
                        refine ⟨_, h, Good.make fun st' he hi a w N hd F I => ?_⟩
                        have h1 := I.eval x; rw [he x hx, hc] at h1
                        have h2 := I.eval y; rw [he y hy, ‹st.eval y = _›] at h2
                        have hid := hi id (.inl (by simp)); rw [hs] at hid
                        have hob := I.s.obj id; rw [hid] at hob
                        obtain ⟨e1, l1, l2⟩ := RepC.sub_hd (m := memOf w) (N := N) h1 hid rfl
                        have l2' : u ≤ List.length xs := l2
                        have S := hg st'.o (fun i hi' => hi i (.inr hi')) I.s _ h2 t' htys.1 htys.2 himm
                        have hob' : RepT (memOf w) N (.own e) (xs.take u) [a.eval x] (F id) := by rw [e1]; exact RepT.own_take himm hob l2'
                        have hlu : List.length (xs.take u) = u := by rw [List.length_take]; omega
                        obtain ⟨v', w', G', W, hrun, hmv, hW, hr, hG', hnd⟩ := append_row (ty := o.type) himm hu hi1 hi2 hi4 (by rw [hi5]; exact hb0) hes' hob' (fun k hk => ⟨I.s.ltN k hk, fun h => I.s.sep id k h hk⟩) S (by rw [hi5, hlu]; exact hroom)
                        obtain ⟨s', N', hd', F', L⟩ := left_row (X := X) I.s (id := id) (ver := v + 1) (s0 := st.o) (rd := m) (G := F id) (by rw [hid]; exact Nat.lt_succ_self v) (fun _ h => h) hmv hW hr hG' hnd
                        exact ⟨v', w', W, s', N', hd', F', by rw [hrunop]; simp [hrun], L⟩
                      · cases h
                    · cases h
                  · cases h
                · cases h
              · cases h
            · cases h
        · cases h
    · cases h
  · cases h
end

end Go.Proofs.YtndnhbihcnlpaaaDoorSt.Ev

/- The evaluator: calls. -/
namespace Go.Proofs.YtndnhbihcnlpaaaDoorSt.Ev
open Go

/-! ### Laying looks at no objects but those that it tells -/
theorem inj_loc : ∀ (τ : Ty) (x : τ.den) (s : Sto) (b : Nat), ∀ i, i ∉ (inj τ x s b).ids → (inj τ x s b).s i = s i := by
  intro τ
  induction τ with
  | agg fs ih => intro x s b i hi; exact ih x s b i hi
  | cons a r iha ihr =>
    intro x s b i hi
    have hi' : i ∉ (inj a x.1 s b).ids ++ (inj r x.2 (inj a x.1 s b).s (inj a x.1 s b).b).ids := hi
    rw [List.mem_append, not_or] at hi'
    exact (ihr _ _ _ i hi'.2).trans (iha _ _ _ i hi'.1)
  | own e _ | map e _ | iter e _ => intro x s b i hi; exact Sto.set_ne _ _ (fun h => hi (by rw [h]; exact List.mem_cons_self ..))
  | mv e _ =>
    intro x s b i hi
    match x with
    | none => rfl
    | some (false, _) => rfl
    | some (true, _) => exact Sto.set_ne _ _ (fun h => hi (by rw [h]; exact List.mem_cons_self ..))
  | box e ih =>
    intro x s b i hi
    have h1 : i ≠ b := fun h => hi (by rw [h]; exact List.mem_cons_self ..)
    exact (Sto.set_ne _ _ h1).trans (ih x s (b + 1) i (fun h => hi (List.mem_cons_of_mem _ h)))
  | _ => intro x s b i hi; rfl

theorem inj_alike : ∀ (τ : Ty) (x : τ.den) (s s2 : Sto) (b : Nat) (M : List Nat), (∀ i ∈ (inj τ x s b).ids, i ∈ M) → (∀ i ∈ M, s2 i = s i) →
    (inj τ x s2 b).cs = (inj τ x s b).cs ∧ (inj τ x s2 b).b = (inj τ x s b).b ∧ (inj τ x s2 b).ids = (inj τ x s b).ids ∧ ∀ i ∈ M, (inj τ x s2 b).s i = (inj τ x s b).s i := by
  intro τ
  induction τ with
  | agg fs ih => intro x s s2 b M hM hs; exact ih x s s2 b M hM hs
  | cons a r iha ihr =>
    intro x s s2 b M hM hs
    have hM' : ∀ i ∈ (inj a x.1 s b).ids ++ (inj r x.2 (inj a x.1 s b).s (inj a x.1 s b).b).ids, i ∈ M := hM
    obtain ⟨c1, c2, c3, c4⟩ := iha x.1 s s2 b M (fun i hi => hM' i (List.mem_append_left _ hi)) hs
    obtain ⟨d1, d2, d3, d4⟩ := ihr x.2 (inj a x.1 s b).s (inj a x.1 s2 b).s (inj a x.1 s b).b M (fun i hi => hM' i (List.mem_append_right _ hi)) c4
    simp only [inj]
    rw [c1, c2, c3, d1, d2, d3]
    exact ⟨rfl, rfl, rfl, d4⟩
  | own e _ | map e _ | iter e _ =>
    intro x s s2 b M hM hs
    have hb : s2 b = s b := hs b (hM b (List.mem_cons_self ..))
    simp only [inj, hb]
    exact ⟨trivial, trivial, trivial, fun i hi => alike_set hs _ _ i hi⟩
  | mv e _ =>
    intro x s s2 b M hM hs
    match x with
    | none => exact ⟨rfl, rfl, rfl, hs⟩
    | some (false, _) => exact ⟨rfl, rfl, rfl, hs⟩
    | some (true, ys) =>
      have hb : s2 b = s b := hs b (hM b (List.mem_cons_self ..))
      simp only [inj, hb]
      exact ⟨trivial, trivial, trivial, fun i hi => alike_set hs _ _ i hi⟩
  | box e ih =>
    intro x s s2 b M hM hs
    have hM' : ∀ i ∈ b :: (inj e x s (b + 1)).ids, i ∈ M := hM
    obtain ⟨c1, c2, c3, c4⟩ := ih x s s2 (b + 1) M (fun i hi => hM' i (List.mem_cons_of_mem _ hi)) hs
    have hb := c4 b (hM' b (List.mem_cons_self ..))
    simp only [inj]
    rw [c1, c2, c3, hb]
    exact ⟨rfl, rfl, rfl, fun i hi => alike_set c4 _ _ i hi⟩
  | _ => intro x s s2 b M hM hs; exact ⟨rfl, rfl, rfl, hs⟩

theorem injFs_loc : ∀ (τs : Ty) (x : τs.den) (s : Sto) (b : Nat), ∀ i, i ∉ (injFs τs x s b).ids → (injFs τs x s b).s i = s i := by
  intro τs
  induction τs with
  | cons a r _ ihr =>
    intro x s b i hi
    have hi' : i ∉ (inj a x.1 s b).ids ++ (injFs r x.2 (inj a x.1 s b).s (inj a x.1 s b).b).ids := hi
    rw [List.mem_append, not_or] at hi'
    exact (ihr _ _ _ i hi'.2).trans (inj_loc _ _ _ _ i hi'.1)
  | _ => intro x s b i hi; rfl

theorem injFs_alike : ∀ (τs : Ty) (x : τs.den) (s s2 : Sto) (b : Nat) (M : List Nat), (∀ i ∈ (injFs τs x s b).ids, i ∈ M) → (∀ i ∈ M, s2 i = s i) →
    (injFs τs x s2 b).cs = (injFs τs x s b).cs ∧ (injFs τs x s2 b).b = (injFs τs x s b).b ∧ (injFs τs x s2 b).ids = (injFs τs x s b).ids ∧ ∀ i ∈ M, (injFs τs x s2 b).s i = (injFs τs x s b).s i := by
  intro τs
  induction τs with
  | cons a r _ ihr =>
    intro x s s2 b M hM hs
    have hM' : ∀ i ∈ (inj a x.1 s b).ids ++ (injFs r x.2 (inj a x.1 s b).s (inj a x.1 s b).b).ids, i ∈ M := hM
    obtain ⟨c1, c2, c3, c4⟩ := inj_alike a x.1 s s2 b M (fun i hi => hM' i (List.mem_append_left _ hi)) hs
    obtain ⟨d1, d2, d3, d4⟩ := ihr x.2 (inj a x.1 s b).s (inj a x.1 s2 b).s (inj a x.1 s b).b M (fun i hi => hM' i (List.mem_append_right _ hi)) c4
    simp only [injFs]
    rw [c1, c2, c3, d1, d2, d3]
    exact ⟨rfl, rfl, rfl, d4⟩
  | _ => intro x s s2 b M hM hs; exact ⟨rfl, rfl, rfl, hs⟩

theorem backCs_alike : ∀ (τ : Ty) (cs : List C) (z : τ.den) (s : Sto) (b : Nat) (l : Inj (List C)), backCs τ cs z s b = some l → ∀ (M : List Nat), (∀ i ∈ l.ids, i ∈ M) → ∀ s2 : Sto, (∀ i ∈ M, s2 i = s i) →
    ∃ s3, backCs τ cs z s2 b = some { cs := l.cs, s := s3, b := l.b, ids := l.ids } ∧ ∀ i ∈ M, s3 i = l.s i := by
  intro τ
  induction τ with
  | agg fs ih => intro cs z s b l h; exact ih cs z s b l h
  | nil => intro cs z s b l h M hM s2 hs; obtain rfl := Option.some.inj h; exact ⟨s2, rfl, hs⟩
  | cons a r iha ihr =>
    intro cs z s b l h M hM s2 hs
    simp only [backCs] at h
    split at h
    · cases h
    · rename_i p hp
      split at h
      · cases h
      · rename_i q hq
        obtain rfl := Option.some.inj h
        obtain ⟨t1, e1, g1⟩ := iha cs z.1 s b p hp M (fun i hi => hM i (List.mem_append_left _ hi)) s2 hs
        obtain ⟨t2, e2, g2⟩ := ihr p.cs z.2 p.s p.b q hq M (fun i hi => hM i (List.mem_append_right _ hi)) t1 g1
        exact ⟨t2, by simp only [backCs, e1, e2], g2⟩
  | own e _ =>
    intro cs z s b l h M hM s2 hs
    simp only [backCs] at h ⊢
    split at h
    · rename_i id ver r
      split at h
      · rename_i w e' xs hid
        split at h
        · rename_i hc
          obtain rfl := Option.some.inj h
          have h2 : s2 id = s id := hs id (hM id (by simp))
          rw [h2, hid]
          simp only [if_pos hc]
          exact ⟨_, rfl, fun i hi => alike_set hs _ _ i hi⟩
        · cases h
      · cases h
    · obtain rfl := Option.some.inj h
      exact ⟨s2, rfl, hs⟩
    · cases h
  | box e _ => intro cs z s b l h; cases h
  | map _ _ | mv _ _ =>
    intro cs z s b l h
    simp only [backCs, Ty.isImm] at h
    cases cs <;> simp at h
  | bool | int _ | str | tree | unk | opq | imap _ _ | iter _ _ | optr _ _ | sl _ _ | ptr _ _ | fn _ _ _ =>
    intro cs z s b l h M hM s2 hs
    cases cs with
    | nil => cases h
    | cons c r =>
      simp only [backCs] at h ⊢
      split at h
      · rename_i hc
        obtain rfl := Option.some.inj h
        exact ⟨s2, by rw [if_pos hc], hs⟩
      · cases h

theorem back1_alike {v : V} {s : Sto} {b : Nat} : ∀ (a : Ty) (z : a.den) (l : Inj Unit), back1 v s b a z = some l → ∀ (M : List Nat), (∀ i ∈ l.ids, i ∈ M) → ∀ s2 : Sto, (∀ i ∈ M, s2 i = s i) →
    ∃ s3, back1 v s2 b a z = some { cs := (), s := s3, b := l.b, ids := l.ids } ∧ ∀ i ∈ M, s3 i = l.s i := by
  intro a z l h M hM s2 hs
  cases a with
  | own e =>
    cases v with
    | one c =>
      cases c with
      | own id ver =>
        simp only [back1] at h ⊢
        split at h
        · rename_i w e' xs hid
          split at h
          · rename_i hc
            obtain rfl := Option.some.inj h
            have h2 : s2 id = s id := hs id (hM id (by simp))
            rw [h2, hid]
            simp only [if_pos hc]
            exact ⟨_, rfl, fun i hi => alike_set hs _ _ i hi⟩
          · cases h
        · cases h
      | e0 =>
        obtain rfl := Option.some.inj h
        exact ⟨s2, rfl, hs⟩
      | _ => cases h
    | _ => cases h
  | box e =>
    cases v with
    | one c =>
      cases c with
      | bp id ver off =>
        cases off with
        | succ _ => cases h
        | zero =>
          simp only [back1] at h ⊢
          split at h
          · rename_i w hid
            split at h
            · rename_i hc
              obtain rfl := Option.some.inj h
              have hM' : ∀ i ∈ (inj e z s b).ids ++ [id], i ∈ M := hM
              obtain ⟨c1, c2, c3, c4⟩ := inj_alike e z s s2 b M (fun i hi => hM' i (List.mem_append_left _ hi)) hs
              have h2 := c4 id (hM' id (by simp))
              rw [h2, hid]
              simp only [if_pos hc, c1, c2, c3]
              exact ⟨_, rfl, fun i hi => alike_set c4 _ _ i hi⟩
            · cases h
          · cases h
      | _ => cases h
    | _ => cases h
  | map e =>
    cases v with
    | one c =>
      cases c with
      | mp id ver =>
        simp only [back1] at h ⊢
        split at h
        · rename_i w hid
          split at h
          · rename_i hc
            obtain rfl := Option.some.inj h
            have h2 : s2 id = s id := hs id (hM id (by simp))
            rw [h2, hid]
            simp only [if_pos hc]
            exact ⟨_, rfl, fun i hi => alike_set hs _ _ i hi⟩
          · cases h
        · cases h
      | _ => cases h
    | _ => cases h
  | agg fs =>
    cases v with
    | agg cs =>
      simp only [back1] at h ⊢
      split at h
      · rename_i s' b' ids hb
        obtain rfl := Option.some.inj h
        obtain ⟨s3, k1, k2⟩ := backCs_alike fs cs z s b _ hb M hM s2 hs
        exact ⟨s3, by rw [k1], k2⟩
      · cases h
    | _ => cases h
  | _ => cases h

theorem back_alike : ∀ (io : List Bool) (τs : Ty) (vs : List V) (z : (ioTy io τs).den) (s : Sto) (b : Nat) (l : Inj Unit), back io τs vs z s b = some l → ∀ (M : List Nat), (∀ i ∈ l.ids, i ∈ M) → ∀ s2 : Sto, (∀ i ∈ M, s2 i = s i) →
    ∃ s3, back io τs vs z s2 b = some { cs := (), s := s3, b := l.b, ids := l.ids } ∧ ∀ i ∈ M, s3 i = l.s i := by
  intro io
  induction io with
  | nil =>
    intro τs vs z s b l h M hM s2 hs
    cases τs with
    | nil =>
      cases vs with
      | nil => obtain rfl := Option.some.inj h; exact ⟨s2, rfl, hs⟩
      | cons _ _ => cases h
    | _ => cases vs <;> cases h
  | cons i io ih =>
    intro τs vs z s b l h M hM s2 hs
    cases τs with
    | cons a r =>
      cases vs with
      | nil => cases i <;> cases h
      | cons v vs =>
        cases i with
        | false => exact ih r vs z s b l h M hM s2 hs
        | true =>
          simp only [back] at h ⊢
          split at h
          · rename_i l1 hl1
            split at h
            · rename_i l2 hl2
              obtain rfl := Option.some.inj h
              have hM' : ∀ i ∈ l1.ids ++ l2.ids, i ∈ M := hM
              obtain ⟨s3, e1, g1⟩ := back1_alike a z.1 l1 hl1 M (fun i hi => hM' i (List.mem_append_left _ hi)) s2 hs
              obtain ⟨s4, e2, g2⟩ := ih r vs z.2 l1.s l1.b l2 hl2 M (fun i hi => hM' i (List.mem_append_right _ hi)) s3 g1
              rw [e1]
              simp only [e2]
              exact ⟨s4, rfl, g2⟩
            · cases h
          · cases h
    | _ => cases i <;> cases vs <;> cases h

/-- What a call's results are, as one value. -/
def retOf : List Value → Value
  | [u] => u
  | us => .tuple ⟨us⟩

/-- What a call leaves. -/
structure Done (E : Env) (f : Nat) (y : (E.rs f).den) (z : (ioTy (E.io f) (E.ps f)).den) (us : List Value) (G : List Nat) (N : Nat → Prop) (w : World) (v : Value) (w' : World) (N' : Nat → Prop) (rs : List Value) (G1 G2 : List Nat) : Prop where
  mv : Moves w w' G
  up : ∀ k, N k → N' k
  new : ∀ k, N' k → N k ∨ k ∈ G ∨ w.heap.size ≤ k
  lt : ∀ k, N' k → k < w'.heap.size
  val : v = retOf rs
  rep : RepAs (memOf w') N' (E.rs f) y rs G1
  back : RepBack (memOf w') N' (E.io f) (E.ps f) z us G2
  nod : (G1 ++ G2).Nodup
  own : ∀ k ∈ G1 ++ G2, k < w'.heap.size ∧ ¬ N' k ∧ (k ∈ G ∨ w.heap.size ≤ k)

def Post (R : Value → World → Prop) : Ending → World → Prop
  | .returned v, w => R v w
  | _, _ => False

/-- A function that hands back a row of its own, of the same elements. -/
def CloneOK (P : Program) (f : Nat) (t : TypeId) : Prop :=
  ∀ te, elemP P t = some te → ∀ (w : World) (N : Nat → Prop) (e : Ty) (xs : List e.den) (v : Value), e.isImm = true → e.sz = szP P te → (∀ k, N k → k < w.heap.size) → Els (memOf w) N e xs v → xs.length * bytesP P te ≤ 140737488355328 →
    Calls P f #[v] w (Post fun v' w' => ∃ G', Moves w w' [] ∧ RepT (memOf w') N (.own e) xs [v'] G' ∧ (∀ k ∈ G', w.heap.size ≤ k ∧ k < w'.heap.size) ∧ G'.Nodup)
/-- A new row with room for some elements. -/
def GrowOK (P : Program) (f : Nat) (t : TypeId) : Prop :=
  ∀ te, elemP P t = some te → ∀ (w : World) (N : Nat → Prop) (e : Ty) (n : Nat), e.isImm = true → e.sz = szP P te → bytesP P te * n ≤ 140737488355328 →
    Calls P f #[.slice none 0 0, .int .i64 n] w (Post fun v' w' => ∃ G', Moves w w' [] ∧ RepT (memOf w') N (.own e) [] [v'] G' ∧ (∀ k ∈ G', w.heap.size ≤ k ∧ k < w'.heap.size) ∧ G'.Nodup)
def CloneSound (E : Env) : Prop := (∀ f t, E.clone f = some t → CloneOK E.P f t) ∧ ∀ f t, E.grow f = some t → GrowOK E.P f t

def CSound (E : Env) (C : (f : Nat) → (E.ps f).den → Option (E.Ret f)) : Prop :=
  CloneSound E ∧ ∀ (f : Nat) (x : (E.ps f).den) (yz : E.Ret f), C f x = some yz → ∀ (w : World) (N : Nat → Prop) (us : List Value) (G : List Nat), RepAs (memOf w) N (E.ps f) x us G → G.Nodup → (∀ k ∈ G, k < w.heap.size ∧ ¬ N k) → (∀ k, N k → k < w.heap.size) → E.tabs w N →
    Calls E.P (rl f) us.toArray w (Post fun v w' => ∃ N' rs G1 G2, Done E f yz.1 yz.2 us G N w v w' N' rs G1 G2)
def CSoundX (X : Ctx) (E : Env) (C : (f : Nat) → (E.ps f).den → Option (E.Ret f)) : Prop := CSound E C ∧ ∀ w N F, Fr X w N F → E.tabs w N

theorem SInv.widen {m m' : Mem} {N N' : Nat → Prop} {s : Sto} {hd : Nat → Value} {F : Nat → List Nat} {size size' : Nat} (I : SInv m N s hd F size) (hsz : size ≤ size') (hN : ∀ k, N k → N' k ∧ m' k = m k) (hF : ∀ i k, k ∈ F i → m' k = m k)
    (hN' : ∀ k, N' k → k < size' ∧ ∀ i, k ∉ F i) : SInv m' N' s hd F size' where
  obj := fun i => ObjRep.goes hN (Goes.refl s hd) (fun k hk => hF i k hk) (I.obj i)
  once := I.once
  nodup := I.nodup
  sep := fun i k hk hn => (hN' k hn).2 i hk
  ltF := fun i k hk => Nat.lt_of_lt_of_le (I.ltF i k hk) hsz
  ltN := fun k hk => (hN' k hk).1

/-- What was lent is the call's own again. -/
theorem SInv.unlend {m : Mem} {N : Nat → Prop} {s0 s1 : Sto} {hd : Nat → Value} {F : Nat → List Nat} {size : Nat} (I : SInv m N s1 hd F size)
    (h : ∀ i, (s1 i).2.isL = true → s1 i = s0 i ∨ ∃ (e : Ty) (xs : List e.den), s1 i = ((s0 i).1, .lvec e xs) ∧ (s0 i).2 = .vec e xs) : SInv m N (Ev.unlend s0 s1) hd F size ∧ Goes s1 (Ev.unlend s0 s1) hd hd := by
  have key : ∀ i, (Ev.unlend s0 s1) i = s1 i ∨ ∃ (v : Nat) (e : Ty) (xs : List e.den), s1 i = (v, .lvec e xs) ∧ (Ev.unlend s0 s1) i = (v, .vec e xs) := by
    intro i
    unfold Ev.unlend
    split
    · rename_i e xs hl
      rcases h i (by rw [hl]; rfl) with h1 | ⟨e', ys, h1, h2⟩
      · exact .inl h1.symm
      · refine .inr ⟨(s0 i).1, e', ys, h1, ?_⟩
        rw [← h2]
    · exact .inl rfl
  have hg : Goes s1 (Ev.unlend s0 s1) hd hd := by
    refine ⟨fun i => ?_, fun i _ hv => ?_, fun i _ hv => ?_⟩
    · rcases key i with h | ⟨v, e, xs, h1, h2⟩
      · rw [h]; exact Nat.le_refl _
      · rw [h1, h2]; exact Nat.le_refl _
    · rcases key i with h | ⟨v, e, xs, h1, h2⟩
      · rw [h] at hv ⊢; exact ⟨hv, rfl, rfl, Nat.le_refl _⟩
      · rw [h1, h2]; exact ⟨rfl, rfl, rfl, Nat.le_refl _⟩
    · rcases key i with h | ⟨v, e, xs, h1, h2⟩
      · rw [h] at hv; exact ⟨hv, rfl⟩
      · rw [h2] at hv; simp [Obj.isB] at hv
  refine ⟨⟨fun i => ?_, I.once, I.nodup, I.sep, I.ltF, I.ltN⟩, hg⟩
  have := ObjRep.goes (fun b hb => ⟨hb, rfl⟩) hg (fun _ _ => rfl) (I.obj i)
  rcases key i with h | ⟨v, e, xs, h1, h2⟩
  · rw [h]; exact this
  · rw [h2]; rw [h1] at this; exact this

theorem unlend_loc {s0 s1 : Sto} {i : Nat} (h : s1 i = s0 i) : unlend s0 s1 i = s0 i := by
  unfold unlend
  split
  · rfl
  · exact h

section
variable {m : Mem} {N : Nat → Prop} {s : Sto} {hd : Nat → Value}
theorem exFs_rep : ∀ {τs : Ty} {x : τs.den} {es : List Value}, capsOk τs = true → RepT m N τs x es [] → RepVs m N s hd (exFs τs x) es
  | .nil, _, es, _, h => by
    have e : es = [] := h.1
    subst e; trivial
  | .cons a r, x, es, hc, h => by
    simp only [capsOk, Bool.and_eq_true, Bool.not_eq_true', beq_iff_eq] at hc
    obtain ⟨⟨⟨h1, h2⟩, h3⟩, h4⟩ := hc
    obtain ⟨c1, c2, F1, F2, e1, e2, hA, hR⟩ := h
    have q1 := RepT.imm h3 hA
    subst q1
    have q2 : F2 = [] := by simpa using e2.symm
    subst q2
    have hl := hA.len
    rw [h2] at hl
    match c1, hl with
    | [c], _ =>
      subst e1
      have hx := ex_rep (s := s) (hd := hd) h3 hA
      have hxl := hx.len
      refine ⟨?_, exFs_rep h4 hR⟩
      simp only [h1, V.ofCells]
      match hex : ex a x.1, hxl, hx with
      | [d], _, hx => exact hx.1
  | .bool, _, _, hc, _ | .int _, _, _, hc, _ | .str, _, _, hc, _ | .sl _, _, _, hc, _ | .own _, _, _, hc, _ | .agg _, _, _, hc, _ | .ptr _, _, _, hc, _ | .box _, _, _, hc, _ | .fn _ _, _, _, hc, _ | .tree, _, _, hc, _ | .unk, _, _, hc, _ | .opq, _, _, hc, _ | .map _, _, _, hc, _ | .mv _, _, _, hc, _ | .imap _, _, _, hc, _ | .iter _, _, _, hc, _ | .optr _, _, _, hc, _ => by simp [capsOk] at hc
end

end Go.Proofs.YtndnhbihcnlpaaaDoorSt.Ev

/- The evaluator: the call operation. -/
namespace Go.Proofs.YtndnhbihcnlpaaaDoorSt.Ev
open Go

section
variable {E : Env} {O : Oracle E} {X : Ctx} {o : Oper} {st : St} {R : Type} {K : Eff → Option R} {r : R}

theorem tupOf_rep {m : Mem} {N : Nat → Prop} {s : Sto} {hd : Nat → Value} {vs : List V} {us : List Value} (h : RepVs m N s hd vs us) (h' : RepPs m N s hd (vs.map V.pair) us) : RepV m N s hd (tupOf vs) (retOf us) := by
  match vs, us, h, h' with
  | [], [], _, _ => exact ⟨[], rfl, trivial⟩
  | [v], [u], h, _ => exact h.1
  | v :: v' :: vs, u :: u' :: us, _, h' => exact ⟨_, rfl, h'⟩

theorem run_callFunc {P : Program} {f : FuncId} (h : callable P f = true) (args : Array Value) (w : World) : (callFunc f args).run P w = .ok (.enter f args) w := by
  unfold callable at h
  split at h
  · rename_i fn hfn
    simp only [Bool.and_eq_true, bne_iff_ne, ne_eq] at h
    obtain ⟨c, hc⟩ := Option.isSome_iff_exists.1 h.1
    simp [callFunc, hfn, hc, h.2]
  · cases h

/-- A call of a known function with told arguments. -/
theorem call_left (hC : CSoundX X E O.C) {f b : Nat} {args : List V} (h : callK E O f args st.o b K = some r) :
    ∃ e, K e = some r ∧ ∀ st' : St, (∀ i, i ∈ e.w ∨ i ∈ e.r → st'.o i = st.o i) → ∀ (a : Act) w N hd F, InvD X st' a w N hd F → ∀ us : List Value, RepVs (memOf w) N st'.o hd args us →
      Calls E.P (rl f) us.toArray w (Post fun v w' => ∃ W s' N' hd' F', Left X st' e w N hd F v w' W s' N' hd' F') := by
  unfold callK at h
  split at h
  · cases h
  · rename_i p hp
    obtain ⟨yz, hyz, h⟩ := Option.bind_eq_some_iff.1 h
    split at h
    · cases h
    · rename_i l hl
      dsimp only at h
      split at h
      · rename_i hb
        refine ⟨_, h, fun st' hi a w N hd F I us hus => ?_⟩
        let lend := (E.rs f).flat && (ioTy (E.io f) (E.ps f)).flat
        let M := p.m ++ l.ids ++ (injFs (E.rs f) yz.1 l.s b).ids
        have hM : ∀ i ∈ M, st'.o i = st.o i := fun i hi' => hi i (.inl hi')
        obtain ⟨p2, hp2, x2, m2, g2⟩ := prFs_alike lend _ _ _ _ _ hp M (fun i hi => List.mem_append_left _ (List.mem_append_left _ hi)) st'.o hM
        obtain ⟨N1, F1, G, j⟩ := prFs_ok lend _ _ _ _ _ hp2 I.s hus
        have hGl : ∀ k ∈ G, k < w.heap.size := fun k hk => by
          obtain ⟨⟨i, hi⟩, _⟩ := j.own k hk
          exact I.s.ltF i k hi
        have hlt : ∀ k, Sn lend N1 p2.s F1 k → k < w.heap.size := by
          intro k hk
          cases hlend : lend with
          | false => rw [hlend] at hk; exact j.inv.ltN k hk
          | true =>
            rw [hlend] at hk
            rcases hk with hk | ⟨i, _, hk⟩
            · exact j.inv.ltN k hk
            · exact j.inv.ltF i k hk
        have hGs : ∀ k ∈ G, ¬ Sn lend N1 p2.s F1 k := by
          intro k hk hs
          obtain ⟨_, h1, h2⟩ := j.own k hk
          cases hlend : lend with
          | false => rw [hlend] at hs; exact h1 hs
          | true =>
            rw [hlend] at hs
            rcases hs with hs | ⟨i, _, hs⟩
            · exact h1 hs
            · exact h2 i hs
        have hrep := j.rep
        rw [x2] at hrep
        refine Calls.mono (hC.1.2 f p.x yz hyz w _ us G hrep j.nod (fun k hk => ⟨hGl k hk, hGs k hk⟩) hlt (Env.tabs_mono (hC.2 w N F I.fr) (fun k hk => Sn.up (j.up k hk)))) (fun e w' hpost => ?_)
        cases e with
        | returned v =>
          obtain ⟨N2, rs, G1, G2, D⟩ := hpost
          have hmF : ∀ i k, k ∈ F1 i → memOf w' k = memOf w k := fun i k hk => D.mv.block k (j.inv.ltF i k hk) (fun hG => (j.own k hG).2.2 i hk)
          have hmN : ∀ k, N1 k → memOf w' k = memOf w k := fun k hk => D.mv.block k (j.inv.ltN k hk) (fun hG => (j.own k hG).2.1 hk)
          -- what is seen behind the call
          obtain ⟨N3, hN13, hN3, hrepR, hrepB, hN3G, hN3n⟩ : ∃ N3 : Nat → Prop, (∀ k, N1 k → N3 k) ∧ (∀ k, N3 k → k < w'.heap.size ∧ ∀ i, k ∉ F1 i) ∧ RepAs (memOf w') N3 (E.rs f) yz.1 rs G1 ∧ RepBack (memOf w') N3 (E.io f) (E.ps f) yz.2 us G2 ∧ (∀ k ∈ G1 ++ G2, ¬ N3 k) ∧
              (∀ k, N3 k → N1 k ∨ k ∈ G ∨ w.heap.size ≤ k) := by
            cases hlend : lend with
            | true =>
              have hfl : (E.rs f).flat = true ∧ (ioTy (E.io f) (E.ps f)).flat = true := by
                have : ((E.rs f).flat && (ioTy (E.io f) (E.ps f)).flat) = true := hlend
                simpa using this
              refine ⟨N1, fun _ h => h, fun k hk => ⟨Nat.lt_of_lt_of_le (j.inv.ltN k hk) D.mv.size, fun i hi => j.inv.sep i k hi hk⟩, D.rep.flat hfl.1, D.back.flat hfl.2, fun k hk hn => (D.own k hk).2.1 (D.up k (Sn.up hn)), fun k hk => .inl hk⟩
            | false =>
              have hS : ∀ k, Sn lend N1 p2.s F1 k → N1 k := by rw [hlend]; exact fun k hk => hk
              refine ⟨N2, fun k hk => D.up k (Sn.up hk), fun k hk => ⟨D.lt k hk, fun i hi => ?_⟩, D.rep, D.back, fun k hk => (D.own k hk).2.1, fun k hk => ?_⟩
              · rcases D.new k hk with h1 | h1 | h1
                · exact j.inv.sep i k hi (hS k h1)
                · exact (j.own k h1).2.2 i hi
                · have := j.inv.ltF i k hi; omega
              · rcases D.new k hk with h1 | h1 | h1
                · exact .inl (hS k h1)
                · exact .inr (.inl h1)
                · exact .inr (.inr h1)
          have I3 : SInv (memOf w') N3 p2.s hd F1 w'.heap.size := j.inv.widen D.mv.size (fun k hk => ⟨hN13 k hk, hmN k hk⟩) hmF hN3
          obtain ⟨I4, g4⟩ := I3.unlend (s0 := st'.o) (fun i hi => (j.lv i hi).2)
          have hfr : Fresh N3 F1 w'.heap.size (G2 ++ G1) := by
            have hmem : ∀ k, k ∈ G2 ++ G1 → k ∈ G1 ++ G2 := fun k hk => by
              rcases List.mem_append.1 hk with h | h
              · exact List.mem_append_right _ h
              · exact List.mem_append_left _ h
            refine ⟨?_, fun k hk => (D.own k (hmem k hk)).1, fun k hk => hN3G k (hmem k hk), fun k hk i hi => ?_⟩
            · have := List.nodup_append.1 D.nod
              rw [List.nodup_append]
              exact ⟨this.2.1, this.1, fun a ha b hb e => this.2.2 b hb a ha e.symm⟩
            · rcases (D.own k (hmem k hk)).2.2 with h1 | h1
              · exact (j.own k h1).2.2 i hi
              · have := j.inv.ltF i k hi; omega
          have hg0 : Goes st'.o (unlend st'.o p2.s) hd hd := j.goes.trans g4
          have hus' : RepVs (memOf w') N3 (unlend st'.o p2.s) hd args us := RepVs.goes (fun k hk => ⟨hN13 k (j.up k hk), hmN k (j.up k hk)⟩) hg0 hus
          have hul : ∀ i ∈ M, unlend st'.o p2.s i = unlend st.o p.s i := by
            intro i hi'
            unfold unlend
            rw [g2 i hi', hM i hi']
          obtain ⟨s3, hl2, gl⟩ := back_alike _ _ _ _ _ _ _ hl M (fun i hi => List.mem_append_left _ (List.mem_append_right _ hi)) (unlend st'.o p2.s) hul
          obtain ⟨hd5, F5, k5⟩ := back_ok _ _ _ _ _ _ _ hl2 I4 hus' hrepB hfr.left
          obtain ⟨i1, i2, i3, i4⟩ := injFs_alike (E.rs f) yz.1 l.s s3 b M (fun i hi => List.mem_append_right _ hi) gl
          obtain ⟨hd6, F6, k6, r6, q6⟩ := injFs_ok (E.rs f) yz.1 s3 b k5.inv hrepR (hfr.right k5.sub)
          have hval := tupOf_rep r6 q6
          rw [i1] at hval
          have hsub : ∀ i k, k ∈ F6 i → (∃ j, k ∈ F j) ∨ w.heap.size ≤ k := by
            have hG12 : ∀ k, k ∈ G1 ++ G2 → (∃ j, k ∈ F j) ∨ w.heap.size ≤ k := fun k hk => by
              rcases (D.own k hk).2.2 with h1 | h1
              · exact .inl (j.own k h1).1
              · exact .inr h1
            intro i k hk
            rcases k6.sub i k hk with h1 | h1
            · rcases k5.sub i k h1 with h1 | h1
              · exact .inl ⟨i, j.sub i k h1⟩
              · exact hG12 k (List.mem_append_right _ h1)
            · exact hG12 k (List.mem_append_left _ h1)
          refine ⟨G, (injFs (E.rs f) yz.1 s3 b).s, N3, hd6, F6, fun i hi' => i4 i hi', fun i hi' => ?_, D.mv, fun k hk => (j.own k hk).1, k6.inv, fun k hk => hN13 k (j.up k hk), hg0.trans (k5.goes.trans k6.goes), fun k hk => ?_, hsub, ?_⟩
          · have hi1 : i ∉ p.m := fun h => hi' (List.mem_append_left _ (List.mem_append_left _ h))
            have hi2 : i ∉ l.ids := fun h => hi' (List.mem_append_left _ (List.mem_append_right _ h))
            have hi3 : i ∉ (injFs (E.rs f) yz.1 s3 b).ids := by rw [i3]; exact fun h => hi' (List.mem_append_right _ h)
            have e1 : p2.s i = st'.o i := (j.loc i (by rw [m2]; exact hi1)).1
            exact (k6.loc i hi3).1.trans ((k5.loc i hi2).1.trans (unlend_loc e1))
          · rcases hN3n k hk with h1 | h1 | h1
            · rcases j.new k h1 with h1 | h1
              · exact .inl h1
              · exact .inr (.inl h1)
            · exact .inr (.inl (j.own k h1).1)
            · exact .inr (.inr h1)
          · rw [D.val]; exact hval
        | _ => exact hpost.elim
      · cases h

theorem rl_virt {f : Nat} : ∀ vs : List V, rl (virt f vs) = rl f
  | [] => rfl
  | v :: vs => by
    have ih := rl_virt (f := f) vs
    cases v with
    | one c =>
      cases c with
      | imm τ x =>
        cases τ with
        | fn g caps =>
          simp only [virt, rl]
          rw [Nat.add_mul_mod_self_left]
        | _ => simp only [virt]; exact ih
      | _ => simp only [virt]; exact ih
    | _ => simp only [virt]; exact ih

theorem rl_add (v k : Nat) : rl (v + 65536 * k) = rl v := by simp [rl, Nat.add_mul_mod_self_left]

theorem Deferred_ofValue {g : FuncId} {c args : Array Value} {P : Program} {w : World} : (Deferred.ofValue (.func (.func g) #[] c) args).run P w = .ok { target := .fn (.func g) c, args } w := by
  simp [Deferred.ofValue]

theorem good_call (hC : CSoundX X E O.C) {ca : Call} {g : Operand} (ho : o.op = .call ca) (hca : ca.callee = .value g) (h : exOp E O o st K = some r) : ∃ e, K e = some r ∧ Good E X o st e := by
  have hgm : g ∈ o.op.operands := by rw [ho]; simp [Op.operands, Call.operands, hca]
  have hargs : ∀ x ∈ ca.args.toList, x ∈ o.op.operands := fun x hx => by rw [ho]; simp [Op.operands, Call.operands, hca]; exact .inr (by simpa using hx)
  simp only [exOp, ho, hca] at h
  replace h := one_some h
  obtain ⟨c, hc, h⟩ := h
  split at h
  · rename_i f caps x
    split at h
    · rename_i t hcl
      split at h
      · rename_i y hargs1
        have hy : y ∈ o.op.operands := hargs y (by rw [hargs1]; simp)
        replace h := one_some h
        obtain ⟨c', hc', h⟩ := h
        split at h
        · rename_i hcond
          obtain ⟨hne, hns, hcall, rfl⟩ := hcond
          unfold appendK at h
          dsimp only at h
          split at h
          · cases h
          · rename_i te hte
            split at h
            · split at h
              · simp [isE0] at hne
              · unfold srcK at h
                split at h
                · simp [isStrC] at hns
                · replace h := getSl_els h
                  obtain ⟨e, ys, m, h, hg⟩ := h
                  split at h
                  · rename_i hc2
                    obtain ⟨himm, hes⟩ := hc2
                    split at h
                    · split at h
                      · rename_i hroom
                        refine ⟨_, h, fun st' he hi a w ⟨N, hd, F, I⟩ hdst K Q hKQ => ?_⟩
                        have h1 := I.eval g
                        rw [he g hgm, hc] at h1
                        obtain ⟨_, es, e1, hes'⟩ := h1
                        have e1' : a.eval g = .func (.func f) #[] es.toArray := by simpa using e1
                        have hes0 : es = [] := by
                          have := hes'.len
                          simpa [Ty.sz] using this
                        subst hes0
                        have h2 := I.eval y; rw [he y hy, hc'] at h2
                        have hid : st'.o (newId o.dst) = st.o (newId o.dst) := hi _ (.inl (by simp))
                        have els := hg st'.o (fun i hi' => hi i (.inr hi')) I.s _ h2 himm
                        have hcalls := hC.1.1.1 f t hcl te hte w N e ys _ himm hes (fun k hk => I.s.ltN k hk) els (by simpa using hroom)
                        unfold Oper.wp
                        have hrun : (execOp a.eval o).run E.P w = .ok (.enter f #[a.eval y]) w := by
                          have hargs' : ca.args = #[y] := by rw [← Array.toArray_toList (xs := ca.args), hargs1]
                          simp [execOp, ho, resolve, hca, hargs', e1', Deferred.ofValue, invoke, run_callFunc hcall]
                        rw [hrun]
                        refine Calls.mono hcalls (fun e' w' hp => ?_)
                        cases e' with
                        | returned v =>
                          obtain ⟨G', hmv, hr, hG', hnd⟩ := hp
                          obtain ⟨s', N', hd', F', L⟩ := left_row (X := X) I.s (id := newId o.dst) (ver := (st.o (newId o.dst)).1 + 1) (s0 := st.o) (rd := m) (G := []) (by rw [hid]; omega) (by simp) hmv (by simp) hr (fun k hk => .inr (hG' k hk)) hnd
                          exact hKQ _ _ (L.inv' I hdst)
                        | _ => exact hp.elim
                      · cases h
                    · cases h
                  · cases h
            · cases h
        · cases h
      · cases h
    split at h
    · rename_i t hgr
      split at h
      · rename_i y hargs1
        have hy : y ∈ o.op.operands := hargs y (by rw [hargs1]; simp)
        replace h := one_some h
        obtain ⟨c', hc', h⟩ := h
        split at h
        · rename_i n te hte
          split at h
          · rename_i e he0
            split at h
            · rename_i hcond
              obtain ⟨himm, hes, hcall, rfl⟩ := hcond
              split at h
              · rename_i hcond2
                obtain ⟨hn0, hnb⟩ := hcond2
                unfold mkObj at h
                refine ⟨_, h, fun st' he hi a w ⟨N, hd, F, I⟩ hdst K Q hKQ => ?_⟩
                have h1 := I.eval g
                rw [he g hgm, hc] at h1
                obtain ⟨_, es, e1, hes'⟩ := h1
                have e1' : a.eval g = .func (.func f) #[] es.toArray := by simpa using e1
                have hes0 : es = [] := by
                  have h0 := hes'.len
                  exact List.length_eq_zero_iff.1 h0
                subst hes0
                have h2 := I.eval y; rw [he y hy, hc'] at h2
                have e2 : a.eval y = .int .i64 n := imm_int (m := memOf w) (N := N) (s := st'.o) (hd := hd) h2
                obtain ⟨n', rfl⟩ : ∃ n' : Nat, n = (n' : Int) := ⟨Int.toNat n, (Int.toNat_of_nonneg hn0).symm⟩
                have hid : st'.o (newId o.dst) = st.o (newId o.dst) := hi _ (.inl (List.mem_cons_self ..))
                have hnb' : ((bytesP E.P te : Nat) : Int) * (n' : Int) ≤ 140737488355328 := hnb
                have hcalls := hC.1.1.2 f t hgr te hte w N e n' himm hes (by omega)
                unfold Oper.wp
                have hrun : (execOp a.eval o).run E.P w = .ok (.enter f #[.slice none 0 0, .int .i64 n']) w := by
                  have hargs' : ca.args = #[.const (.slice none 0 0), y] := by rw [← Array.toArray_toList (xs := ca.args), hargs1]
                  have e4 : a.eval (.const (.slice none 0 0)) = .slice none 0 0 := rfl
                  have e3 : ca.args.map a.eval = #[.slice none 0 0, .int .i64 n'] := by rw [hargs', ← e2, List.map_toArray, List.map_cons, List.map_cons, List.map_nil, e4]
                  simp only [execOp, ho, resolve, hca, e1', e3]
                  simp [Deferred.ofValue, invoke, run_callFunc hcall]
                rw [hrun]
                refine Calls.mono hcalls (fun e' w' hp => ?_)
                cases e' with
                | returned v =>
                  obtain ⟨G', hmv, hr, hG', hnd⟩ := hp
                  obtain ⟨s', N', hd', F', L⟩ := left_row (X := X) I.s (id := newId o.dst) (ver := (st.o (newId o.dst)).1 + 1) (s0 := st.o) (rd := []) (G := []) (by rw [hid]; omega) (by simp) hmv (by simp) hr (fun k hk => .inr (hG' k hk)) hnd
                  exact hKQ _ _ (L.inv' I hdst)
                | _ => exact hp.elim
              · cases h
            · cases h
          · cases h
        · cases h
      · cases h
    split at h
    · rename_i hcond
      obtain ⟨himm, hcall, hlt⟩ := hcond
      obtain ⟨e, hK, hcl⟩ := call_left (X := X) hC h
      refine ⟨e, hK, fun st' he hi a w ⟨N, hd, F, I⟩ hdst K Q hKQ => ?_⟩
      have h1 := I.eval g
      rw [he g hgm, hc] at h1
      obtain ⟨_, es, e1, hes⟩ := h1
      have e1' : a.eval g = .func (.func f) #[] es.toArray := by simpa using e1
      have hmap : ca.args.toList.map st.eval = ca.args.toList.map st'.eval := List.map_congr_left fun p hp => (he p (hargs p hp)).symm
      rw [hmap] at hcl
      have hus : RepVs (memOf w) N st'.o hd (ca.args.toList.map st'.eval ++ exFs caps x) (ca.args.toList.map a.eval ++ es) := RepVs.append (repVs_map _ fun x _ => I.eval x) (exFs_rep himm hes)
      have hcalls := hcl st' hi a w N hd F I _ hus
      rw [rl_virt, rl_add, show rl f = f from Nat.mod_eq_of_lt hlt] at hcalls
      unfold Oper.wp
      have hrun : (execOp a.eval o).run E.P w = .ok (.enter f (ca.args.toList.map a.eval ++ es).toArray) w := by
        simp [execOp, ho, resolve, hca, e1', Deferred.ofValue, invoke, run_callFunc hcall]
      rw [hrun]
      refine Calls.mono hcalls (fun e' w' hp => ?_)
      cases e' with
      | returned v =>
        obtain ⟨W, s', N', hd', F', L⟩ := hp
        exact hKQ _ _ (L.inv' I hdst)
      | _ => exact hp.elim
    · cases h
  · cases h
end

end Go.Proofs.YtndnhbihcnlpaaaDoorSt.Ev

/- The evaluator: every operation that it answers is sound. -/
namespace Go.Proofs.YtndnhbihcnlpaaaDoorSt.Ev
open Go

section
variable {E : Env} {O : Oracle E} {X : Ctx} {st : St} {R : Type} {K : Eff → Option R} {r : R}

theorem exOp_good (hC : CSoundX X E O.C) (o : Oper) (h : exOp E O o st K = some r) : ∃ e, K e = some r ∧ Good E X o st e := by
  cases ho : o.op with
  | move x => exact good_move (.inl ho) h
  | assign x => exact good_move (.inr ho) h
  | pick c a b => exact good_pick ho h
  | alloc t => exact good_alloc ho h
  | box t x => exact good_box ho h
  | build t ps => exact good_build ho h
  | buildSlice t n ps => exact good_buildSlice ho h
  | load t x => exact good_load ho h
  | store t x y => exact good_store ho h
  | nilCheck x => exact good_nilCheck ho h
  | binOp op t x y yt => exact good_binOp ho h
  | unOp op t x => exact good_unOp ho h
  | convert s d x => exact good_convert ho h
  | makeFunc f fi ca => exact good_makeFunc ho h
  | makeSlice t l c => exact good_makeSlice ho h
  | slice t x lo hi mx => exact good_slice ho h
  | fieldAddr t x i => exact good_fieldAddr ho h
  | field t x i => exact good_field ho h
  | indexAddr t x i => exact good_indexAddr ho h
  | index t x i => exact good_index ho h
  | extract x i => exact good_extract ho h
  | makeMap t r => exact good_makeMap ho h
  | lookup t x i ok => exact good_lookup ho h
  | mapUpdate t x i y => exact good_mapUpdate ho h
  | insert t x i y => exact good_insert ho h
  | range t x => exact good_range ho h
  | entry x => exact good_entry ho h
  | call ca =>
    cases hca : ca.callee with
    | value g => exact good_call hC ho hca h
    | invoke a b => simp only [exOp, ho, hca] at h; cases h
    | builtin b =>
      match hargs : ca.args.toList with
      | [] => simp only [exOp, ho, hca, hargs] at h; cases b <;> cases h
      | [x] =>
        cases b with
        | len => exact good_len ho hca hargs h
        | _ => simp only [exOp, ho, hca, hargs] at h; cases h
      | [x, y] =>
        cases b with
        | min => exact good_minmax ho (.inl hca) hargs h
        | max => exact good_minmax ho (.inr hca) hargs h
        | append => exact good_append ho hca hargs h
        | _ => simp only [exOp, ho, hca, hargs] at h; cases h
      | x :: y :: z :: w => simp only [exOp, ho, hca, hargs] at h; cases b <;> cases h
  | _ => simp only [exOp, ho] at h; cases h
end

end Go.Proofs.YtndnhbihcnlpaaaDoorSt.Ev

/- The evaluator: regions, in their own order and in any order. -/
namespace Go.Proofs.YtndnhbihcnlpaaaDoorSt.Ev
open Go

/-- What an operation of a region must show, its guard with it. -/
def GoodW (E : Env) (X : Ctx) (all : Array Oper) (o : Oper) (st : St) (e : Eff) : Prop :=
  ∀ st' : St, (∀ t ∈ (infoOf all o e).uses, st'.t t = st.t t) → (∀ i, i ∈ e.w ∨ i ∈ e.r → st'.o i = st.o i) → ∀ a w, Inv X st' a w → ∀ (K : Act → World → Prop) (Q : Exit → Act → World → Prop),
    (∀ a' w', Inv X (st'.app o.dst e) a' w' → K a' w') → (if Region.wanted o (yielded all a.tmps) = true then o.wp E.P a w K Q ∨ (o.asks E.P a w ∧ LetsOut Q) else K (a.put o.dst undef) w)

theorem mem_tmps : ∀ (xs : List Operand) (t : Nat), .tmp t ∈ xs → t ∈ Operand.tmps xs
  | [], _, h => by simp at h
  | .tmp u :: r, t, h => by
    rcases List.mem_cons.1 h with h | h
    · injection h with h; subst h; exact List.mem_cons_self ..
    · exact List.mem_cons_of_mem _ (mem_tmps r t h)
  | .const _ :: r, t, h => by
    rcases List.mem_cons.1 h with h | h
    · cases h
    · exact mem_tmps r t h
  | .global _ :: r, t, h => by
    rcases List.mem_cons.1 h with h | h
    · cases h
    · exact mem_tmps r t h
  | .func _ :: r, t, h => by
    rcases List.mem_cons.1 h with h | h
    · cases h
    · exact mem_tmps r t h

theorem eval_alike {st st' : St} {x : Operand} (h : ∀ t, x = .tmp t → st'.t t = st.t t) : st'.eval x = st.eval x := by
  cases x with
  | tmp t => exact h t rfl
  | _ => rfl

section
variable {E : Env} {O : Oracle E} {X : Ctx} {all : Array Oper}

theorem uses_alike {o : Oper} {st st' : St} {e : Eff} (h : ∀ t ∈ (infoOf all o e).uses, st'.t t = st.t t) : ∀ x ∈ o.op.operands, st'.eval x = st.eval x := by
  intro x hx
  refine eval_alike fun t ht => h t ?_
  subst ht
  exact List.mem_append_right _ (mem_tmps _ _ (by simpa using hx))

theorem yielded_bool {st : St} {a : Act} {w : World} {j t : Nat} {b : Bool} (I : Inv X st a w) (hg : guardTmp all j = some t) (ht : st.t t = .one (.imm .bool b)) : yielded all a.tmps j = some b := by
  obtain ⟨N, hd, F, I⟩ := I
  have h := I.t t
  rw [ht] at h
  have hv : a.tmps.getD t undef = .bool b := imm_bool (m := memOf w) (N := N) (s := st.o) (hd := hd) h
  have hsome : a.tmps[t]? = some (.bool b) := by
    rw [Array.getD_eq_getD_getElem?] at hv
    cases hq : a.tmps[t]? with
    | none => rw [hq] at hv; simp [undef] at hv
    | some u => rw [hq] at hv; simp at hv; rw [hv]
  unfold yielded
  unfold guardTmp at hg
  rw [hg]
  simp [hsome]

theorem goodW_go {o : Oper} {st : St} {e : Eff} (hd : dstOK X o.dst) (hg : o.guard = none ∨ ∃ j t b, o.guard = some (j, b) ∧ guardTmp all j = some t ∧ st.t t = .one (.imm .bool b)) (h : Good E X o st e) : GoodW E X all o st e := by
  intro st' h1 h2 a w I K Q hK
  have hw : Region.wanted o (yielded all a.tmps) = true := by
    rcases hg with hg | ⟨j, t, b, hg, hj, ht⟩
    · simp [Region.wanted, hg]
    · have ht' : st'.t t = .one (.imm .bool b) := by
        rw [h1 t (by simp [infoOf, hg, hj]), ht]
      simp [Region.wanted, hg, yielded_bool I hj ht']
  rw [if_pos hw]
  exact .inl (h st' (uses_alike h1) h2 a w I hd K Q hK)

theorem goodW_skip {o : Oper} {st : St} {s : Sto} (hd : dstOK X o.dst) {j t : Nat} {b b' : Bool} (hg : o.guard = some (j, b')) (hj : guardTmp all j = some t) (ht : st.t t = .one (.imm .bool b)) (hb : b ≠ b') : GoodW E X all o st { v := .tup [], s } := by
  intro st' h1 h2 a w I K Q hK
  have ht' : st'.t t = .one (.imm .bool b) := by
    rw [h1 t (by simp [infoOf, hg, hj]), ht]
  have hw : ¬ (Region.wanted o (yielded all a.tmps) = true) := by
    simp [Region.wanted, hg, yielded_bool I hj ht', hb]
  rw [if_neg hw]
  obtain ⟨N, hd', F, I⟩ := I
  exact hK _ _ (I.val hd ⟨[], rfl, trivial⟩)

/-- What was skipped itself bids nothing. -/
theorem goodW_skip2 {o : Oper} {st : St} {s : Sto} (hd : dstOK X o.dst) {j t : Nat} {b' : Bool} (hg : o.guard = some (j, b')) (hj : guardTmp all j = some t) (ht : st.t t = .tup []) : GoodW E X all o st { v := .tup [], s } := by
  intro st' h1 h2 a w I K Q hK
  have ht' : st'.t t = .tup [] := by
    rw [h1 t (by simp [infoOf, hg, hj]), ht]
  have hy : yielded all a.tmps j = none := by
    obtain ⟨N, hd', F, I⟩ := I
    have h := I.t t
    rw [ht'] at h
    obtain ⟨vs, e1, e2⟩ := h
    have hv : a.tmps.getD t undef = .tuple ⟨vs⟩ := e1
    unfold yielded
    unfold guardTmp at hj
    rw [hj]
    cases hq : a.tmps[t]? with
    | none => simp [hq]
    | some u =>
      have hu : u = .tuple ⟨vs⟩ := by
        rw [Array.getD_eq_getD_getElem?, hq] at hv
        simpa using hv
      simp [hq, hu]
  have hw : ¬ (Region.wanted o (yielded all a.tmps) = true) := by
    simp [Region.wanted, hg, hy]
  rw [if_neg hw]
  obtain ⟨N, hd', F, I⟩ := I
  exact hK _ _ (I.val hd ⟨[], rfl, trivial⟩)

/-- A run of a region's operations in their order. -/
inductive Run (E : Env) (X : Ctx) (all : Array Oper) : List Oper → St → List Eff → St → Prop
  | nil (st : St) : Run E X all [] st [] st
  | cons {o : Oper} {r : List Oper} {st st' : St} {e : Eff} {es : List Eff} (h : GoodW E X all o st e) (h' : Run E X all r (st.app o.dst e) es st') : Run E X all (o :: r) st (e :: es) st'

theorem put_same {st : St} {t : Nat} {v : V} (h : st.t t = v) : st.put t v = st := by
  unfold St.put
  congr 1
  funext i
  by_cases e : i = t
  · subst e; simp [h]
  · simp [e]

theorem evOps_ok (hC : CSoundX X E O.C) {R : Type} {r : R} : ∀ (ops : List Oper) (st : St) (acc : List Info) (K : List Info → St → Option R), evOps E O all X.io X.nt ops st acc K = some r →
    ∃ es st', Run E X all ops st es st' ∧ es.length = ops.length ∧ K (acc.reverse ++ List.zipWith (infoOf all) ops es) st' = some r
  | [], st, acc, K, h => ⟨[], st, .nil st, rfl, by simpa [evOps] using h⟩
  | o :: ops, st, acc, K, h => by
    have hdst : ∀ {q : Option R}, (if dstB X.nt X.io o.dst = true then q else none) = some r → dstOK X o.dst ∧ q = some r := by
      intro q hq
      split at hq
      · rename_i hc
        refine ⟨fun t ht => ?_, hq⟩
        rw [ht] at hc
        simpa [dstB] using hc
      · cases hq
    have go : ∀ {st0 : St}, st0 = st → (o.guard = none ∨ ∃ j t b, o.guard = some (j, b) ∧ guardTmp all j = some t ∧ st.t t = .one (.imm .bool b)) →
        (if dstB X.nt X.io o.dst = true then exOp E O o st0 fun e => evOps E O all X.io X.nt ops (st0.app o.dst e) (infoOf all o e :: acc) K else none) = some r →
        ∃ es st', Run E X all (o :: ops) st es st' ∧ es.length = (o :: ops).length ∧ K (acc.reverse ++ List.zipWith (infoOf all) (o :: ops) es) st' = some r := by
      intro st0 e0 hg hq
      subst e0
      obtain ⟨hd, hq⟩ := hdst hq
      obtain ⟨e, hq, hgood⟩ := exOp_good (X := X) hC o hq
      obtain ⟨es, st', h1, h2, h3⟩ := evOps_ok hC ops _ _ _ hq
      exact ⟨e :: es, st', .cons (goodW_go hd hg hgood) h1, by simp [h2], by simpa using h3⟩
    have skip : ∀ {st0 : St}, st0 = st → (∃ j t b b', o.guard = some (j, b') ∧ guardTmp all j = some t ∧ st.t t = .one (.imm .bool b) ∧ b ≠ b') →
        (if dstB X.nt X.io o.dst = true then evOps E O all X.io X.nt ops (st0.app o.dst { v := .tup [], s := st0.o }) (infoOf all o { v := .tup [], s := st0.o } :: acc) K else none) = some r →
        ∃ es st', Run E X all (o :: ops) st es st' ∧ es.length = (o :: ops).length ∧ K (acc.reverse ++ List.zipWith (infoOf all) (o :: ops) es) st' = some r := by
      intro st0 e0 hg hq
      subst e0
      obtain ⟨hd, hq⟩ := hdst hq
      obtain ⟨j, t, b, b', hg, hj, ht, hb⟩ := hg
      obtain ⟨es, st', h1, h2, h3⟩ := evOps_ok hC ops _ _ _ hq
      exact ⟨_ :: es, st', .cons (goodW_skip hd hg hj ht hb) h1, by simp [h2], by simpa using h3⟩
    simp only [evOps] at h
    split at h
    · rename_i hg
      exact go rfl (.inl hg) h
    · rename_i j want hg
      split at h
      · cases h
      · rename_i t hj
        split at h
        · rename_i b ht
          split at h
          · rename_i hb
            have hb' : b = true := hb
            rw [hb'] at ht
            split at h
            · rename_i hw
              exact go (put_same ht) (.inr ⟨j, t, true, by rw [hg, hw], hj, ht⟩) h
            · rename_i hw
              exact skip (put_same ht) ⟨j, t, true, want, hg, hj, ht, fun h => hw h.symm⟩ h
          · rename_i hb
            have hb' : b = false := by
              have hb2 : ¬ (b = true) := hb
              simpa using hb2
            rw [hb'] at ht
            split at h
            · rename_i hw
              exact skip (put_same ht) ⟨j, t, false, want, hg, hj, ht, by rw [hw]; simp⟩ h
            · rename_i hw
              exact go (put_same ht) (.inr ⟨j, t, false, by rw [hg]; simpa using hw, hj, ht⟩) h
        · rename_i ht
          obtain ⟨hd, hq⟩ := hdst h
          obtain ⟨es, st', h1, h2, h3⟩ := evOps_ok hC ops _ _ _ hq
          exact ⟨_ :: es, st', .cons (goodW_skip2 hd hg hj ht) h1, by simp [h2], by simpa using h3⟩
        · cases h

theorem Run.wpOps {Q : Exit → Act → World → Prop} : ∀ {ops : List Oper} {st st' : St} {es : List Eff}, Run E X all ops st es st' → ∀ (k : Nat), (∀ i, i < ops.length → all[k + i]? = ops[i]?) → ∀ a w, Inv X st a w → (∀ a w, Inv X st' a w → Q .normal a w) →
    Go.wpOps E.P all Q (List.range' k ops.length) a w := by
  intro ops st st' es h
  induction h with
  | nil st => intro k _ a w I hQ; exact hQ a w I
  | @cons o r st st' e es h h' ih =>
    intro k hk a w I hQ
    have h0 : all[k]? = some o := by simpa using hk 0 (by simp)
    rw [List.length_cons, List.range'_succ]
    simp only [Go.wpOps, h0]
    have := h st (fun _ _ => rfl) (fun _ _ => rfl) a w I (Go.wpOps E.P all Q (List.range' (k + 1) r.length)) Q (fun a' w' I' => ih (k + 1) (fun i hi => by
      have := hk (i + 1) (by simpa using hi)
      simpa [Nat.add_assoc, Nat.add_comm 1] using this) a' w' I' hQ)
    exact this
end

end Go.Proofs.YtndnhbihcnlpaaaDoorSt.Ev

/- The evaluator: regions whose order is drawn. -/
namespace Go.Proofs.YtndnhbihcnlpaaaDoorSt.Ev
open Go

/-- The state when some of the operations have run. -/
def stS : Nat → List (Oper × Eff) → (Nat → Bool) → St → St
  | _, [], _, st => st
  | k, p :: r, S, st => stS (k + 1) r S (if S k = true then st.app p.1.dst p.2 else st)

theorem stS_none : ∀ (ps : List (Oper × Eff)) (k : Nat) (S : Nat → Bool) (st : St), (∀ i, k ≤ i → i < k + ps.length → S i = false) → stS k ps S st = st
  | [], _, _, _, _ => rfl
  | p :: r, k, S, st, h => by
    have h0 := h k (Nat.le_refl _) (by simp)
    simp only [stS, h0]
    exact stS_none r (k + 1) S st (fun i h1 h2 => h i (by omega) (by simp; omega))

theorem app_t {st : St} {o : Oper} {e : Eff} {t : Nat} (h : o.dst ≠ some t) : (st.app o.dst e).t t = st.t t := by
  unfold St.app
  cases hd : o.dst with
  | none => rfl
  | some d =>
    have : t ≠ d := fun h' => h (by rw [hd, h'])
    simp [this]
theorem app_t_same {st : St} {o : Oper} {e : Eff} {t : Nat} (h : o.dst = some t) : (st.app o.dst e).t t = e.v := by
  rw [h]; simp [St.app]
theorem app_o {st : St} {d : Option Nat} {e : Eff} {i : Nat} (h : i ∉ e.w) : (st.app d e).o i = st.o i := by
  simp [St.app, h]
theorem app_o_same {st : St} {d : Option Nat} {e : Eff} {i : Nat} (h : i ∈ e.w) : (st.app d e).o i = e.s i := by
  simp [St.app, h]

theorem cmpT {t : Nat} {S S' : Nat → Bool} : ∀ (ps : List (Oper × Eff)) (k : Nat) (st st' : St), (∀ i p, ps[i]? = some p → S (k + i) ≠ S' (k + i) → p.1.dst ≠ some t) → st.t t = st'.t t → (stS k ps S st).t t = (stS k ps S' st').t t
  | [], _, _, _, _, h => h
  | p :: r, k, st, st', hd, h => by
    simp only [stS]
    refine cmpT r (k + 1) _ _ (fun i q hq hne => hd (i + 1) q (by simpa using hq) (by rwa [Nat.add_assoc, Nat.add_comm 1] at hne)) ?_
    have h0 := hd 0 p (by simp)
    simp only [Nat.add_zero] at h0
    by_cases hdt : p.1.dst = some t
    · have heq : S k = S' k := Classical.byContradiction fun hne => h0 hne hdt
      rw [heq]
      split
      · rw [app_t_same hdt, app_t_same hdt]
      · exact h
    · split <;> split <;> simp only [app_t hdt, h]

theorem cmpO {x : Nat} {S S' : Nat → Bool} : ∀ (ps : List (Oper × Eff)) (k : Nat) (st st' : St), (∀ i p, ps[i]? = some p → S (k + i) ≠ S' (k + i) → x ∉ p.2.w) → st.o x = st'.o x → (stS k ps S st).o x = (stS k ps S' st').o x
  | [], _, _, _, _, h => h
  | p :: r, k, st, st', hd, h => by
    simp only [stS]
    refine cmpO r (k + 1) _ _ (fun i q hq hne => hd (i + 1) q (by simpa using hq) (by rwa [Nat.add_assoc, Nat.add_comm 1] at hne)) ?_
    have h0 := hd 0 p (by simp)
    simp only [Nat.add_zero] at h0
    by_cases hdt : x ∈ p.2.w
    · have heq : S k = S' k := Classical.byContradiction fun hne => h0 hne hdt
      rw [heq]
      split
      · rw [app_o_same hdt, app_o_same hdt]
      · exact h
    · split <;> split <;> simp only [app_o hdt, h]

theorem lastT {t : Nat} {S : Nat → Bool} : ∀ (ps : List (Oper × Eff)) (k j : Nat) (p : Oper × Eff) (st : St), ps[j]? = some p → S (k + j) = true → p.1.dst = some t → (∀ i q, j < i → ps[i]? = some q → S (k + i) = true → q.1.dst ≠ some t) → (stS k ps S st).t t = p.2.v
  | [], _, _, _, _, h, _, _, _ => by simp at h
  | p :: r, k, 0, p', st, h, hS, hd, hl => by
    simp at h; subst h
    simp only [stS]
    have hS' : S k = true := hS
    rw [if_pos hS']
    have := cmpT (S := S) (S' := fun _ => false) (t := t) r (k + 1) (st.app p.1.dst p.2) (st.app p.1.dst p.2) (fun i q hq hne => by
      have h1 : S (k + (i + 1)) = true := by
        cases hs : S (k + (i + 1)) with
        | true => rfl
        | false => rw [Nat.add_assoc, Nat.add_comm 1 i] at hne; exact absurd hs hne
      exact hl (i + 1) q (by omega) (by simpa using hq) h1) rfl
    rw [this, stS_none r (k + 1) _ _ (fun _ _ _ => rfl), app_t_same hd]
  | p :: r, k, j + 1, p', st, h, hS, hd, hl => by
    simp only [stS]
    exact lastT r (k + 1) j p' _ (by simpa using h) (by rwa [Nat.add_assoc, Nat.add_comm 1 j]) hd (fun i q hi hq hs => hl (i + 1) q (by omega) (by simpa using hq) (by rwa [Nat.add_assoc, Nat.add_comm 1 i] at hs))

theorem lastO {x : Nat} {S : Nat → Bool} : ∀ (ps : List (Oper × Eff)) (k j : Nat) (p : Oper × Eff) (st : St), ps[j]? = some p → S (k + j) = true → x ∈ p.2.w → (∀ i q, j < i → ps[i]? = some q → S (k + i) = true → x ∉ q.2.w) → (stS k ps S st).o x = p.2.s x
  | [], _, _, _, _, h, _, _, _ => by simp at h
  | p :: r, k, 0, p', st, h, hS, hd, hl => by
    simp at h; subst h
    simp only [stS]
    have hS' : S k = true := hS
    rw [if_pos hS']
    have := cmpO (S := S) (S' := fun _ => false) (x := x) r (k + 1) (st.app p.1.dst p.2) (st.app p.1.dst p.2) (fun i q hq hne => by
      have h1 : S (k + (i + 1)) = true := by
        cases hs : S (k + (i + 1)) with
        | true => rfl
        | false => rw [Nat.add_assoc, Nat.add_comm 1 i] at hne; exact absurd hs hne
      exact hl (i + 1) q (by omega) (by simpa using hq) h1) rfl
    rw [this, stS_none r (k + 1) _ _ (fun _ _ _ => rfl), app_o_same hd]
  | p :: r, k, j + 1, p', st, h, hS, hd, hl => by
    simp only [stS]
    exact lastO r (k + 1) j p' _ (by simpa using h) (by rwa [Nat.add_assoc, Nat.add_comm 1 j]) hd (fun i q hi hq hs => hl (i + 1) q (by omega) (by simpa using hq) (by rwa [Nat.add_assoc, Nat.add_comm 1 i] at hs))

/-- One operation more. -/
theorem stS_insert {ps : List (Oper × Eff)} {S S1 : Nat → Bool} {j : Nat} {p : Oper × Eff} {st : St} (hp : ps[j]? = some p) (h1 : S1 j = true) (hS : ∀ i, i ≠ j → S1 i = S i)
    (ht : ∀ i q t, j < i → ps[i]? = some q → S i = true → p.1.dst = some t → q.1.dst ≠ some t) (ho : ∀ i q x, j < i → ps[i]? = some q → S i = true → x ∈ p.2.w → x ∉ q.2.w) :
    stS 0 ps S1 st = (stS 0 ps S st).app p.1.dst p.2 := by
  have e1 : ∀ t, (stS 0 ps S1 st).t t = ((stS 0 ps S st).app p.1.dst p.2).t t := by
    intro t
    by_cases hd : p.1.dst = some t
    · rw [app_t_same hd]
      exact lastT ps 0 j p st hp (by rw [Nat.zero_add]; exact h1) hd (fun i q hi hq hs => ht i q t hi hq (by rw [Nat.zero_add, hS i (by omega)] at hs; exact hs) hd)
    · rw [app_t hd]
      refine cmpT ps 0 st st (fun i q hq hne => ?_) rfl
      rw [Nat.zero_add] at hne
      by_cases hij : i = j
      · subst hij; rw [hp] at hq; injection hq with hq; subst hq; exact hd
      · exact absurd (hS i hij) hne
  have e2 : ∀ x, (stS 0 ps S1 st).o x = ((stS 0 ps S st).app p.1.dst p.2).o x := by
    intro x
    by_cases hd : x ∈ p.2.w
    · rw [app_o_same hd]
      exact lastO ps 0 j p st hp (by rw [Nat.zero_add]; exact h1) hd (fun i q hi hq hs => ho i q x hi hq (by rw [Nat.zero_add, hS i (by omega)] at hs; exact hs) hd)
    · rw [app_o hd]
      refine cmpO ps 0 st st (fun i q hq hne => ?_) rfl
      rw [Nat.zero_add] at hne
      by_cases hij : i = j
      · subst hij; rw [hp] at hq; injection hq with hq; subst hq; exact hd
      · exact absurd (hS i hij) hne
  have f1 := funext e1
  have f2 := funext e2
  cases ha : stS 0 ps S1 st
  cases hb : (stS 0 ps S st).app p.1.dst p.2
  rw [ha, hb] at f1 f2
  simp only at f1 f2
  rw [f1, f2]

section
variable {E : Env} {X : Ctx} {all : Array Oper}

theorem Run.at {ops : List Oper} {st st' : St} {es : List Eff} (h : Run E X all ops st es st') : ∀ (k j : Nat) (p : Oper × Eff), (ops.zip es)[j]? = some p → ∀ S : Nat → Bool, (∀ i, S i = true ↔ i < k + j) → GoodW E X all p.1 (stS k (ops.zip es) S st) p.2 := by
  induction h with
  | nil st => intro k j p hp; simp at hp
  | @cons o r st st' e es h h' ih =>
    intro k j p hp S hS
    cases j with
    | zero =>
      simp at hp; subst hp
      rw [stS_none _ _ _ _ (fun i h1 _ => by
        cases hs : S i with
        | false => rfl
        | true => have := (hS i).1 hs; omega)]
      exact h
    | succ j =>
      have hk : S k = true := (hS k).2 (by omega)
      simp only [List.zip_cons_cons, stS, hk, if_true]
      exact ih (k + 1) j p (by simpa using hp) S (fun i => by rw [hS i]; omega)

theorem Run.last {ops : List Oper} {st st' : St} {es : List Eff} (h : Run E X all ops st es st') : ∀ (k : Nat) (S : Nat → Bool), (∀ i, k ≤ i → i < k + ops.length → S i = true) → stS k (ops.zip es) S st = st' := by
  induction h with
  | nil st => intro k S _; rfl
  | @cons o r st st' e es h h' ih =>
    intro k S hS
    have hk : S k = true := hS k (Nat.le_refl _) (by simp)
    simp only [List.zip_cons_cons, stS, hk, if_true]
    exact ih (k + 1) S (fun i h1 h2 => hS i (by omega) (by simp; omega))
end

/-! ### What stands behind what -/
theorem fold_bit {acc : List Nat} (i : Nat) : ∀ (es : List Edge) (s : Nat), (es.foldl (fun s e => if Region.binds .any e then s ||| 2 ^ e.on ||| acc.getD e.on 0 else s) s).testBit i = true →
    s.testBit i = true ∨ ∃ e ∈ es, Region.binds .any e = true ∧ (i = e.on ∨ (acc.getD e.on 0).testBit i = true)
  | [], s, h => .inl h
  | e :: es, s, h => by
    rw [List.foldl_cons] at h
    rcases fold_bit i es _ h with h1 | ⟨e', h1, h2, h3⟩
    · split at h1
      · rename_i hb
        simp only [Nat.testBit_or, Bool.or_eq_true, Nat.testBit_two_pow, decide_eq_true_eq] at h1
        rcases h1 with (h1 | h1) | h1
        · exact .inl h1
        · exact .inr ⟨e, List.mem_cons_self .., hb, .inl h1.symm⟩
        · exact .inr ⟨e, List.mem_cons_self .., hb, .inr h1⟩
      · exact .inl h1
    · exact .inr ⟨e', List.mem_cons_of_mem _ h1, h2, h3⟩

theorem befores_bit : ∀ (ops : List Oper) (acc : List Nat), ∃ tail, befores ops acc = acc ++ tail ∧ tail.length = ops.length ∧ ∀ (j : Nat) (o : Oper), ops[j]? = some o → ∀ i, (tail.getD j 0).testBit i = true →
    ∃ e ∈ o.after.toList, Region.binds .any e = true ∧ (i = e.on ∨ ((acc ++ tail).getD e.on 0).testBit i = true)
  | [], acc => ⟨[], by simp [befores], rfl, by simp⟩
  | o :: r, acc => by
    obtain ⟨tail, h1, h2, h3⟩ := befores_bit r (acc ++ [o.after.toList.foldl (fun s e => if Region.binds .any e then s ||| 2 ^ e.on ||| acc.getD e.on 0 else s) 0])
    refine ⟨_ :: tail, by rw [befores, h1, List.append_assoc]; rfl, by simp [h2], fun j o' ho i hb => ?_⟩
    cases j with
    | zero =>
      simp at ho; subst ho
      rcases fold_bit i _ _ hb with h | ⟨e, q1, q2, q3⟩
      · simp at h
      · refine ⟨e, q1, q2, q3.imp (fun h => h) (fun h => ?_)⟩
        have hlt : e.on < acc.length := by
          apply Classical.byContradiction
          intro hge
          rw [List.getD_eq_getElem?_getD, List.getElem?_eq_none (by omega)] at h
          simp at h
        rw [List.getD_eq_getElem?_getD, List.getElem?_append_left hlt, ← List.getD_eq_getElem?_getD]
        exact h
    | succ j =>
      obtain ⟨e, q1, q2, q3⟩ := h3 j o' (by simpa using ho) i hb
      refine ⟨e, q1, q2, ?_⟩
      rw [List.append_assoc] at q3
      exact q3

end Go.Proofs.YtndnhbihcnlpaaaDoorSt.Ev

/- The evaluator: regions are sound. -/
namespace Go.Proofs.YtndnhbihcnlpaaaDoorSt.Ev
open Go

section
variable {E : Env} {X : Ctx} {all : Array Oper}

theorem zipWith_get {ops : List Oper} {es : List Eff} {j : Nat} {p : Oper × Eff} (h : (ops.zip es)[j]? = some p) : (List.zipWith (infoOf all) ops es)[j]? = some (infoOf all p.1 p.2) := by
  rw [List.zip_eq_zipWith] at h
  simp only [List.getElem?_zipWith] at h ⊢
  cases ho : ops[j]? with
  | none => rw [ho] at h; simp at h
  | some o =>
    cases he : es[j]? with
    | none => rw [ho, he] at h; simp at h
    | some e => rw [ho, he] at h; simp at h; subst h; rfl

theorem commOk_get {bs : List Nat} {is : List Info} (h : commOk bs is = true) {i j : Nat} {a b : Info} (ha : is[i]? = some a) (hb : is[j]? = some b) (hij : i < j) : (bs.getD j 0).testBit i = true ∨ apart a b = true := by
  unfold commOk at h
  rw [List.all_eq_true] at h
  have h1 := h (b, j) (by rw [List.mem_zipIdx_iff_getElem?]; exact hb)
  simp only at h1
  rw [List.all_eq_true] at h1
  have h2 := h1 (a, i) (by rw [List.mem_zipIdx_iff_getElem?]; exact ha)
  simp only [Bool.or_eq_true, Bool.not_eq_true', decide_eq_false_iff_not] at h2
  rcases h2 with (h2 | h2) | h2
  · exact absurd hij h2
  · exact .inl h2
  · exact .inr h2

theorem apart_spec {a b : Info} (h : apart a b = true) : (∀ d, a.d = some d → d ∉ b.uses ∧ b.d ≠ some d) ∧ (∀ d, b.d = some d → d ∉ a.uses) ∧ (∀ i ∈ a.w, i ∉ b.w ∧ i ∉ b.r) ∧ (∀ i ∈ a.r, i ∉ b.w) := by
  unfold apart at h
  simp only [Bool.and_eq_true, List.all_eq_true] at h
  obtain ⟨⟨⟨h1, h2⟩, h3⟩, h4⟩ := h
  refine ⟨fun d hd => ?_, fun d hd => ?_, fun i hi => ?_, fun i hi => ?_⟩
  · rw [hd] at h1; simpa using h1
  · rw [hd] at h2; simpa using h2
  · simpa using h3 i hi
  · simpa using h4 i hi

theorem backOk_get {ops : List Oper} (h : backOk ops = true) {j : Nat} {o : Oper} (ho : ops[j]? = some o) {e : Edge} (he : e ∈ o.after.toList) (hb : Region.binds .any e = true) : e.on < j := by
  unfold backOk at h
  rw [List.all_eq_true] at h
  have h1 := h (o, j) (by rw [List.mem_zipIdx_iff_getElem?]; exact ho)
  simp only at h1
  rw [List.all_eq_true] at h1
  have h2 := h1 e he
  simpa [hb] using h2

/-- How many are not yet listed. -/
def todo (n : Nat) (listed : Array Bool) : Nat := ((List.range n).filter fun i => !listed.getD i true).length

theorem getD_set {l : Array Bool} {i : Nat} (hi : i < l.size) (j : Nat) (d : Bool) : (l.setIfInBounds i true).getD j d = if j = i then true else l.getD j d := by
  simp only [Array.getD_eq_getD_getElem?, Array.getElem?_setIfInBounds]
  by_cases h : j = i
  · subst h; simp [hi]
  · rw [if_neg (fun e => h e.symm), if_neg h]

theorem todo_set {n : Nat} {l : Array Bool} (hn : l.size = n) {i : Nat} (hi : i < n) (hl : l.getD i true = false) {k : Nat} (h : todo n l = k + 1) : todo n (l.setIfInBounds i true) = k := by
  unfold todo at h ⊢
  have key : ∀ (m : Nat) (xs : List Nat), xs.Nodup → i ∈ xs → (xs.filter fun j => !l.getD j true).length = m + 1 → (xs.filter fun j => !(l.setIfInBounds i true).getD j true).length = m := by
    intro m xs
    induction xs generalizing m with
    | nil => intro _ h; simp at h
    | cons x xs ih =>
      intro hnd hmem hlen
      rw [List.nodup_cons] at hnd
      by_cases hx : x = i
      · subst hx
        have e1 : (xs.filter fun j => !(l.setIfInBounds x true).getD j true) = xs.filter fun j => !l.getD j true := by
          apply List.filter_congr
          intro j hj
          rw [getD_set (by omega), if_neg (fun e => hnd.1 (by rw [← e]; exact hj))]
        rw [List.filter_cons_of_neg (by rw [getD_set (by omega)]; simp), e1]
        rw [List.filter_cons_of_pos (by simp [hl])] at hlen
        simpa using hlen
      · have hm' : i ∈ xs := by
          rcases List.mem_cons.1 hmem with h | h
          · exact absurd h.symm hx
          · exact h
        by_cases hq : l.getD x true = true
        · rw [List.filter_cons_of_neg (by rw [getD_set (by omega), if_neg hx]; simp [hq])]
          rw [List.filter_cons_of_neg (by simp [hq])] at hlen
          exact ih m hnd.2 hm' hlen
        · have hq' : l.getD x true = false := by simpa using hq
          rw [List.filter_cons_of_pos (by rw [getD_set (by omega), if_neg hx]; simp [hq'])]
          rw [List.filter_cons_of_pos (by simp [hq'])] at hlen
          simp only [List.length_cons, Nat.add_right_cancel_iff] at hlen ⊢
          cases m with
          | zero =>
            have : i ∈ xs.filter fun j => !l.getD j true := List.mem_filter.2 ⟨hm', by simp [hl]⟩
            rw [List.eq_nil_of_length_eq_zero hlen] at this
            simp at this
          | succ m =>
            rw [ih m hnd.2 hm' hlen]
  exact key k (List.range n) List.nodup_range (by simpa using hi) h

theorem any_ok {st st' : St} {es : List Eff} {Q : Exit → Act → World → Prop} (hrun : Run E X all all.toList st es st') (hlen : es.length = all.toList.length) (hback : backOk all.toList = true) (hcomm : commOk (befores all.toList []) (List.zipWith (infoOf all) all.toList es) = true)
    (hQ : ∀ a w, Inv X st' a w → Q .normal a w) :
    ∀ (fuel : Nat) (listed : Array Bool) (a : Act) (w : World), listed.size = all.size → todo all.size listed = fuel →
      (∀ j, listed.getD j false = true → ∀ i, ((befores all.toList []).getD j 0).testBit i = true → listed.getD i false = true) → Inv X (stS 0 (all.toList.zip es) (fun i => listed.getD i false) st) a w →
      wpAny E.P .any all Q fuel listed a w := by
  have hbs : ∀ (j : Nat) (o : Oper), all.toList[j]? = some o → ∀ i, ((befores all.toList []).getD j 0).testBit i = true → ∃ e ∈ o.after.toList, Region.binds .any e = true ∧ (i = e.on ∨ ((befores all.toList []).getD e.on 0).testBit i = true) := by
    obtain ⟨tail, h1, h2, h3⟩ := befores_bit all.toList []
    rw [List.nil_append] at h1
    rw [h1]
    simpa using h3
  have hgetD : ∀ (l : Array Bool) (j : Nat), l.size = all.size → j < all.size → l.getD j true = l.getD j false := by
    intro l j hl hj
    simp only [Array.getD_eq_getD_getElem?]
    rw [Array.getElem?_eq_getElem (by omega)]
    rfl
  have hget : ∀ j, j < all.size → ∃ o, all.toList[j]? = some o ∧ all[j]? = some o := by
    intro j hj
    exact ⟨all[j], by simp [hj], by simp [hj]⟩
  -- the first that is not listed is ready
  have hready : ∀ (l : Array Bool), l.size = all.size → todo all.size l ≠ 0 → Region.ready .any all l ≠ [] := by
    intro l hl hne hnil
    have hex : ∃ j, j < all.size ∧ l.getD j true = false := by
      unfold todo at hne
      obtain ⟨j, hj⟩ := List.exists_mem_of_ne_nil ((List.range all.size).filter fun i => !l.getD i true) (fun h => hne (by rw [h]; rfl))
      rw [List.mem_filter] at hj
      exact ⟨j, by simpa using hj.1, by simpa using hj.2⟩
    have hmin : ∀ n, ∀ j, j < n → j < all.size → l.getD j true = true := by
      intro n
      induction n with
      | zero => intro j hj; omega
      | succ n ih =>
        intro j hj hja
        by_cases hjn : j < n
        · exact ih j hjn hja
        · have hjn' : j = n := by omega
          subst hjn'
          apply Classical.byContradiction
          intro hf
          have hf' : l.getD j true = false := by simpa using hf
          obtain ⟨o, ho1, ho2⟩ := hget j hja
          have hin : j ∈ Region.ready .any all l := by
            unfold Region.ready
            rw [List.mem_filter]
            refine ⟨by simpa using hja, ?_⟩
            simp only [hf', Bool.not_false, Bool.true_and, ho2, Option.map_some, Option.getD_some]
            rw [Array.all_eq_true_iff_forall_mem]
            intro e he
            by_cases hb : Region.binds .any e = true
            · have hlt := backOk_get hback ho1 (e := e) (by simpa using he) hb
              have := ih e.on hlt (by omega)
              rw [hgetD l e.on hl (by omega)] at this
              simp [hb, this]
            · simp [hb]
          rw [hnil] at hin
          simp at hin
    obtain ⟨j, hj, hjf⟩ := hex
    rw [hmin (j + 1) j (by omega) hj] at hjf
    cases hjf
  have hdone : ∀ (l : Array Bool) a w, l.size = all.size → todo all.size l = 0 → Inv X (stS 0 (all.toList.zip es) (fun i => l.getD i false) st) a w → Q .normal a w := by
    intro l a w hl h0 I
    rw [hrun.last 0 (fun i => l.getD i false) (fun i _ hi => by
      have hia : i < all.size := by simpa using hi
      rw [← hgetD l i hl hia]
      apply Classical.byContradiction
      intro hf
      unfold todo at h0
      have hnil := List.eq_nil_of_length_eq_zero h0
      have : i ∈ (List.range all.size).filter fun i => !l.getD i true := List.mem_filter.2 ⟨by simpa using hia, by simpa using hf⟩
      rw [hnil] at this
      simp at this)] at I
    exact hQ a w I
  intro fuel
  induction fuel with
  | zero =>
    intro l a w hl h0 _ I
    refine ⟨?_, hdone l a w hl h0 I⟩
    apply List.eq_nil_iff_forall_not_mem.2
    intro i hi
    unfold Region.ready at hi
    rw [List.mem_filter] at hi
    unfold todo at h0
    have hnil := List.eq_nil_of_length_eq_zero h0
    have : i ∈ (List.range all.size).filter fun i => !l.getD i true := List.mem_filter.2 ⟨hi.1, by
      have := hi.2
      simp only [Bool.and_eq_true] at this
      exact this.1⟩
    rw [hnil] at this
    simp at this
  | succ fuel ih =>
    intro l a w hl h0 hcl I
    refine ⟨fun hnil => absurd hnil (hready l hl (by omega)), fun i hi => ?_⟩
    unfold Region.ready at hi
    rw [List.mem_filter] at hi
    obtain ⟨hi1, hi2⟩ := hi
    have hia : i < all.size := by simpa using hi1
    obtain ⟨o, ho1, ho2⟩ := hget i hia
    simp only [Bool.and_eq_true, Bool.not_eq_true', ho2, Option.map_some, Option.getD_some] at hi2
    obtain ⟨hlf, hedges⟩ := hi2
    have hlf' : l.getD i false = false := by rw [← hgetD l i hl hia]; exact hlf
    rw [Array.all_eq_true_iff_forall_mem] at hedges
    have hedge : ∀ e ∈ o.after.toList, Region.binds .any e = true → l.getD e.on false = true := by
      intro e he hb
      have := hedges e (by simpa using he)
      simpa [hb] using this
    obtain ⟨e, hpe⟩ : ∃ e, (all.toList.zip es)[i]? = some (o, e) := by
      have hil : i < es.length := by rw [hlen]; simpa using hia
      refine ⟨es[i], ?_⟩
      rw [List.getElem?_zip_eq_some]
      exact ⟨ho1, List.getElem?_eq_getElem hil⟩
    have hbef : ∀ i', ((befores all.toList []).getD i 0).testBit i' = true → l.getD i' false = true := by
      intro i' hb
      obtain ⟨e', h1, h2, h3⟩ := hbs i o ho1 i' hb
      rcases h3 with rfl | h3
      · exact hedge e' h1 h2
      · exact hcl e'.on (hedge e' h1 h2) i' h3
    have hgw := hrun.at 0 i (o, e) hpe (fun k => decide (k < i)) (fun k => by simp)
    -- the others don't meet it
    have happ : ∀ (k : Nat) (q : Oper × Eff), (all.toList.zip es)[k]? = some q → l.getD k false ≠ decide (k < i) → (k < i → apart (infoOf all q.1 q.2) (infoOf all o e) = true) ∧ (i < k → apart (infoOf all o e) (infoOf all q.1 q.2) = true) ∧ k ≠ i := by
      intro k q hq hne
      refine ⟨fun hk => ?_, fun hk => ?_, fun hk => ?_⟩
      · rcases commOk_get hcomm (zipWith_get hq) (zipWith_get hpe) hk with h | h
        · exact absurd (by rw [hbef k h]; simp [hk]) hne
        · exact h
      · have hkt : l.getD k false = true := by
          have : decide (k < i) = false := by simp; omega
          rw [this] at hne
          simpa using hne
        rcases commOk_get hcomm (zipWith_get hpe) (zipWith_get hq) hk with h | h
        · rw [hcl k hkt i h] at hlf'; cases hlf'
        · exact h
      · subst hk; rw [hlf'] at hne; simp at hne
    have halT : ∀ t ∈ (infoOf all o e).uses, (stS 0 (all.toList.zip es) (fun i => l.getD i false) st).t t = (stS 0 (all.toList.zip es) (fun k => decide (k < i)) st).t t := by
      intro t ht
      refine cmpT _ 0 st st (fun k q hq hne => ?_) rfl
      rw [Nat.zero_add] at hne
      obtain ⟨a1, a2, a3⟩ := happ k q hq hne
      intro hd
      rcases Nat.lt_trichotomy k i with h | h | h
      · exact ((apart_spec (a1 h)).1 t hd).1 ht
      · exact a3 h
      · exact (apart_spec (a2 h)).2.1 t hd ht
    have halO : ∀ x, x ∈ e.w ∨ x ∈ e.r → (stS 0 (all.toList.zip es) (fun i => l.getD i false) st).o x = (stS 0 (all.toList.zip es) (fun k => decide (k < i)) st).o x := by
      intro x hx
      refine cmpO _ 0 st st (fun k q hq hne => ?_) rfl
      rw [Nat.zero_add] at hne
      obtain ⟨a1, a2, a3⟩ := happ k q hq hne
      intro hd
      rcases Nat.lt_trichotomy k i with h | h | h
      · have := (apart_spec (a1 h)).2.2.1 x hd
        rcases hx with hx | hx
        · exact this.1 hx
        · exact this.2 hx
      · exact a3 h
      · rcases hx with hx | hx
        · exact ((apart_spec (a2 h)).2.2.1 x hx).1 hd
        · exact (apart_spec (a2 h)).2.2.2 x hx hd
    have hins : ∀ a' w', Inv X ((stS 0 (all.toList.zip es) (fun i => l.getD i false) st).app o.dst e) a' w' → wpAny E.P .any all Q fuel (l.setIfInBounds i true) a' w' := by
      intro a' w' I'
      refine ih (l.setIfInBounds i true) a' w' (by simpa using hl) (todo_set hl hia hlf h0) (fun j hj i' hb => ?_) ?_
      · rw [getD_set (by omega)] at hj ⊢
        by_cases hji : j = i
        · subst hji
          split
          · rfl
          · exact hbef i' hb
        · rw [if_neg hji] at hj
          split
          · rfl
          · exact hcl j hj i' hb
      · have := stS_insert (S := fun k => l.getD k false) (S1 := fun k => (l.setIfInBounds i true).getD k false) (j := i) (st := st) hpe (by rw [getD_set (by omega), if_pos rfl]) (fun k hk => by rw [getD_set (by omega), if_neg hk])
          (fun k q t hk hq hs hd hq' => by
            obtain ⟨_, a2, _⟩ := happ k q hq (by have : decide (k < i) = false := by simp; omega
                                                 rw [hs, this]; simp)
            exact ((apart_spec (a2 hk)).1 t hd).2 hq')
          (fun k q x hk hq hs hd hq' => by
            obtain ⟨_, a2, _⟩ := happ k q hq (by have : decide (k < i) = false := by simp; omega
                                                 rw [hs, this]; simp)
            exact ((apart_spec (a2 hk)).2.2.1 x hd).1 hq')
        rw [this]
        exact I'
    unfold wpOp
    rw [ho2]
    exact hgw _ halT halO a w I _ Q hins

theorem Inv.drew {st : St} {a : Act} {w : World} (I : Inv X st a w) : Inv X st a { w with drawn := w.drawn + 1 } := by
  obtain ⟨N, hd, F, I⟩ := I
  exact ⟨N, hd, F, I.s, I.t, I.defers, I.size, I.io, ⟨I.fr.os, I.fr.tape, I.fr.output, I.fr.size, I.fr.block, I.fr.up, I.fr.new, I.fr.own⟩⟩

theorem region_ok {O : Oracle E} (hC : CSoundX X E O.C) (hm : E.P.follows .mixedOrders = true) {R : Type} {r : R} {id : Nat} {draw : Bool} {st : St} {K : St → Option R} 
    (h : (evOps E O all X.io X.nt all.toList st [] fun is st' => if draw = false ∨ (backOk all.toList && commOk (befores all.toList []) is) = true then K st' else none) = some r) :
    ∃ st', K st' = some r ∧ ∀ (Q : Exit → Act → World → Prop) a w, Inv X st a w → (∀ a w, Inv X st' a w → Q .normal a w) → (Code.region id all draw).wp E.P Q a w := by
  obtain ⟨es, st', hrun, hl, h⟩ := evOps_ok hC _ _ _ _ h
  by_cases hc0 : draw = false ∨ (backOk all.toList && commOk (befores all.toList []) ([].reverse ++ List.zipWith (infoOf all) all.toList es)) = true
  · rw [if_pos hc0] at h
    have hc : draw = false ∨ (backOk all.toList && commOk (befores all.toList []) (List.zipWith (infoOf all) all.toList es)) = true := hc0
    refine ⟨st', h, fun Q a w I hQ => ?_⟩
    cases draw with
    | false =>
      refine wp_region ?_
      have := hrun.wpOps (Q := Q) 0 (fun i _ => by simp) a w I hQ
      simpa [List.range_eq_range'] using this
    | true =>
      have hc' : (backOk all.toList && commOk (befores all.toList []) (List.zipWith (infoOf all) all.toList es)) = true := by
        rcases hc with hc | hc
        · cases hc
        · exact hc
      rw [Bool.and_eq_true] at hc'
      have hrep : ∀ (i : Nat) (d : Bool), i < all.size → (Array.replicate all.size false).getD i d = false := by
        intro i d hi
        simp [Array.getD_eq_getD_getElem?, Array.getElem?_replicate, hi]
      have hrep' : ∀ (i : Nat), (Array.replicate all.size false).getD i false = false := by
        intro i
        by_cases hi : i < all.size
        · exact hrep i false hi
        · simp [Array.getD_eq_getD_getElem?, Array.getElem?_replicate, hi]
      refine wp_region_any hm (any_ok hrun hl hc'.1 hc'.2 hQ all.size _ a _ (by simp) ?_ (fun j hj => ?_) ?_)
      · unfold todo
        rw [List.filter_eq_self.2 (fun i hi => by rw [hrep i true (by simpa using hi)]; rfl), List.length_range]
      · rw [hrep'] at hj; cases hj
      · rw [stS_none _ _ _ _ (fun i _ _ => hrep' i)]
        exact I.drew
  · rw [if_neg hc0] at h; cases h
end

end Go.Proofs.YtndnhbihcnlpaaaDoorSt.Ev

/- The evaluator: where a state is cut; how a call begins and ends. -/
namespace Go.Proofs.YtndnhbihcnlpaaaDoorSt.Ev
open Go

theorem laid_rep {m : Mem} {N : Nat → Prop} {s : Sto} {hd : Nat → Value} {val : Nat → Value} : ∀ {ts : List Nat} {vs : List V}, RepVs m N s hd vs (ts.map val) → ∀ i, RepV m N s hd (laid ts vs i) (val i)
  | [], [], _, _ => trivial
  | t :: ts, v :: vs, ⟨h1, h2⟩, i => by
    simp only [laid]
    by_cases h : i = t
    · rw [if_pos h, h]; exact h1
    · rw [if_neg h]; exact laid_rep h2 i

theorem SInv.zero {m : Mem} {N : Nat → Prop} {size : Nat} (h : ∀ k, N k → k < size) : SInv m N sto0 (fun _ => undef) (fun _ => []) size :=
  ⟨fun _ => rfl, by simp, fun _ => List.nodup_nil, by simp, by simp, h⟩

theorem stOf_rep {m : Mem} {N : Nat → Prop} {size : Nat} {τ : Ty} {x : τ.den} {ts : List Nat} {val : Nat → Value} {G : List Nat} (h : RepAs m N τ x (ts.map val) G) (hnd : G.Nodup) (hG : ∀ k ∈ G, k < size ∧ ¬ N k) (hN : ∀ k, N k → k < size) :
    ∃ hd F, SInv m N (stOf ts τ x).o hd F size ∧ (∀ i k, k ∈ F i → k ∈ G) ∧ ∀ t, RepV m N (stOf ts τ x).o hd ((stOf ts τ x).t t) (val t) := by
  obtain ⟨hd, F, k, r, _⟩ := injFs_ok τ x sto0 1000000 (SInv.zero (m := m) hN) h ⟨hnd, fun k hk => (hG k hk).1, fun k hk => (hG k hk).2, by simp⟩
  refine ⟨hd, F, k.inv, fun i j hj => ?_, fun t => laid_rep r t⟩
  rcases k.sub i j hj with h | h
  · simp at h
  · exact h

section
variable {E : Env} {X : Ctx}

theorem Inv.vals {st : St} {a : Act} {w : World} {N : Nat → Prop} {hd : Nat → Value} {F : Nat → List Nat} (I : InvD X st a w N hd F) : ∀ ts : List Nat, RepVs (memOf w) N st.o hd (ts.map st.t) (ts.map fun t => a.tmps.getD t undef)
  | [] => trivial
  | t :: ts => ⟨I.t t, Inv.vals I ts⟩

/-- A state is cut down to some temporaries. -/
theorem cut_ok {ts : List Nat} {τ : Ty} {x : τ.den} {st : St} (h : prSt ts τ st = some x) {a : Act} {w : World} (I : Inv X st a w) : Inv X (stOf ts τ x) a w := by
  unfold prSt at h
  split at h
  · rename_i q hq
    obtain rfl := Option.some.inj h
    obtain ⟨N, hd, F, I⟩ := I
    obtain ⟨N1, F1, G, j⟩ := prFs_ok false _ _ _ _ _ hq I.s (Inv.vals I ts)
    obtain ⟨hd2, F2, k1, k2, k3⟩ := stOf_rep (m := memOf w) (N := N1) (size := w.heap.size) (ts := ts) (val := fun t => a.tmps.getD t undef) j.rep j.nod (fun k hk => by
      obtain ⟨⟨i, hi⟩, h2, _⟩ := j.own k hk
      exact ⟨I.s.ltF i k hi, h2⟩) j.inv.ltN
    refine ⟨N1, hd2, F2, k1, k3, I.defers, I.size, I.io, I.fr.move (Moves.refl w) (by simp) j.up (fun k hk => ?_) (fun i k hk => ?_)⟩
    · rcases j.new k hk with h | h
      · exact .inl h
      · exact .inr (.inl h)
    · exact .inl (j.own k (k2 i k hk)).1
  · cases h

theorem lookup_mem {t b : Nat} : ∀ l : List (Nat × Nat), l.lookup t = some b → (t, b) ∈ l
  | [], h => by cases h
  | (p1, p2) :: r, h => by
    rw [List.lookup_cons] at h
    split at h
    · rename_i he
      simp only [beq_iff_eq] at he
      obtain rfl := Option.some.inj h
      rw [he]; exact List.mem_cons_self ..
    · exact List.mem_cons_of_mem _ (lookup_mem r h)
/-- What a box's cell stands for: the value that lies in memory there. -/
theorem cellOf_rep {st : St} {a : Act} {w : World} {N : Nat → Prop} {hd : Nat → Value} {F : Nat → List Nat} (I : InvD X st a w N hd F) {b off : Nat} {c : C} (h : cellOf st b off = some c) :
    ∃ (g : Nat) (es : List Value) (T : TypeId) (v : Value), a.tmps.getD b undef = .pointer (some ⟨g, 0, none⟩) ∧ memOf w g = some (.cells ⟨es⟩ T (0, 0)) ∧ es[off]? = some v ∧ RepC (memOf w) N st.o hd c v := by
  unfold cellOf at h
  split at h
  · rename_i id ver e1
    split at h
    · rename_i w' cs hs
      split at h
      · rename_i hv
        subst hv
        have r1 := I.t b; rw [e1] at r1
        obtain ⟨g, e2, e3⟩ := r1.2.2 (by rw [hs]) (by rw [hs]; rfl)
        have hob := I.s.obj id
        rw [hs] at hob
        obtain ⟨g', es, T, e4, e5, e6, _⟩ := hob
        rw [e2] at e4
        simp only [Value.pointer.injEq, Option.some.injEq, Addr.mk.injEq, and_true] at e4
        subst e4
        have key : ∀ (cs : List C) (es : List Value) (off : Nat), RepCs (memOf w) N st.o hd cs es → cs[off]? = some c → ∃ v, es[off]? = some v ∧ RepC (memOf w) N st.o hd c v := by
          intro cs
          induction cs with
          | nil => intro es off _ h; simp at h
          | cons d r ih =>
            intro es off hr h
            cases es with
            | nil => exact hr.elim
            | cons v es =>
              cases off with
              | zero =>
                simp only [List.getElem?_cons_zero, Option.some.injEq] at h
                subst h
                exact ⟨v, rfl, hr.1⟩
              | succ off => simpa using ih es off hr.2 (by simpa using h)
        obtain ⟨v, v1, v2⟩ := key cs es off e6 h
        exact ⟨g, es, T, v, by simpa using e3, e5, v1, v2⟩
      · cases h
    · cases h
  · cases h
theorem cut_okA {ts : List Nat} {al : List (Nat × Nat)} {τ : Ty} {x : τ.den} {st : St} (h : prStA ts al τ st = some x) {a : Act} {w : World} (I : Inv X st a w) : Inv X (stOfA ts al τ x) a w := by
  unfold prStA at h
  split at h
  · rename_i hal
    obtain ⟨N2, hd2, F2, I2⟩ := cut_ok h I
    obtain ⟨N, hd, F, I⟩ := I
    refine ⟨N2, hd2, F2, I2.s, fun t => ?_, I2.defers, I2.size, I2.io, I2.fr⟩
    show RepV (memOf w) N2 (stOf ts τ x).o hd2 (match al.lookup t with
      | some b => if b < 65536 then (stOf ts τ x).t b else match cellOf (stOf ts τ x) (b % 65536) (b / 65536 - 1) with
        | some c => .one c
        | none => .undef
      | none => (stOf ts τ x).t t) _
    split
    · rename_i b hb
      have h1 := (List.all_eq_true.1 hal) _ (lookup_mem al hb)
      simp only at h1
      split
      · rename_i hlt
        rw [if_pos hlt] at h1
        split at h1
        · rename_i i v j u e1 e2
          simp only [Bool.and_eq_true, beq_iff_eq] at h1
          obtain ⟨rfl, rfl, h3, h4⟩ := h1
          have r1 := I.t t; rw [e1] at r1
          have r2 := I.t b; rw [e2] at r2
          have q1 : a.tmps.getD t undef = hd i := r1.2.2 h3 h4
          have q2 : a.tmps.getD b undef = hd i := r2.2.2 h3 h4
          rw [q1, ← q2]
          exact I2.t b
        · cases h1
      · rename_i hlt
        rw [if_neg hlt] at h1
        split
        · rename_i c hc
          split at h1
          · rename_i i v j u e1 e2
            simp only [Bool.and_eq_true, beq_iff_eq] at h1
            obtain ⟨rfl, rfl, h3, h4⟩ := h1
            have r1 := I.t t; rw [e1] at r1
            have q1 : a.tmps.getD t undef = hd i := r1.2.2 h3 h4
            obtain ⟨g, es, T, v1, a1, a2, a3, a4⟩ := cellOf_rep I e2
            obtain ⟨g', es', T', v2, b1, b2, b3, b4⟩ := cellOf_rep I2 hc
            have q2 : v1 = hd i := a4.2.2 h3 h4
            rw [a1] at b1
            simp only [Value.pointer.injEq, Option.some.injEq, Addr.mk.injEq, and_true] at b1
            subst b1
            rw [a2] at b2
            simp only [Option.some.injEq, Go.Obj.cells.injEq] at b2
            have : es = es' := by
              have := b2.1
              simpa using this
            subst this
            rw [a3] at b3
            obtain rfl := Option.some.inj b3
            rw [q1, ← q2]
            exact b4
          · cases h1
        · trivial
    · exact I2.t t
  · cases h

theorem RepAs.length {m : Mem} {N : Nat → Prop} : ∀ {τs : Ty} {x : τs.den} {us : List Value} {G : List Nat}, RepAs m N τs x us G → us.length = nFs τs
  | .nil, _, us, _, h => by rw [h.1]; rfl
  | .cons a r, _, _ :: us, _, ⟨_, _, _, _, h⟩ => by simp [nFs, RepAs.length h]

theorem ioTmps_le : ∀ (io : List Bool) (i : Nat), ∀ j ∈ ioTmps io i, i ≤ j ∧ j < i + io.length
  | [], _, _, h => by simp [ioTmps] at h
  | true :: io, i, j, h => by
    simp only [ioTmps] at h
    rcases List.mem_cons.1 h with rfl | h
    · simp
    · have := ioTmps_le io (i + 1) j h
      simp; omega
  | false :: io, i, j, h => by
    simp only [ioTmps] at h
    have := ioTmps_le io (i + 1) j h
    simp; omega

theorem ioOk_len : ∀ {io : List Bool} {τs : Ty}, ioOk io τs = true → io.length = nFs τs
  | [], .nil, _ => rfl
  | _ :: io, .cons _ r, h => by simp [nFs, ioOk_len (io := io) (τs := r) h]
  | [], .bool, h | [], .int _, h | [], .str, h | [], .sl _, h | [], .own _, h | [], .agg _, h | [], .cons _ _, h | [], .ptr _, h | [], .box _, h | [], .fn _ _, h | [], .tree, h | [], .unk, h | [], .opq, h | [], .map _, h | [], .mv _, h | [], .imap _, h | [], .iter _, h | [], .optr _, h => by simp [ioOk] at h
  | _ :: _, .nil, h | _ :: _, .bool, h | _ :: _, .int _, h | _ :: _, .str, h | _ :: _, .sl _, h | _ :: _, .own _, h | _ :: _, .agg _, h | _ :: _, .ptr _, h | _ :: _, .box _, h | _ :: _, .fn _ _, h | _ :: _, .tree, h | _ :: _, .unk, h | _ :: _, .opq, h | _ :: _, .map _, h | _ :: _, .mv _, h | _ :: _, .imap _, h | _ :: _, .iter _, h | _ :: _, .optr _, h => by simp [ioOk] at h

theorem back_of_as {m : Mem} {N : Nat → Prop} : ∀ (io : List Bool) (τs : Ty) (z : (ioTy io τs).den) (us : List Value) (i : Nat) (val : Nat → Value) (G : List Nat), ioOk io τs = true → us.length = io.length → (∀ j (h : j < us.length), val (i + j) = us[j]) →
    RepAs m N (ioTy io τs) z ((ioTmps io i).map val) G → RepBack m N io τs z us G
  | [], .nil, z, [], i, val, G, _, _, _, h => h.2
  | true :: io, .cons a r, z, u :: us, i, val, G, ho, hl, hv, h => by
    obtain ⟨F1, F2, e, h1, h2⟩ := h
    have h0 : val i = u := hv 0 (by simp)
    rw [h0] at h1
    exact ⟨F1, F2, e, h1, back_of_as io r z.2 us (i + 1) val F2 ho (by simpa using hl) (fun j hj => by
      have := hv (j + 1) (by simpa using hj)
      rw [Nat.add_assoc, Nat.add_comm 1]; simpa using this) h2⟩
  | false :: io, .cons a r, z, u :: us, i, val, G, ho, hl, hv, h =>
    back_of_as io r z us (i + 1) val G ho (by simpa using hl) (fun j hj => by
      have := hv (j + 1) (by simpa using hj)
      rw [Nat.add_assoc, Nat.add_comm 1]; simpa using this) h
  | [], .nil, _, _ :: _, _, _, _, _, hl, _, _ => by simp at hl
  | _ :: _, .cons _ _, _, [], _, _, _, _, hl, _, _ => by simp at hl
  | [], .bool, _, _, _, _, _, h, _, _, _ | [], .int _, _, _, _, _, _, h, _, _, _ | [], .str, _, _, _, _, _, h, _, _, _ | [], .sl _, _, _, _, _, _, h, _, _, _ | [], .own _, _, _, _, _, _, h, _, _, _ | [], .agg _, _, _, _, _, _, h, _, _, _ | [], .cons _ _, _, _, _, _, _, h, _, _, _
  | [], .ptr _, _, _, _, _, _, h, _, _, _ | [], .box _, _, _, _, _, _, h, _, _, _ | [], .fn _ _, _, _, _, _, _, h, _, _, _ | [], .tree, _, _, _, _, _, h, _, _, _ | [], .unk, _, _, _, _, _, h, _, _, _ | [], .opq, _, _, _, _, _, h, _, _, _ | [], .map _, _, _, _, _, _, h, _, _, _ | [], .mv _, _, _, _, _, _, h, _, _, _ | [], .imap _, _, _, _, _, _, h, _, _, _ | [], .iter _, _, _, _, _, _, h, _, _, _ | [], .optr _, _, _, _, _, _, h, _, _, _ => by simp [ioOk] at h
  | _ :: _, .nil, _, _, _, _, _, h, _, _, _ | _ :: _, .bool, _, _, _, _, _, h, _, _, _ | _ :: _, .int _, _, _, _, _, _, h, _, _, _ | _ :: _, .str, _, _, _, _, _, h, _, _, _ | _ :: _, .sl _, _, _, _, _, _, h, _, _, _ | _ :: _, .own _, _, _, _, _, _, h, _, _, _ | _ :: _, .agg _, _, _, _, _, _, h, _, _, _
  | _ :: _, .ptr _, _, _, _, _, _, h, _, _, _ | _ :: _, .box _, _, _, _, _, _, h, _, _, _ | _ :: _, .fn _ _, _, _, _, _, _, h, _, _, _ | _ :: _, .tree, _, _, _, _, _, h, _, _, _ | _ :: _, .unk, _, _, _, _, _, h, _, _, _ | _ :: _, .opq, _, _, _, _, _, h, _, _, _ | _ :: _, .map _, _, _, _, _, _, h, _, _, _ | _ :: _, .mv _, _, _, _, _, _, h, _, _, _ | _ :: _, .imap _, _, _, _, _, _, h, _, _, _ | _ :: _, .iter _, _, _, _, _, _, h, _, _, _ | _ :: _, .optr _, _, _, _, _, _, h, _, _, _ => by simp [ioOk] at h

theorem resVs_ok {P : Program} {R : Type} {r : R} {g : ResultVar → Sem Value} {st : St} {a : Act} {w : World} (hg1 : ∀ t, g (.tmp t) = pure (a.tmps.getD t undef)) (hg2 : ∀ x t, g (.cell x t) = do loadVar t (← asAddr (a.tmps.getD x undef)))
    {N : Nat → Prop} {hd : Nat → Value} {F : Nat → List Nat} (I : InvD X st a w N hd F) : ∀ (res : List ResultVar) (K : List V → Option R), resVs P st res K = some r →
      ∃ vs us, K vs = some r ∧ RepVs (memOf w) N st.o hd vs us ∧ Sem.run P (res.mapM g) w = .ok us w
  | [], K, h => ⟨[], [], h, trivial, by simp⟩
  | .tmp t :: res, K, h => by
    obtain ⟨vs, us, h1, h2, h3⟩ := resVs_ok hg1 hg2 I res _ h
    refine ⟨_, a.tmps.getD t undef :: us, h1, ⟨I.t t, h2⟩, ?_⟩
    rw [List.mapM_cons, hg1, Sem.run_bind]
    simp only [Sem.run_pure, Result.andThen_ok]
    rw [Sem.run_bind, h3]
    simp
  | .cell x t :: res, K, h => by
    simp only [resVs] at h
    split at h
    · rename_i c hc
      obtain ⟨cs, m, h, hat⟩ := cellsAt_ok h
      split at h
      · rename_i hif
        obtain ⟨hok, hl, hs1⟩ := hif
        obtain ⟨vs, us, h1, h2, h3⟩ := resVs_ok hg1 hg2 I res _ h
        have hx := I.t x
        rw [hc] at hx
        obtain ⟨b, off, us', e1, e2, e3⟩ := hat st.o (fun _ _ => rfl) I.s _ hx
        have hlu : (us'.take (szP P t)).length = szP P t := by
          have := e2.len; simp only [List.length_take] at hl ⊢; omega
        obtain ⟨u, hr, hu⟩ := run_loadVar e3 hok hlu hs1
        refine ⟨_, u :: us, h1, ⟨(ofCells_rep e2.take hu).1, h2⟩, ?_⟩
        rw [List.mapM_cons, hg2, e1, Sem.run_bind]
        simp only [asAddr, Sem.run_bind, Sem.run_pure, Result.andThen_ok, hr, h3]
      · cases h
    · cases h

theorem run_results {P : Program} {R : Type} {r : R} {fn : Func} {st : St} {a : Act} {w : World} {N : Nat → Prop} {hd : Nat → Value} {F : Nat → List Nat} (I : InvD X st a w N hd F) {K : List V → Option R} (h : resVs P st fn.results.toList K = some r) :
    ∃ vs us, K vs = some r ∧ RepVs (memOf w) N st.o hd vs us ∧ (results fn a.tmps).run P w = .ok (retOf us) w := by
  unfold results
  obtain ⟨vs, us, h1, h2, h3⟩ := resVs_ok (P := P) (g := fun
    | .tmp t => pure (a.tmps.getD t undef)
    | .cell x t => do loadVar t (← asAddr (a.tmps.getD x undef))) (fun _ => rfl) (fun _ _ => rfl) I fn.results.toList K h
  refine ⟨vs, us, h1, h2, ?_⟩
  have h3' : Sem.run P (fn.results.mapM fun
    | .tmp t => pure (a.tmps.getD t undef)
    | .cell x t => do loadVar t (← asAddr (a.tmps.getD x undef))) w = .ok us.toArray w := by
    rw [Array.mapM_eq_mapM_toList, Sem.run_map, h3]; rfl
  rw [Sem.run_bind]
  refine (congrArg (fun q => Result.andThen q _) h3').trans ?_
  simp only [Result.andThen_ok, Sem.run_pure]
  match us with
  | [] => rfl
  | [t] => rfl
  | t :: t' :: l =>
    have : ¬ ((t :: t' :: l).toArray.size = 1) := by simp
    rw [dif_neg this]; rfl

/-- How a call ends: what it hands back stands in memory. -/
def RetAt (E : Env) (f : Nat) (fn : Func) (us : List Value) (X : Ctx) (y : E.Ret f) (a : Act) (w : World) : Prop :=
  a.defers = [] ∧ ∃ v, (results fn a.tmps).run E.P w = .ok v w ∧ ∃ N' rs G1 G2, Done E f y.1 y.2 us X.F0 X.N0 X.w0 v w N' rs G1 G2


theorem prRet_ok {f : Nat} {fn : Func} {res : List ResultVar} {us : List Value} {st : St} {y : E.Ret f} (h : prRet E f res st = some y) (hres : fn.results.toList = res) (hio : X.io = ioTmps (E.io f) 0) (hok : ioOk (E.io f) (E.ps f) = true) (hus : us.length = (E.io f).length)
    (hav : ∀ j, X.av j = us.getD j undef) {a : Act} {w : World} (I : Inv X st a w) : RetAt E f fn us X y a w := by
  subst hres
  unfold prRet at h
  obtain ⟨N, hd, F, I⟩ := I
  obtain ⟨vs, rvs, h, hvs, hrun⟩ := run_results I h
  split at h
  · rename_i p hp
    split at h
    · rename_i q hq
      obtain rfl := Option.some.inj h
      obtain ⟨N1, F1, G1, j1⟩ := prFs_ok false _ _ _ _ _ hp I.s hvs
      have hv2 : RepVs (memOf w) N1 p.s hd ((ioTmps (E.io f) 0).map st.t) ((ioTmps (E.io f) 0).map fun t => a.tmps.getD t undef) := RepVs.goes (fun b hb => ⟨j1.up b hb, rfl⟩) j1.goes (Inv.vals I _)
      obtain ⟨N2, F2, G2, j2⟩ := prFs_ok false _ _ _ _ _ hq j1.inv hv2
      have hold : ∀ i k, k ∈ F i → k ∈ X.F0 ∨ X.w0.heap.size ≤ k := fun i k hk => (I.fr.own i k hk).symm
      have hmap : ((ioTmps (E.io f) 0).map fun t => a.tmps.getD t undef) = (ioTmps (E.io f) 0).map X.av := List.map_congr_left fun t ht => I.io t (by rw [hio]; exact ht)
      have hrep2 := j2.rep
      rw [hmap] at hrep2
      refine ⟨I.defers, _, hrun, N2, rvs, G1, G2, ⟨I.fr.os, I.fr.tape, I.fr.output, I.fr.size, I.fr.block⟩, fun k hk => j2.up k (j1.up k (I.fr.up k hk)), fun k hk => ?_, j2.inv.ltN, rfl, RepAs.mono (fun b hb => ⟨j2.up b hb, rfl⟩) (fun _ _ => rfl) j1.rep,
        back_of_as (E.io f) (E.ps f) q.x us 0 X.av G2 hok hus (fun j hj => by rw [hav, Nat.zero_add]; simp [List.getD, List.getElem?_eq_getElem hj]) hrep2, ?_, fun k hk => ?_⟩
      · have h1 : N k ∨ ∃ i, k ∈ F i := by
          rcases j2.new k hk with h | ⟨i, h⟩
          · exact j1.new k h
          · exact .inr ⟨i, j1.sub i k h⟩
        rcases h1 with h | ⟨i, h⟩
        · rcases I.fr.new k h with h | h | h
          · exact .inl h
          · exact .inr (.inr h)
          · exact .inr (.inl h)
        · rcases I.fr.own i k h with h | h
          · exact .inr (.inr h)
          · exact .inr (.inl h)
      · rw [List.nodup_append]
        refine ⟨j1.nod, j2.nod, fun k hk k' hk' e => ?_⟩
        subst e
        obtain ⟨⟨i, hi⟩, _⟩ := j2.own k hk'
        exact (j1.own k hk).2.2 i hi
      · rcases List.mem_append.1 hk with h | h
        · obtain ⟨⟨i, hi⟩, h2, h3⟩ := j1.own k h
          refine ⟨I.s.ltF i k hi, fun hn => ?_, hold i k hi⟩
          rcases j2.new k hn with h' | ⟨i', h'⟩
          · exact h2 h'
          · exact h3 i' h'
        · obtain ⟨⟨i, hi⟩, h2, h3⟩ := j2.own k h
          exact ⟨I.s.ltF i k (j1.sub i k hi), h2, hold i k (j1.sub i k hi)⟩
    · cases h
  · cases h

/-- How a call begins. -/
theorem enter_ok {f : Nat} {x : (E.ps f).den} {w : World} {N : Nat → Prop} {us : List Value} {G : List Nat} (h : RepAs (memOf w) N (E.ps f) x us G) (hnd : G.Nodup) (hG : ∀ k ∈ G, k < w.heap.size ∧ ¬ N k) (hN : ∀ k, N k → k < w.heap.size) {nt : Nat} (hnt : us.length ≤ nt) :
    Inv { w0 := w, N0 := N, F0 := G, nt := nt, io := ioTmps (E.io f) 0, av := fun j => us.getD j undef } (stOf (List.range (nFs (E.ps f))) (E.ps f) x) { tmps := us.toArray ++ Array.replicate (nt - us.toArray.size) undef, defers := [] } w ∨ ¬ (∀ j ∈ ioTmps (E.io f) 0, j < us.length) := by
  by_cases hj : ∀ j ∈ ioTmps (E.io f) 0, j < us.length
  · left
    have hget : ∀ t, t < us.length → (us.toArray ++ Array.replicate (nt - us.toArray.size) undef).getD t undef = us.getD t undef := by
      intro t ht
      simp [Array.getD_eq_getD_getElem?, List.getD, Array.getElem?_append, ht]
    have hmap : (List.range (nFs (E.ps f))).map (fun t => (us.toArray ++ Array.replicate (nt - us.toArray.size) undef).getD t undef) = us := by
      rw [← h.length]
      apply List.ext_getElem
      · simp
      · intro i h1 h2
        simp only [List.getElem_map, List.getElem_range]
        rw [hget i h2]
        simp [List.getD, List.getElem?_eq_getElem h2]
    obtain ⟨hd, F, k1, k2, k3⟩ := stOf_rep (m := memOf w) (N := N) (size := w.heap.size) (τ := E.ps f) (x := x) (ts := List.range (nFs (E.ps f))) (val := fun t => (us.toArray ++ Array.replicate (nt - us.toArray.size) undef).getD t undef) (G := G) (by rw [hmap]; exact h) hnd hG hN
    exact ⟨N, hd, F, k1, k3, rfl, by simp; omega, fun j hj' => hget j (hj j hj'), ⟨rfl, rfl, rfl, Nat.le_refl _, fun _ _ _ => rfl, fun _ h => h, fun _ h => .inl h, fun i k hk => .inr (k2 i k hk)⟩⟩
  · exact .inr hj

end

end Go.Proofs.YtndnhbihcnlpaaaDoorSt.Ev
